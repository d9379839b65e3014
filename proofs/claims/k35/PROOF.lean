import PyProof.Rows.All
import Wide.All
import OpenK.AllK
import Wide.FinOn
import HandS.ForMost
import HandS.ForExc
import HandS.Wide
import HandS.WideBits
import HandS.TupAny
import HandS.TupMul
import HandS.IsInst
import HandS.CallSlots
import HandS.Zip
import HandS.Rev
import HandS.Style
import HandS.Dict
import KE.KeyNested
import KE.KDictKeyed
import HandS.Lambda
import HandS.EndBits
import KE.KExcSuper
import KE.KSuper
import KE.KExcIs
import HandS.ExcField
import HandS.ExcIs
import HandS.TryMany
import HandS.Conv
import KE.GoesEnum
import HandS.TupLen
import HandS.Deep
import HandS.More
import HandS.SortInts
import HandS.SortKw
import KE.SortKeyHeap
import PyProof.TupleOfSeq
import PyProof.ReprRoads
import PyProof.ReprText
import KE.LtData
import KE.DataCmp
import PyProof.FactsAll.tuple_2
import HandS.DictTup
import KE.KDictItemsList
import KE.KDictPairs
import HandS.EndTab
import HandS.Property
import HandS.NamedTupGet
import HandS.Defaults
import PySem.Challenge.RW_sameshape_k35_running_a_recipe
set_option Elab.async false
set_option linter.all false
set_option maxRecDepth 100000
set_option maxHeartbeats 8000000
/-! ML1: data by value over the hand layer: what a piece of syntax does, as a plain function of the slots' data and a store of lists. -/
namespace ML
open PySem PySem.Spec L2
/-! ### the data -/
inductive A where
  | non | bl (b : Bool) | int (i : Int) | str (x : Str) | tup (xs : List A) | scr (xs : List A) | ref (i : Nat)
/-- objects that are no lists -/
inductive Ob2 where
  | dct (kvs : List (PySem.NestedKey × A))
  | frd (kvs : List (PySem.NestedKey × A))
  | ins (cls : Str) (fs : List (Str × A))
  | tab (n : Str)
inductive Ob where
  | lst (xs : List A)
  | oth (u : Ob2)
structure Er where
  cls : Str
  fs : List (Str × A)
inductive R (α : Type) where
  | ok (a : α) (st : List Ob) | er (e : Er) (st : List Ob) | bad
abbrev Store := List Ob
abbrev Env := List (Option A)
def R.bind {α β : Type} (r : R α) (f : α → Store → R β) : R β := match r with
  | .ok a st => f a st
  | .er e st => .er e st
  | .bad => .bad
abbrev MX := Env → Store → R A
abbrev MT := Env → Store → R Bool
abbrev MA := Env → Store → R (List A)
/-! ### how it lies in the heap -/
def KTup (K : PySem.W.Frag) (a : Addr) (xs : List V) : Prop := ∃ (o : Obj) (its : Array Value) (n : Nat), K.lookup a = some o ∧ o.cls = .type "tuple" ∧ o.dict = none ∧ o.data = .seq its n ∧ its.size ≤ sizeLine ∧ Vals xs its.toList
def KLst (K : PySem.W.Frag) (a : Addr) (xs : List V) : Prop := ∃ (o : Obj) (its : Array Value) (n : Nat), K.lookup a = some o ∧ o.cls = .type "list" ∧ o.dict = none ∧ o.data = .seq its n ∧ its.size ≤ sizeLine ∧ Vals xs its.toList
/-- a tuple without a dict of its own, as it lies -/
def HPl (H : Hp) (a : Addr) (xs : List V) : Prop := ∃ o : Obj, o.dict = none ∧ H a = some (.frz o (.tup xs))
def StT (K : PySem.W.Frag) (φ : List Addr) (H : Hp) (a : Addr) (xs : List V) : Prop := (HPl H a xs ∧ a ∉ φ) ∨ KTup K a xs
/-- a new tuple -/
abbrev NewT (H : Hp) (xs : List V) (Q : V → Hp → Prop) : Prop := ∀ (p : Addr) (o : Obj), o.dict = none → H p = none → Q (.ref p) (upd H p (.frz o (.tup xs)))
def StL (K : PySem.W.Frag) (φ : List Addr) (H : Hp) (a : Addr) (xs : List V) : Prop := ((∃ o, H a = some (.frz o (.lst xs))) ∧ a ∉ φ) ∨ KLst K a xs
mutual
inductive RV (K : PySem.W.Frag) (φ : List Addr) (H : Hp) : V → A → Prop
  | non : RV K φ H .non .non
  | bl (b : Bool) : RV K φ H (.bl b) (.bl b)
  | int (i : Int) : RV K φ H (.int i) (.int i)
  | str (x : Str) : RV K φ H (.str x) (.str x)
  | tup {a : Addr} {xs : List V} {ds : List A} : StT K φ H a xs → RVs K φ H xs ds → RV K φ H (.ref a) (.tup ds)
  | scr {a : Addr} {xs : List V} {ds : List A} : StL K φ H a xs → RVs K φ H xs ds → RV K φ H (.ref a) (.scr ds)
  | ref {a : Addr} {i : Nat} : φ[i]? = some a → RV K φ H (.ref a) (.ref i)
inductive RVs (K : PySem.W.Frag) (φ : List Addr) (H : Hp) : List V → List A → Prop
  | nil : RVs K φ H [] []
  | cons {v : V} {vs : List V} {d : A} {ds : List A} : RV K φ H v d → RVs K φ H vs ds → RVs K φ H (v :: vs) (d :: ds)
end
/-! ### dicts: keys as data -/
mutual
def aOf : PySem.NestedKey → A
  | .none => .non
  | .num i => .int i
  | .text x => .str x
  | .tup ks => .tup (aOfs ks)
def aOfs : List PySem.NestedKey → List A
  | [] => []
  | k :: ks => aOf k :: aOfs ks
end
mutual
def keyOf : A → Option PySem.NestedKey
  | .non => some .none
  | .int i => some (.num i)
  | .str x => some (.text x)
  | .tup xs => match keysOf xs with
    | some ks => some (.tup ks)
    | none => none
  | _ => none
def keysOf : List A → Option (List PySem.NestedKey)
  | [] => some []
  | x :: xs => match keyOf x, keysOf xs with
    | some k, some ks => some (k :: ks)
    | _, _ => none
end
def nk : Key → PySem.NestedKey
  | .inl i => .num i
  | .inr x => .text x
/-- what is true of the one object of a dict whose keys are tuples -/
def DRaw (w : World) (a : Addr) (xs : List (PySem.NestedKey × Addr × Value)) (h : Heap) : Prop :=
  ∃ o es ep, h.get? a = some o ∧ o.ExactDict ∧ o.data = .dict es ep ∧ es.toList = xs.map (fun x => ⟨x.1.hash w, .ref x.2.1, x.2.2⟩) ∧ (xs.map (·.1)).Nodup
def RDk (K : PySem.W.Frag) (φ : List Addr) (H : Hp) (a : Addr) (kvs : List (PySem.NestedKey × A)) : Prop :=
  ∃ ks : List (Key × V), H a = some (.dK ks) ∧ kvs.map (·.1) = ks.map (fun x => nk x.1) ∧ RVs K φ H (ks.map (·.2)) (kvs.map (·.2))
def RDt (K : PySem.W.Frag) (w : World) (φ : List Addr) (H : Hp) (a : Addr) (kvs : List (PySem.NestedKey × A)) : Prop :=
  ∃ (xs : List (PySem.NestedKey × Addr × Value)) (vs : List V), kvs ≠ [] ∧ H a = some (.ext (DRaw w a xs)) ∧ (a == sysModules) = false ∧ xs.length ≤ sizeLine ∧ xs.map (·.1) = kvs.map (·.1) ∧
    (∀ x ∈ xs, RV K φ H (.ref x.2.1) (aOf x.1) ∧ x.1.depth ≤ 8) ∧ Vals vs (xs.map (·.2.2)) ∧ RVs K φ H vs (kvs.map (·.2))
/-- the table of the code objects that the def n makes -/
def TabIs (K : PySem.W.Frag) (mg : Str → Option Value) (n : Str) (p : Addr) : Prop := ∃ (f c : Addr) (fo co : Obj) (fd : FuncData) (vs : Array Value),
  mg n = some (.ref f) ∧ K.lookup f = some fo ∧ fo.data = .func fd ∧ fd.code = .ref c ∧ K.lookup c = some co ∧ co.data = .fields vs ∧ vs[11]? = some (.ref p)
def RO2 (K : PySem.W.Frag) (w : World) (mg : Str → Option Value) (φ : List Addr) (H : Hp) (a : Addr) : Ob2 → Prop
  | .dct kvs => RDk K φ H a kvs ∨ RDt K w φ H a kvs
  | .frd kvs => ∃ (od : Obj) (ks : List (Key × V)), H a = some (.frz od (.dK ks)) ∧ kvs.map (·.1) = ks.map (fun x => nk x.1) ∧ RVs K φ H (ks.map (·.2)) (kvs.map (·.2))
  | .ins cls fs => ∃ (C dx : Addr) (vs : List V), mg cls = some (.ref C) ∧ H a = some (.ins C dx ((fs.map (·.1)).zip vs)) ∧ H dx = some (.own a) ∧ dx ∉ φ ∧ RVs K φ H vs (fs.map (·.2))
  | .tab n => TabIs K mg n a ∧ ∃ ps : Array Value, H a = some (.tbl ps) ∧ PySem.TriplesOk ps.toList ∧ ∀ (pos : Pos) (cv : Value), codeAmong pos ps.toList = some cv → ∃ c, cv = .ref c ∧ H c = some (LamX.CodeO c (n ++ ".<locals>." ++ "<lambda>")) ∧ c ∉ φ
def RO (K : PySem.W.Frag) (w : World) (mg : Str → Option Value) (φ : List Addr) (H : Hp) (a : Addr) : Ob → Prop
  | .lst ds => ∃ xs, H a = some (.lst xs) ∧ RVs K φ H xs ds
  | .oth u => RO2 K w mg φ H a u
structure RS (K : PySem.W.Frag) (w : World) (mg : Str → Option Value) (φ : List Addr) (H : Hp) (st : Store) : Prop where
  len : φ.length = st.length
  nd : φ.Nodup
  all : ∀ (i : Nat) (a : Addr) (o : Ob), φ[i]? = some a → st[i]? = some o → RO K w mg φ H a o
structure Ext (φ : List Addr) (H : Hp) (φ' : List Addr) (H' : Hp) : Prop where
  pre : ∃ t, φ' = φ ++ t
  fr : ∀ a o, a ∉ φ → H a = some o → H' a = some o ∧ a ∉ φ'
  fz : ∀ a o u, H a = some (.frz o u) → H' a = some (.frz o u)
structure RE (K : PySem.W.Frag) (φ : List Addr) (H : Hp) (σ : St) (ρ : Env) : Prop where
  len : σ.length = ρ.length
  all : ∀ (i : Nat) (d : A), ρ[i]? = some (some d) → ∃ v, σ[i]? = some (some v) ∧ RV K φ H v d
def RErr (K : PySem.W.Frag) (mg : Str → Option Value) (φ : List Addr) (H : Hp) (c : Value) (d : Option Addr) (e : Er) : Prop :=
  mg e.cls = some c ∧ ((e.fs = [] ∧ d = none) ∨ ∃ dx xs, d = some dx ∧ H dx = some (.xd xs) ∧ dx ∉ φ ∧ xs.map (·.1) = e.fs.map (·.1) ∧ RVs K φ H (xs.map (·.2)) (e.fs.map (·.2)))
section
variable {K : PySem.W.Frag} {w : World} {φ φ' φ2 : List Addr} {H H' H2 : Hp} {st : Store} {σ : St} {ρ : Env} {mg : Str → Option Value}
theorem Ext.refl : Ext φ H φ H := ⟨⟨[], by simp⟩, fun a o n h => ⟨h, n⟩, fun _ _ _ h => h⟩
theorem Ext.trans (a : Ext φ H φ' H') (b : Ext φ' H' φ2 H2) : Ext φ H φ2 H2 := by
  obtain ⟨⟨t, rfl⟩, f1, z1⟩ := a
  obtain ⟨⟨u, rfl⟩, f2, z2⟩ := b
  refine ⟨⟨t ++ u, by simp⟩, fun a o n h => ?_, fun a o u h => z2 _ _ _ (z1 _ _ _ h)⟩
  obtain ⟨h1, n1⟩ := f1 a o n h
  exact f2 a o n1 h1
theorem Ext.get (e : Ext φ H φ' H') {i : Nat} {a : Addr} (h : φ[i]? = some a) : φ'[i]? = some a := by
  obtain ⟨t, rfl⟩ := e.pre
  rw [List.getElem?_append_left (List.getElem?_eq_some_iff.mp h).1]
  exact h
theorem StT.sq {a : Addr} {xs : List V} (h : StT K φ H a xs) : SqT K H a xs := h.elim (fun ⟨⟨o, _, x⟩, _⟩ => .inl (.inr ⟨o, x⟩)) fun ⟨o, its, n, h1, h2, _, h3, h4, h5⟩ => .inr ⟨o, its, n, h1, h2, h3, h4, h5⟩
theorem StL.sq {a : Addr} {xs : List V} (h : StL K φ H a xs) : SqL K H a xs := h.elim (fun ⟨⟨o, x⟩, _⟩ => .inl (.inr ⟨o, x⟩)) .inr
theorem StT.ext {a : Addr} {xs : List V} (h : StT K φ H a xs) (e : Ext φ H φ' H') : StT K φ' H' a xs := by
  rcases h with ⟨⟨o, hd, h⟩, n⟩ | h
  · obtain ⟨x, m⟩ := e.fr _ _ n h
    exact .inl ⟨⟨o, hd, x⟩, m⟩
  · exact .inr h
theorem StL.ext {a : Addr} {xs : List V} (h : StL K φ H a xs) (e : Ext φ H φ' H') : StL K φ' H' a xs := by
  rcases h with ⟨⟨o, h⟩, n⟩ | h
  · obtain ⟨x, m⟩ := e.fr _ _ n h
    exact .inl ⟨⟨o, x⟩, m⟩
  · exact .inr h
mutual
theorem RV.ext (e : Ext φ H φ' H') : ∀ {v : V} {d : A}, RV K φ H v d → RV K φ' H' v d
  | _, _, .non => .non
  | _, _, .bl b => .bl b
  | _, _, .int i => .int i
  | _, _, .str x => .str x
  | _, _, .tup h q => .tup (h.ext e) (RVs.ext e q)
  | _, _, .scr h q => .scr (h.ext e) (RVs.ext e q)
  | _, _, .ref h => .ref (e.get h)
theorem RVs.ext (e : Ext φ H φ' H') : ∀ {vs : List V} {ds : List A}, RVs K φ H vs ds → RVs K φ' H' vs ds
  | _, _, .nil => .nil
  | _, _, .cons h q => .cons (RV.ext e h) (RVs.ext e q)
end
theorem RVs.length : ∀ {vs : List V} {ds : List A}, RVs K φ H vs ds → vs.length = ds.length
  | _, _, .nil => rfl
  | _, _, .cons _ q => by rw [List.length_cons, List.length_cons, q.length]
theorem RVs.get : ∀ {vs : List V} {ds : List A} {i : Nat} {d : A}, RVs K φ H vs ds → ds[i]? = some d → ∃ v, vs[i]? = some v ∧ RV K φ H v d
  | _, _, _, _, .nil, h => by simp at h
  | _, _, 0, _, .cons q _, h => by simp at h; subst h; exact ⟨_, rfl, q⟩
  | _, _, i + 1, d, .cons _ q, h => by
    obtain ⟨v, h1, h2⟩ := RVs.get (i := i) (d := d) q (by simpa using h)
    exact ⟨v, by simpa using h1, h2⟩
theorem RVs.getV : ∀ {vs : List V} {ds : List A} {i : Nat} {v : V}, RVs K φ H vs ds → vs[i]? = some v → ∃ d, ds[i]? = some d ∧ RV K φ H v d
  | _, _, _, _, .nil, h => by simp at h
  | _, _, 0, _, .cons q _, h => by simp at h; subst h; exact ⟨_, rfl, q⟩
  | _, _, i + 1, d, .cons _ q, h => by
    obtain ⟨v, h1, h2⟩ := RVs.getV (i := i) (v := d) q (by simpa using h)
    exact ⟨v, by simpa using h1, h2⟩
theorem RVs.app : ∀ {vs ws : List V} {ds es : List A}, RVs K φ H vs ds → RVs K φ H ws es → RVs K φ H (vs ++ ws) (ds ++ es)
  | _, _, _, _, .nil, q => q
  | _, _, _, _, .cons h r, q => .cons h (r.app q)
theorem RVs.take : ∀ {vs : List V} {ds : List A} (n : Nat), RVs K φ H vs ds → RVs K φ H (vs.take n) (ds.take n)
  | _, _, 0, _ => .nil
  | _, _, _ + 1, .nil => .nil
  | _, _, n + 1, .cons h q => .cons h (q.take n)
theorem RVs.drop : ∀ {vs : List V} {ds : List A} (n : Nat), RVs K φ H vs ds → RVs K φ H (vs.drop n) (ds.drop n)
  | _, _, 0, q => q
  | _, _, _ + 1, .nil => .nil
  | _, _, n + 1, .cons _ q => q.drop n
theorem RVs.set {v : V} {d : A} (h : RV K φ H v d) : ∀ {vs : List V} {ds : List A} (i : Nat), RVs K φ H vs ds → RVs K φ H (vs.set i v) (ds.set i d)
  | _, _, _, .nil => .nil
  | _, _, 0, .cons _ q => .cons h q
  | _, _, i + 1, .cons r q => .cons r (q.set h i)
theorem RVs.flat {vs : List V} {ds : List A} (q : RVs K φ H vs ds) : ∀ n : Nat, RVs K φ H (List.replicate n vs).flatten (List.replicate n ds).flatten
  | 0 => .nil
  | n + 1 => by
    rw [List.replicate_succ, List.replicate_succ, List.flatten_cons, List.flatten_cons]
    exact q.app (q.flat n)
theorem RVs.erase : ∀ {vs : List V} {ds : List A} (i : Nat), RVs K φ H vs ds → RVs K φ H (vs.eraseIdx i) (ds.eraseIdx i)
  | _, _, _, .nil => .nil
  | _, _, 0, .cons _ q => q
  | _, _, i + 1, .cons r q => .cons r (q.erase i)
theorem RVs.dropLast : ∀ {vs : List V} {ds : List A}, RVs K φ H vs ds → RVs K φ H vs.dropLast ds.dropLast
  | _, _, .nil => .nil
  | _, _, .cons _ .nil => .nil
  | _, _, .cons r (.cons r2 q) => .cons r (RVs.dropLast (.cons r2 q))
theorem RVs.rev : ∀ {vs : List V} {ds : List A}, RVs K φ H vs ds → RVs K φ H vs.reverse ds.reverse
  | _, _, .nil => .nil
  | _, _, .cons r q => by
    rw [List.reverse_cons, List.reverse_cons]
    exact q.rev.app (.cons r .nil)
theorem RVs.ints : ∀ {vs : List V} {ns : List Int}, RVs K φ H vs (ns.map A.int) → vs = ns.map V.int
  | [], [], _ => rfl
  | [], _ :: _, h => by cases h
  | _ :: _, [], h => by cases h
  | v :: vs, n :: ns, h => by
    cases h with
    | cons h q =>
      cases h
      rw [RVs.ints q, List.map_cons]
theorem RVs.mkInts : ∀ (ns : List Int), RVs K φ H (ns.map V.int) (ns.map A.int)
  | [] => .nil
  | n :: ns => .cons (.int n) (RVs.mkInts ns)
theorem RE.ext (r : RE K φ H σ ρ) (e : Ext φ H φ' H') : RE K φ' H' σ ρ := ⟨r.len, fun i d h => by
  obtain ⟨v, h1, h2⟩ := r.all i d h
  exact ⟨v, h1, h2.ext e⟩⟩
theorem RE.set (r : RE K φ H σ ρ) {v : V} {d : A} (h : RV K φ H v d) (i : Nat) : RE K φ H (σ.set i (some v)) (ρ.set i (some d)) := ⟨by rw [List.length_set, List.length_set, r.len], fun j x hj => by
  by_cases e : i = j
  · subst e
    have hl : i < ρ.length := by
      have := (List.getElem?_eq_some_iff.mp hj).1
      rwa [List.length_set] at this
    rw [List.getElem?_set_self hl] at hj
    cases hj
    refine ⟨v, ?_, h⟩
    rw [List.getElem?_set_self (by rw [r.len]; exact hl)]
  · rw [List.getElem?_set_ne e] at hj
    obtain ⟨w, h1, h2⟩ := r.all j x hj
    exact ⟨w, by rw [List.getElem?_set_ne e]; exact h1, h2⟩⟩
theorem RE.setNone (r : RE K φ H σ ρ) (i : Nat) : RE K φ H (σ.set i none) (ρ.set i none) := ⟨by rw [List.length_set, List.length_set, r.len], fun j x hj => by
  by_cases e : i = j
  · subst e
    have hl : i < ρ.length := by
      have := (List.getElem?_eq_some_iff.mp hj).1
      rwa [List.length_set] at this
    rw [List.getElem?_set_self hl] at hj
    cases hj
  · rw [List.getElem?_set_ne e] at hj
    obtain ⟨w, h1, h2⟩ := r.all j x hj
    exact ⟨w, by rw [List.getElem?_set_ne e]; exact h1, h2⟩⟩
def wipeA (ρ : Env) : List Nat → Env
  | [] => ρ
  | v :: vs => (wipeA ρ vs).set v none
theorem RE.wipe (r : RE K φ H σ ρ) : ∀ vs : List Nat, RE K φ H (wipe σ vs) (wipeA ρ vs)
  | [] => r
  | v :: vs => (RE.wipe r vs).setNone v
/-! ### objects that are no lists -/
theorem RO2.isO {a : Addr} : ∀ {u : Ob2}, RO2 K w mg φ H a u → ∃ o, H a = some o ∧ ∀ xs, o ≠ .lst xs
  | .dct _, .inl ⟨_, h, _⟩ => ⟨_, h, fun _ z => by cases z⟩
  | .dct _, .inr ⟨_, _, _, h, _⟩ => ⟨_, h, fun _ z => by cases z⟩
  | .frd _, ⟨_, _, h, _⟩ => ⟨_, h, fun _ z => by cases z⟩
  | .ins _ _, ⟨_, _, _, _, h, _⟩ => ⟨_, h, fun _ z => by cases z⟩
  | .tab _, ⟨_, _, h, _⟩ => ⟨_, h, fun _ z => by cases z⟩
theorem RO2.ext {a : Addr} (e : Ext φ H φ' H') (k : H' a = H a) : ∀ {u : Ob2}, RO2 K w mg φ H a u → RO2 K w mg φ' H' a u
  | .dct _, .inl ⟨ks, h1, h2, h3⟩ => .inl ⟨ks, by rw [k]; exact h1, h2, h3.ext e⟩
  | .dct _, .inr ⟨xs, vs, h0, h1, h2, h3, h4, h5, h6, h7⟩ => .inr ⟨xs, vs, h0, by rw [k]; exact h1, h2, h3, h4, fun x hx => ⟨(h5 x hx).1.ext e, (h5 x hx).2⟩, h6, h7.ext e⟩
  | .frd _, ⟨od, ks, h1, h2, h3⟩ => ⟨od, ks, by rw [k]; exact h1, h2, h3.ext e⟩
  | .ins _ _, ⟨C, dx, vs, h0, h1, h2, h3, h4⟩ => by
    obtain ⟨y1, y2⟩ := e.fr _ _ h3 h2
    exact ⟨C, dx, vs, h0, by rw [k]; exact h1, y1, y2, h4.ext e⟩
  | .tab _, ⟨h0, ps, h1, h2, h3⟩ => ⟨h0, ps, by rw [k]; exact h1, h2, fun pos cv hc => by
    obtain ⟨c, z1, z2, z3⟩ := h3 pos cv hc
    obtain ⟨y1, y2⟩ := e.fr _ _ z3 z2
    exact ⟨c, z1, y1, y2⟩⟩
theorem RO2.map {a : Addr} (up : ∀ v d, RV K φ H v d → RV K φ' H' v d) (ups : ∀ vs ds, RVs K φ H vs ds → RVs K φ' H' vs ds) (k : H' a = H a) (ko : ∀ dx o, dx ∉ φ → H dx = some o → (∀ xs, o ≠ .lst xs) → H' dx = some o ∧ dx ∉ φ') :
    ∀ {u : Ob2}, RO2 K w mg φ H a u → RO2 K w mg φ' H' a u
  | .dct _, .inl ⟨ks, h1, h2, h3⟩ => .inl ⟨ks, by rw [k]; exact h1, h2, ups _ _ h3⟩
  | .dct _, .inr ⟨xs, vs, h0, h1, h2, h3, h4, h5, h6, h7⟩ => .inr ⟨xs, vs, h0, by rw [k]; exact h1, h2, h3, h4, fun x hx => ⟨up _ _ (h5 x hx).1, (h5 x hx).2⟩, h6, ups _ _ h7⟩
  | .frd _, ⟨od, ks, h1, h2, h3⟩ => ⟨od, ks, by rw [k]; exact h1, h2, ups _ _ h3⟩
  | .ins _ _, ⟨C, dx, vs, h0, h1, h2, h3, h4⟩ => by
    obtain ⟨y1, y2⟩ := ko _ _ h3 h2 (fun _ z => by cases z)
    exact ⟨C, dx, vs, h0, by rw [k]; exact h1, y1, y2, ups _ _ h4⟩
  | .tab _, ⟨h0, ps, h1, h2, h3⟩ => ⟨h0, ps, by rw [k]; exact h1, h2, fun pos cv hc => by
    obtain ⟨c, z1, z2, z3⟩ := h3 pos cv hc
    obtain ⟨y1, y2⟩ := ko _ _ z3 z2 (fun _ z => by unfold LamX.CodeO at z; cases z)
    exact ⟨c, z1, y1, y2⟩⟩
/-! ### the store -/
theorem RS.notin (r : RS K w mg φ H st) {p : Addr} (h : H p = none) : p ∉ φ := fun z => by
  obtain ⟨i, hi, e⟩ := List.getElem_of_mem z
  have h1 : φ[i]? = some p := by rw [List.getElem?_eq_getElem hi, e]
  have h2 : i < st.length := by rw [← r.len]; exact hi
  have h3 := r.all i p st[i] h1 (List.getElem?_eq_getElem h2)
  cases ho : st[i] with
  | lst ds =>
    rw [ho] at h3
    obtain ⟨xs, q, _⟩ := h3
    rw [h] at q
    cases q
  | oth u =>
    rw [ho] at h3
    obtain ⟨o, q, _⟩ := RO2.isO h3
    rw [h] at q
    cases q
theorem ext_new {p : Addr} {o : HO} (h : H p = none) : Ext φ H φ (upd H p o) := ⟨⟨[], by simp⟩, fun a o n q => ⟨by rw [upd_ne (ne_of_none q h)]; exact q, n⟩, fun a o u q => by rw [upd_ne (ne_of_none q h)]; exact q⟩
theorem RS.ext (r : RS K w mg φ H st) (e : Ext φ H φ H') (k : ∀ a ∈ φ, H' a = H a) : RS K w mg φ H' st := ⟨r.len, r.nd, fun i a o h1 h2 => by
  have h3 := r.all i a o h1 h2
  cases o with
  | lst ds =>
    obtain ⟨xs, q, q2⟩ := h3
    exact ⟨xs, by rw [k a (List.mem_of_getElem? h1)]; exact q, q2.ext e⟩
  | oth u => exact RO2.ext e (k a (List.mem_of_getElem? h1)) h3⟩
/-- a new object that is not of the store (a tuple) -/
theorem RS.new (r : RS K w mg φ H st) {p : Addr} {o : HO} (h : H p = none) : RS K w mg φ (upd H p o) st := r.ext (ext_new h) fun a ha => upd_ne fun z => r.notin h (z ▸ ha)
theorem RV.newTup (r : RS K w mg φ H st) {p : Addr} {ob : Obj} {xs : List V} {ds : List A} (hd : ob.dict = none) (h : H p = none) (q : RVs K φ H xs ds) : RV K φ (upd H p (.frz ob (.tup xs))) (.ref p) (.tup ds) :=
  .tup (.inl ⟨⟨ob, hd, upd_same⟩, r.notin h⟩) (q.ext (ext_new h))
/-- the same, in the walk -/
theorem new_tup {X : Cx} {pins : List (Addr × Obj)} {σ : L2.St} {H : Hp} {s : Shared} {its : List Value} {xs : List V} {Q : V → Hp → Prop} (I : Inv X pins σ H s) (r : Vals xs its) (hz : xs.length ≤ sizeLine) (q : NewT H xs Q) :
    EP X pins σ Q (.ref s.heap.objs.size) { s with heap := s.heap.push { cls := .type "tuple", data := .seq its.toArray } } :=
  ⟨.ref s.heap.objs.size, _, I.laid (t' := s.toks) (o := .frz { cls := .type "tuple", data := .seq its.toArray } (.tup xs)) (fun b ob q => Heap.get?_push_of_some _ q) (Nat.le_refl _) ⟨Heap.get?_push_size _ rfl, hz, its, r, PyProof.Rows.IsTup.new _ _⟩, rfl, q _ _ rfl (I.hok.fresh (Nat.le_refl _))⟩
def tTupP (t : TA) : TE := fun σ H Q => t σ H fun xs H1 => xs.length ≤ sizeLine ∧ NewT H1 xs Q
theorem pe_tupP {X : Cx} {es : List Expr} {t : TA} {x1 : Nat} {pos : Pos} (h : PA X es t) : PE X (.Tuple es x1 pos) (tTupP t) :=
  ⟨fun pins s σ H Q I hq => wpAny_Tuple_spliced (thn (h.run pos pins s σ H _ I hq) fun us s1 ⟨xs, H1, I1, r, z, q⟩ => ⟨by rw [← r.length]; exact z, new_tup I1 r z q⟩)⟩
theorem ext_alloc {p : Addr} {o : HO} (r : RS K w mg φ H st) (h : H p = none) : Ext φ H (φ ++ [p]) (upd H p o) := ⟨⟨[p], rfl⟩, fun a u n q => by
  have ne : a ≠ p := ne_of_none q h
  refine ⟨by rw [upd_ne ne]; exact q, fun z => ?_⟩
  rcases List.mem_append.mp z with z | z
  · exact n z
  · exact ne (by simpa using z), fun a o u q => by rw [upd_ne (ne_of_none q h)]; exact q⟩
theorem RS.alloc (r : RS K w mg φ H st) {p : Addr} {xs : List V} {ds : List A} (h : H p = none) (q : RVs K φ H xs ds) : RS K w mg (φ ++ [p]) (upd H p (.lst xs)) (st ++ [.lst ds]) := by
  have e := ext_alloc (o := .lst xs) r h
  refine ⟨by simp [r.len], ?_, fun i a o h1 h2 => ?_⟩
  · rw [List.nodup_append]
    refine ⟨r.nd, by simp, fun a ha b hb z => ?_⟩
    have : b = p := by simpa using hb
    subst this
    subst z
    exact r.notin h ha
  · by_cases hi : i < φ.length
    · rw [List.getElem?_append_left hi] at h1
      rw [List.getElem?_append_left (by rw [← r.len]; exact hi)] at h2
      have h3 := r.all i a o h1 h2
      have na : a ≠ p := fun z => r.notin h (z ▸ List.mem_of_getElem? h1)
      cases o with
      | lst ds' =>
        obtain ⟨ys, y1, y2⟩ := h3
        exact ⟨ys, by rw [upd_ne na]; exact y1, y2.ext e⟩
      | oth u => exact RO2.ext e (upd_ne na) h3
    · have hi2 : i = φ.length := by
        have := (List.getElem?_eq_some_iff.mp h1).1
        rw [List.length_append, List.length_singleton] at this
        omega
      subst hi2
      rw [List.getElem?_append_right (Nat.le_refl _)] at h1
      rw [List.getElem?_append_right (by rw [r.len]; exact Nat.le_refl _)] at h2
      simp at h1
      rw [r.len] at h2
      simp at h2
      subst h1
      subst h2
      exact ⟨xs, upd_same, q.ext e⟩
theorem RV.newLst (r : RS K w mg φ H st) {p : Addr} {H' : Hp} : RV K (φ ++ [p]) H' (.ref p) (.ref st.length) := .ref (by
  rw [List.getElem?_append_right (by rw [r.len]; exact Nat.le_refl _), r.len]
  simp)
/-- a list of the store is written -/
theorem RS.write (r : RS K w mg φ H st) {i : Nat} {p : Addr} {zs : List A} {ys : List V} {ds : List A} (hp : φ[i]? = some p) (ho : st[i]? = some (.lst zs)) (q : RVs K φ H ys ds) : Ext φ H φ (upd H p (.lst ys)) ∧ RS K w mg φ (upd H p (.lst ys)) (st.set i (.lst ds)) := by
  have hm : p ∈ φ := List.mem_of_getElem? hp
  have e : Ext φ H φ (upd H p (.lst ys)) := ⟨⟨[], by simp⟩, fun a u n q => ⟨by rw [upd_ne (show a ≠ p from fun z => n (by rw [z]; exact hm))]; exact q, n⟩, fun a o u q => by
    obtain ⟨_, hl, _⟩ := r.all i p _ hp ho
    rw [upd_ne (show a ≠ p from fun z => by rw [z, hl] at q; cases q)]
    exact q⟩
  refine ⟨e, by rw [List.length_set]; exact r.len, r.nd, fun j a u h1 h2 => ?_⟩
  by_cases hj : i = j
  · subst hj
    rw [hp] at h1
    cases h1
    rw [List.getElem?_set_self (List.getElem?_eq_some_iff.mp ho).1] at h2
    cases h2
    exact ⟨ys, upd_same, q.ext e⟩
  · rw [List.getElem?_set_ne hj] at h2
    have h3 := r.all j a u h1 h2
    have na : a ≠ p := fun z => by
      subst z
      obtain ⟨l1, e1⟩ := List.getElem?_eq_some_iff.mp hp
      obtain ⟨l2, e2⟩ := List.getElem?_eq_some_iff.mp h1
      exact hj ((List.getElem_inj r.nd).mp (e1.trans e2.symm))
    cases u with
    | lst ds' =>
      obtain ⟨zs, y1, y2⟩ := h3
      exact ⟨zs, by rw [upd_ne na]; exact y1, y2.ext e⟩
    | oth u => exact RO2.ext e (upd_ne na) h3
theorem RS.lst (r : RS K w mg φ H st) {i : Nat} {p : Addr} {ds : List A} (hp : φ[i]? = some p) (ho : st[i]? = some (.lst ds)) : ∃ xs, H p = some (.lst xs) ∧ RVs K φ H xs ds := r.all i p _ hp ho
theorem RErr.ext {c : Value} {d : Option Addr} {x : Er} (r : RErr K mg φ H c d x) (e : Ext φ H φ' H') : RErr K mg φ' H' c d x := by
  obtain ⟨h1, h2 | ⟨dx, xs, q1, q2, q3, q4, q5⟩⟩ := r
  · exact ⟨h1, .inl h2⟩
  · obtain ⟨y1, y2⟩ := e.fr _ _ q3 q2
    exact ⟨h1, .inr ⟨dx, xs, q1, y1, y2, q4, q5.ext e⟩⟩
end
/-! ### readings -/
abbrev WH := Value → Option Addr → Hp → Prop
def Pst {α β : Type} (K : PySem.W.Frag) (w : World) (mg : Str → Option Value) (Rl : List Addr → Hp → β → α → Prop) (W : WH) (φ : List Addr) (H : Hp) (r : R α) (Q : β → Hp → Prop) : Prop := match r with
  | .ok a st => ∀ φ' v H', Ext φ H φ' H' → RS K w mg φ' H' st → Rl φ' H' v a → Q v H'
  | .er e st => ∀ φ' c d H', Ext φ H φ' H' → RS K w mg φ' H' st → RErr K mg φ' H' c d e → W c d H'
  | .bad => False
abbrev rlB : List Addr → Hp → Bool → Bool → Prop := fun _ _ x y => x = y
def tG {α β : Type} (K : PySem.W.Frag) (w : World) (mg : Str → Option Value) (Rl : List Addr → Hp → β → α → Prop) (W : WX) (m : Env → Store → R α) : St → Hp → (β → Hp → Prop) → Prop := fun σ H Q =>
  ∃ φ ρ st, RS K w mg φ H st ∧ RE K φ H σ ρ ∧ Pst K w mg Rl (fun c d H' => W c d σ H') φ H (m ρ st) Q
abbrev tE (X : Cx) (W : WX) (m : MX) : TE := tG X.K X.w X.mg (RV X.K) W m
abbrev tT (X : Cx) (W : WX) (m : MT) : TT := tG X.K X.w X.mg rlB W m
abbrev tA (X : Cx) (W : WX) (m : MA) : TA := tG X.K X.w X.mg (RVs X.K) W m
section
variable {K : PySem.W.Frag} {w : World} {φ φ' : List Addr} {H H' : Hp} {st : Store} {mg : Str → Option Value} {α β γ δ : Type} {W : WH}
variable {Rl : List Addr → Hp → β → α → Prop} {Rl2 : List Addr → Hp → δ → γ → Prop}
theorem Pst.mono {r : R α} {Q : β → Hp → Prop} (h : Pst K w mg Rl W φ H r Q) (e : Ext φ H φ' H') : Pst K w mg Rl W φ' H' r Q := by
  cases r with
  | ok a st => exact fun φ2 v H2 e2 s q => h φ2 v H2 (e.trans e2) s q
  | er x st => exact fun φ2 c d H2 e2 s q => h φ2 c d H2 (e.trans e2) s q
  | bad => exact h
theorem Pst.seq {r : R α} {f : α → Store → R γ} {Q1 : β → Hp → Prop} {Q : δ → Hp → Prop} (h : Pst K w mg Rl2 W φ H (r.bind f) Q)
    (k : ∀ φ1 a x H1 st1, Ext φ H φ1 H1 → RS K w mg φ1 H1 st1 → Rl φ1 H1 x a → Pst K w mg Rl2 W φ1 H1 (f a st1) Q → Q1 x H1) : Pst K w mg Rl W φ H r Q1 := by
  cases r with
  | ok a st => exact fun φ1 v H1 e s q => k φ1 a v H1 st e s q (Pst.mono h e)
  | er x st => exact h
  | bad => exact h
theorem Pst.imp {r : R α} {Q Q' : β → Hp → Prop} (h : Pst K w mg Rl W φ H r Q) (k : ∀ v H', Q v H' → Q' v H') : Pst K w mg Rl W φ H r Q' := by
  cases r with
  | ok a st => exact fun φ2 v H2 e2 s q => k _ _ (h φ2 v H2 e2 s q)
  | er x st => exact h
  | bad => exact h
theorem Pst.ok {a : α} {v : β} {Q : β → Hp → Prop} (h : Pst K w mg Rl W φ H (.ok a st) Q) (s : RS K w mg φ H st) (q : Rl φ H v a) : Q v H := h φ v H Ext.refl s q
end
section
variable {X : Cx} {e : Expr} {es : List Expr} {t t' : TE}
theorem _root_.L2.PE.imp (h : PE X e t) (k : ∀ σ H Q, t' σ H Q → t σ H Q) : PE X e t' := ⟨fun pins s σ H Q I q => h.run pins s σ H Q I (k _ _ _ q)⟩
theorem _root_.L2.PT.imp {t t' : TT} (h : PT X e t) (k : ∀ σ H Q, t' σ H Q → t σ H Q) : PT X e t' := ⟨fun pins s σ H Q I q => h.run pins s σ H Q I (k _ _ _ q)⟩
theorem PWimp {t t' : TT} (h : L2.PW X e t) (k : ∀ σ H Q, t' σ H Q → t σ H Q) : L2.PW X e t' := ⟨fun w pins s σ H Q I q => h.run w pins s σ H Q I (k _ _ _ q)⟩
theorem _root_.L2.PA.imp {t t' : TA} (h : PA X es t) (k : ∀ σ H Q, t' σ H Q → t σ H Q) : PA X es t' := ⟨fun pos pins s σ H Q I q => h.run pos pins s σ H Q I (k _ _ _ q)⟩
theorem OpR.or {f : Value → Value → Sem Value} {r r' : R2} (h : OpR X f r) (h' : OpR X f r') : OpR X f (fun x y H Q => r x y H Q ∨ r' x y H Q) := fun pins s σ H x y v u Q I a b q =>
  q.elim (h pins s σ H x y v u Q I a b) (h' pins s σ H x y v u Q I a b)
theorem CallR.or {f : Value} {r r' : List V → Hp → VK → Prop} (h : CallR X f r) (h' : CallR X f r') : CallR X f (fun xs H Q => r xs H Q ∨ r' xs H Q) := fun pins s σ H xs us Q I a q =>
  q.elim (h pins s σ H xs us Q I a) (h' pins s σ H xs us Q I a)
end
end ML
/-! ML2: expressions: names, constants, operators, comparisons, tests, displays, subscripts, calls of built-ins. -/
namespace ML
open PySem PySem.Spec L2
/-! ### data as PyData, for == -/
mutual
def dataW (f : Nat → Option PyData) : A → Option PyData
  | .non => some .none
  | .bl b => some (.bool b)
  | .int i => some (.int i)
  | .str x => some (.str x)
  | .tup xs => (dataWs f xs).map .tuple
  | .scr xs => (dataWs f xs).map .list
  | .ref i => f i
def dataWs (f : Nat → Option PyData) : List A → Option (List PyData)
  | [] => some []
  | x :: xs => match dataW f x, dataWs f xs with
    | some d, some ds => some (d :: ds)
    | _, _ => none
end
def derefN : Nat → Store → Nat → Option PyData
  | 0, _, _ => none
  | n + 1, st, i => match st[i]? with
    | some (.lst xs) => (dataWs (derefN n st) xs).map .list
    | _ => none
def dataOf (st : Store) (a : A) : Option PyData := dataW (derefN 4 st) a
section
variable {K : PySem.W.Frag} {w : World} {mg : Str → Option Value} {φ φ' : List Addr} {H H' : Hp} {st : Store}
mutual
theorem dataW_ok {f : Nat → Option PyData} (hf : ∀ i d p, f i = some d → φ[i]? = some p → Dp K H (.ref p) d) : ∀ {v : V} {a : A} {d : PyData}, RV K φ H v a → dataW f a = some d → Dp K H v d
  | _, _, _, .non, h => by simp only [dataW] at h; cases h; exact .non
  | _, _, _, .bl b, h => by simp only [dataW] at h; cases h; exact .bl b
  | _, _, _, .int i, h => by simp only [dataW] at h; cases h; exact .int i
  | _, _, _, .str x, h => by simp only [dataW] at h; cases h; exact .str x
  | _, _, _, .tup (ds := ds) q r, h => by
    simp only [dataW] at h
    cases e : dataWs f ds with
    | none => rw [e] at h; cases h
    | some es =>
      rw [e] at h
      cases h
      exact .tup q.sq (dataWs_ok hf r e)
  | _, _, _, .scr (ds := ds) q r, h => by
    simp only [dataW] at h
    cases e : dataWs f ds with
    | none => rw [e] at h; cases h
    | some es =>
      rw [e] at h
      cases h
      exact .lst q.sq (dataWs_ok hf r e)
  | _, _, _, .ref q, h => by
    simp only [dataW] at h
    exact hf _ _ _ h q
theorem dataWs_ok {f : Nat → Option PyData} (hf : ∀ i d p, f i = some d → φ[i]? = some p → Dp K H (.ref p) d) : ∀ {vs : List V} {as : List A} {ds : List PyData}, RVs K φ H vs as → dataWs f as = some ds → DpAll K H vs ds
  | _, _, _, .nil, h => by simp only [dataWs] at h; cases h; exact .nil
  | _, _, _, .cons (d := x) (ds := xs) q r, h => by
    simp only [dataWs] at h
    cases e1 : dataW f x with
    | none => rw [e1] at h; cases h
    | some d =>
      cases e2 : dataWs f xs with
      | none => rw [e1, e2] at h; cases h
      | some ds =>
        rw [e1, e2] at h
        cases h
        exact .cons (dataW_ok hf q e1) (dataWs_ok hf r e2)
end
theorem derefN_ok (rs : RS K w mg φ H st) : ∀ (n i : Nat) (d : PyData) (p : Addr), derefN n st i = some d → φ[i]? = some p → Dp K H (.ref p) d
  | 0, _, _, _, h, _ => by cases h
  | n + 1, i, d, p, h, hp => by
    unfold derefN at h
    cases e : st[i]? with
    | none => rw [e] at h; cases h
    | some o =>
      cases o with
      | oth u => rw [e] at h; cases h
      | lst xs =>
        rw [e] at h
        obtain ⟨ys, h1, h2⟩ := rs.lst hp e
        cases e2 : dataWs (derefN n st) xs with
        | none => simp only [e2] at h; cases h
        | some ds =>
          simp only [e2] at h
          cases h
          exact .lst (.inl (.inl h1)) (dataWs_ok (derefN_ok rs n) h2 e2)
theorem dataOf_ok (rs : RS K w mg φ H st) {v : V} {a : A} {d : PyData} (r : RV K φ H v a) (h : dataOf st a = some d) : Dp K H v d := dataW_ok (derefN_ok rs 4) r h
end
/-! ### what operators do -/
def addA : A → A → Store → R A
  | .int i, .int j, st => .ok (.int (i + j)) st
  | .str x, .str y, st => if x.length + y.length ≤ sizeLine then .ok (.str (x ++ y)) st else .bad
  | .tup xs, .tup ys, st => if xs.length + ys.length ≤ sizeLine then .ok (.tup (xs ++ ys)) st else .bad
  | .ref i, .ref j, st => match st[i]?, st[j]? with
    | some (.lst xs), some (.lst ys) => if xs.length + ys.length ≤ sizeLine then .ok (.ref st.length) (st ++ [.lst (xs ++ ys)]) else .bad
    | _, _ => .bad
  | _, _, _ => .bad
def subA : A → A → Store → R A
  | .int i, .int j, st => .ok (.int (i - j)) st
  | _, _, _ => .bad
/-- one factor below 2 ^ 64, or both together of a bounded size -/
abbrev CMulA (i j : Int) : Prop := ((-(2 ^ 64) < i ∧ i < 2 ^ 64) ∨ (-(2 ^ 64) < j ∧ j < 2 ^ 64)) ∨ (Builtin.Int.intBits i : Int) + (Builtin.Int.intBits j : Int) ≤ 134217728
def mulA : A → A → Store → R A
  | .int i, .int j, st => if CMulA i j then .ok (.int (i * j)) st else .bad
  | .ref i, .int k, st => match st[i]? with
    | some (.lst xs) => if -(2 ^ 63) ≤ k ∧ k < 2 ^ 63 ∧ xs.length * k.toNat ≤ sizeLine then .ok (.ref st.length) (st ++ [.lst (List.replicate k.toNat xs).flatten]) else .bad
    | _ => .bad
  | .tup xs, .int k, st => if 0 ≤ k ∧ k ≤ 1000000 ∧ xs.length * k.toNat ≤ sizeLine then .ok (.tup (List.replicate k.toNat xs).flatten) st else .bad
  | _, _, _ => .bad
def fdivA : A → A → Store → R A
  | .int i, .int j, st => if 0 < j ∧ j.natAbs.log2 < 9000 then .ok (.int (i / j)) st else .bad
  | _, _, _ => .bad
def modA : A → A → Store → R A
  | .int i, .int j, st => if 0 < j then .ok (.int (i % j)) st else .bad
  | _, _, _ => .bad
def powA : A → A → Store → R A
  | .int i, .int j, st => if 0 ≤ j ∧ j ≤ 1000000 ∧ i.natAbs < 2 ^ 64 then .ok (.int (i ^ j.toNat)) st else .bad
  | _, _, _ => .bad
def andA : A → A → Store → R A
  | .int i, .int j, st => .ok (.int (Builtin.bitAnd i j)) st
  | _, _, _ => .bad
def xorA : A → A → Store → R A
  | .int i, .int j, st => .ok (.int (Builtin.bitXor i j)) st
  | _, _, _ => .bad
def shrA : A → A → Store → R A
  | .int i, .int j, st => if 0 ≤ j then .ok (.int (i / 2 ^ j.toNat)) st else .bad
  | _, _, _ => .bad
def negA : A → Store → R A
  | .int i, st => .ok (.int (-i)) st
  | _, _ => .bad
def ltA : A → A → Store → R A
  | .int i, .int j, st => .ok (.bl (decide (i < j))) st
  | .str x, .str y, st => .ok (.bl (decide (x.cps.toList < y.cps.toList))) st
  | _, _, _ => .bad
def gtA : A → A → Store → R A
  | .int i, .int j, st => .ok (.bl (decide (j < i))) st
  | .str x, .str y, st => .ok (.bl (decide (y.cps.toList < x.cps.toList))) st
  | _, _, _ => .bad
def leA : A → A → Store → R A
  | .int i, .int j, st => .ok (.bl (decide (i ≤ j))) st
  | _, _, _ => .bad
def geA : A → A → Store → R A
  | .int i, .int j, st => .ok (.bl (decide (j ≤ i))) st
  | _, _, _ => .bad
/-- == of two scalars -/
def eqS : A → A → Option Bool
  | .int i, .int j => some (decide (i = j))
  | .str x, .str y => some (decide (x = y))
  | .bl a, .bl b => some (decide (a = b))
  | .non, .non => some true
  | .int _, .str _ => some false
  | .str _, .int _ => some false
  | .non, .int _ => some false
  | .int _, .non => some false
  | .non, .str _ => some false
  | .str _, .non => some false
  | _, _ => none
theorem eqS_ok {K : PySem.W.Frag} {φ : List Addr} {H : Hp} {x y : V} {a b : A} {k : Bool} (ra : RV K φ H x a) (rb : RV K φ H y b) (h : eqS a b = some k) : scal x y = true ∧ decide (x = y) = k := by
  cases ra <;> cases rb <;> first | (cases h; exact ⟨rfl, by simp⟩) | cases h
def eqB (x y : A) (st : Store) : Option Bool := match eqS x y with
  | some b => some b
  | none => match dataOf st x, dataOf st y with
    | some d, some e => if SeqAt.shaped d = true ∧ SeqAt.shaped e = true then some (PyData.eqv d e) else none
    | _, _ => none
def eqA (x y : A) (st : Store) : R A := match eqB x y st with
  | some b => .ok (.bl b) st
  | none => .bad
def neA (x y : A) (st : Store) : R A := match eqB x y st with
  | some b => .ok (.bl (!b)) st
  | none => .bad
def isNonA : A → Bool
  | .non => true
  | _ => false
def isNA : A → A → Store → R A
  | x, .non, st => .ok (.bl (isNonA x)) st
  | _, _, _ => .bad
def notNA : A → A → Store → R A
  | x, .non, st => .ok (.bl (!isNonA x)) st
  | _, _, _ => .bad
def OpS (X : Cx) (r : R2) (g : A → A → Store → R A) : Prop := ∀ (W : WH) (φ : List Addr) (H : Hp) (st : Store) (x y : V) (a b : A) (Q : VK), RS X.K X.w X.mg φ H st → RV X.K φ H x a → RV X.K φ H y b → Pst X.K X.w X.mg (RV X.K) W φ H (g a b st) Q → r x y H Q
theorem OpS.or1 {X : Cx} {r r' : R2} {g : A → A → Store → R A} (h : OpS X r g) : OpS X (fun x y H Q => r x y H Q ∨ r' x y H Q) g := fun W φ H st x y a b Q s ra rb p => .inl (h W φ H st x y a b Q s ra rb p)
section
variable {X : Cx} {W : WX} {a b e : Expr} {es : List Expr} {ma mb : MX} {pos : Pos}
def mVar (i : Nat) : MX := fun ρ st => match ρ[i]? with
  | some (some a) => .ok a st
  | _ => .bad
def mC (a : A) : MX := fun _ st => .ok a st
theorem me_var (i : Nat) {x : Str} {pos : Pos} (hN : X.N[i]? = some x := by rfl) (hv : Vis X.env.scope x := by first | exact Or.inl rfl | exact Or.inr (Or.inl rfl) | exact Or.inr (Or.inr rfl)) (hd : (x == ("__debug__" : Str)) = false := by decide)
    (hcd : (x == ("__classdict__" : Str)) = false := by decide) : PE X (.Name x pos) (tE X W (mVar i)) := (pv i hN hv hd hcd).imp fun σ H Q ⟨φ, ρ, st, rs, re, h⟩ => by
  unfold mVar at h
  cases q : ρ[i]? with
  | none => rw [q] at h; exact h.elim
  | some o =>
    cases o with
    | none => rw [q] at h; exact h.elim
    | some d =>
      rw [q] at h
      obtain ⟨v, h1, h2⟩ := re.all i d q
      exact ⟨v, h1, h.ok rs h2⟩
theorem me_int {i : Int} {j pos} : PE X (.Constant (.int i) j pos) (tE X W (mC (.int i))) := pe_int.imp fun _ _ _ ⟨_, _, _, rs, _, h⟩ => h.ok rs (.int i)
theorem me_bl {b : Bool} {j pos} : PE X (.Constant (.bool b) j pos) (tE X W (mC (.bl b))) := pe_bl.imp fun _ _ _ ⟨_, _, _, rs, _, h⟩ => h.ok rs (.bl b)
theorem me_non {j pos} : PE X (.Constant .none j pos) (tE X W (mC .non)) := pe_non.imp fun _ _ _ ⟨_, _, _, rs, _, h⟩ => h.ok rs .non
theorem me_str {x : Str} {j pos} : PE X (.Constant (.str x) j pos) (tE X W (mC (.str x))) := pe_str.imp fun _ _ _ ⟨_, _, _, rs, _, h⟩ => h.ok rs (.str x)
/-- a module's constant -/
theorem me_glob {x : Str} {v : V} {u : Value} {d : A} {pos : Pos} (hg : Gl X x) (hm : X.mg x = some u) (r : RelV v u) (hv : ∀ φ H, RV X.K φ H v d) (hd : (x == ("__debug__" : Str)) = false := by decide) : PE X (.Name x pos) (tE X W (mC d)) :=
  (pe_glob hg hm r hd).imp fun _ H _ ⟨φ, _, _, rs, _, h⟩ => h.ok rs (hv φ H)
/-! operators -/
def mBin (g : A → A → Store → R A) (ma mb : MX) : MX := fun ρ st => (ma ρ st).bind fun x st1 => (mb ρ st1).bind fun y st2 => g x y st2
def mUn (g : A → Store → R A) (ma : MX) : MX := fun ρ st => (ma ρ st).bind fun x st1 => g x st1
theorem bin_ok {r : R2} {g : A → A → Store → R A} (hg : OpS X r g) {σ : L2.St} {H : Hp} {Q : VK} (h : tE X W (mBin g ma mb) σ H Q) : tOp r (tE X W ma) (tE X W mb) σ H Q := by
  obtain ⟨φ, ρ, st, rs, re, h⟩ := h
  exact ⟨φ, ρ, st, rs, re, h.seq fun φ1 a x H1 st1 e1 rs1 rv1 h1 => ⟨φ1, ρ, st1, rs1, re.ext e1, h1.seq fun φ2 b y H2 st2 e2 rs2 rv2 h2 => hg _ _ _ _ _ _ _ _ _ rs2 (rv1.ext e2) rv2 h2⟩⟩
theorem me_bin {op : Operator} {r : R2} {g : A → A → Store → R A} (ho : OpR X (binaryOp op) r) (hg : OpS X r g) (ha : PE X a (tE X W ma)) (hb : PE X b (tE X W mb)) : PE X (.BinOp a op b pos) (tE X W (mBin g ma mb)) := (pe_op ho ha hb).imp fun _ _ _ h => bin_ok hg h
theorem me_cmp {op : CmpOp} {r : R2} {g : A → A → Store → R A} (ho : OpR X (compareOp op) r) (hg : OpS X r g) (ha : PE X a (tE X W ma)) (hb : PE X b (tE X W mb)) (hm : behindInMarks op b = false := by first | exact nomark _ | rfl) : PE X (.Compare a [op] [b] pos) (tE X W (mBin g ma mb)) := (pe_cmpR ho ha hb hm).imp fun _ _ _ h => bin_ok hg h
theorem me_neg (ha : PE X a (tE X W ma)) : PE X (.UnaryOp .USub a pos) (tE X W (mUn negA ma)) := (pe_un un_neg ha).imp fun σ H Q ⟨φ, ρ, st, rs, re, h⟩ => by
  refine ⟨φ, ρ, st, rs, re, h.seq fun φ1 a x H1 st1 e1 rs1 rv1 h1 => ?_⟩
  cases rv1 with
  | int i => exact ⟨i, rfl, h1.ok rs1 (.int _)⟩
  | _ => exact (show False from h1).elim
/-! tests -/
def truA : A → Store → R Bool
  | .non, st => .ok false st
  | .bl b, st => .ok b st
  | .int i, st => .ok (i != 0) st
  | .str x, st => if x.length ≤ sizeLine then .ok ((x.length : Int) != 0) st else .bad
  | .tup xs, st => .ok (!xs.isEmpty) st
  | .scr xs, st => .ok (!xs.isEmpty) st
  | .ref i, st => match st[i]? with
    | some (.lst xs) => .ok (!xs.isEmpty) st
    | _ => .bad
def mTru (ma : MX) : MT := fun ρ st => (ma ρ st).bind truA
def mAnd (ma mb : MT) : MT := fun ρ st => (ma ρ st).bind fun x st1 => if x = true then mb ρ st1 else .ok false st1
def mOr (ma mb : MT) : MT := fun ρ st => (ma ρ st).bind fun x st1 => if x = true then .ok true st1 else mb ρ st1
def mNot (ma : MT) : MT := fun ρ st => (ma ρ st).bind fun x st1 => .ok (!x) st1
def mB (ma : MT) : MX := fun ρ st => (ma ρ st).bind fun x st1 => .ok (.bl x) st1
theorem RVs.empty {K : PySem.W.Frag} {φ : List Addr} {H : Hp} {xs : List V} {ds : List A} (q : RVs K φ H xs ds) : xs.isEmpty = ds.isEmpty := by
  cases q <;> rfl
theorem tru_ok' {K : PySem.W.Frag} {mg : Str → Option Value} {W : WH} {φ : List Addr} {H : Hp} {st : Store} {x : V} {a : A} {Q : Bool → Hp → Prop} (rs : RS K w mg φ H st) (r : RV K φ H x a) (h : Pst K w mg rlB W φ H (truA a st) Q) : ∃ k, TruV K x H k ∧ Q k H := by
  cases r with
  | non => exact ⟨false, rfl, h.ok rs rfl⟩
  | bl b => exact ⟨b, rfl, h.ok rs rfl⟩
  | int i => exact ⟨_, rfl, h.ok rs rfl⟩
  | str x =>
    by_cases hz : x.length ≤ sizeLine
    · rw [truA, if_pos hz] at h
      exact ⟨_, ⟨hz, rfl⟩, h.ok rs rfl⟩
    · rw [truA, if_neg hz] at h
      exact h.elim
  | tup q q2 => exact ⟨_, .inr (.inl ⟨_, q.sq, rfl⟩), h.ok rs (by rw [q2.empty])⟩
  | scr q q2 => exact ⟨_, .inl ⟨_, q.sq, rfl⟩, h.ok rs (by rw [q2.empty])⟩
  | @ref p i q =>
    unfold truA at h
    simp only at h
    cases e : st[i]? with
    | none => rw [e] at h; exact h.elim
    | some o =>
      cases o with
      | oth u => rw [e] at h; exact h.elim
      | lst ds =>
        rw [e] at h
        obtain ⟨xs, h1, h2⟩ := rs.lst q e
        exact ⟨_, .inl ⟨_, .inl (.inl h1), rfl⟩, h.ok rs (by rw [h2.empty])⟩
theorem mt_tru (ha : PE X a (tE X W ma)) (he : ∀ whole, isTrue a X.env whole = (do let v ← whole; standAt a.pos; holding [v] (truthy v)) := by intro _; rfl) : PT X a (tT X W (mTru ma)) := (pt_truth ha he).imp fun σ H Q ⟨φ, ρ, st, rs, re, h⟩ => by
  refine ⟨φ, ρ, st, rs, re, h.seq fun φ1 a x H1 st1 e1 rs1 rv1 h1 => ?_⟩
  exact tru_ok' rs1 rv1 h1
/-- a comparison as a test: its answer is True or False -/
def getB : A → Store → R Bool
  | .bl b, st => .ok b st
  | _, _ => .bad
def mGB (ma : MX) : MT := fun ρ st => (ma ρ st).bind getB
theorem getB_ok {K : PySem.W.Frag} {mg : Str → Option Value} {W : WH} {φ : List Addr} {H : Hp} {st : Store} {x : V} {a : A} {Q : Bool → Hp → Prop} (rs : RS K w mg φ H st) (r : RV K φ H x a) (h : Pst K w mg rlB W φ H (getB a st) Q) : ∃ k, x = .bl k ∧ Q k H := by
  cases r with
  | bl b => exact ⟨b, rfl, h.ok rs rfl⟩
  | _ => exact (show False from h).elim
theorem Pst.assoc {α β γ : Type} {r : R α} {f : α → Store → R β} {g : β → Store → R γ} : (r.bind f).bind g = r.bind fun a st => (f a st).bind g := by
  cases r <;> rfl
theorem mt_cmp {op : CmpOp} {r : R2} {g : A → A → Store → R A} (ho : OpR X (compareOp op) r) (hg : OpS X r g) (ha : PE X a (tE X W ma)) (hb : PE X b (tE X W mb)) (hm : behindInMarks op b = false := by first | exact nomark _ | rfl) : PT X (.Compare a [op] [b] pos) (tT X W (mGB (mBin g ma mb))) := (pt_cmpR ho ha hb hm).imp fun σ H Q h => by
  refine bin_ok (W := W) hg ?_
  obtain ⟨φ, ρ, st, rs, re, h⟩ := h
  exact ⟨φ, ρ, st, rs, re, h.seq fun φ1 a x H1 st1 e1 rs1 rv1 h1 => getB_ok rs1 rv1 h1⟩
variable {ta tb : MT} {rest : List Expr}
theorem mw_and1 (ha : PT X a (tT X W ta)) : L2.PW X (.BoolOp .And [a] pos) (tT X W ta) := pw_and1 ha
theorem mw_or1 (ha : PT X a (tT X W ta)) : L2.PW X (.BoolOp .Or [a] pos) (tT X W ta) := pw_or1 ha
theorem mw_and (ha : PT X a (tT X W ta)) (hb : L2.PW X (.BoolOp .And (b :: rest) pos) (tT X W tb)) : L2.PW X (.BoolOp .And (a :: b :: rest) pos) (tT X W (mAnd ta tb)) := PWimp (pw_and ha hb) fun σ H Q ⟨φ, ρ, st, rs, re, h⟩ => by
  refine ⟨φ, ρ, st, rs, re, h.seq fun φ1 a x H1 st1 e1 rs1 rv1 h1 => ?_⟩
  subst rv1
  cases x with
  | true => exact iteT ⟨φ1, ρ, st1, rs1, re.ext e1, h1⟩
  | false => exact iteF (h1.ok rs1 rfl)
theorem mw_or (ha : PT X a (tT X W ta)) (hb : L2.PW X (.BoolOp .Or (b :: rest) pos) (tT X W tb)) : L2.PW X (.BoolOp .Or (a :: b :: rest) pos) (tT X W (mOr ta tb)) := PWimp (pw_or ha hb) fun σ H Q ⟨φ, ρ, st, rs, re, h⟩ => by
  refine ⟨φ, ρ, st, rs, re, h.seq fun φ1 a x H1 st1 e1 rs1 rv1 h1 => ?_⟩
  subst rv1
  cases x with
  | false => exact iteF ⟨φ1, ρ, st1, rs1, re.ext e1, h1⟩
  | true => exact iteT (h1.ok rs1 rfl)
theorem mt_not (ha : PT X a (tT X W ta)) : PT X (.UnaryOp .Not a pos) (tT X W (mNot ta)) := (pt_not ha).imp fun σ H Q ⟨φ, ρ, st, rs, re, h⟩ => by
  refine ⟨φ, ρ, st, rs, re, h.seq fun φ1 a x H1 st1 e1 rs1 rv1 h1 => ?_⟩
  exact h1.ok rs1 (by rw [show x = a from rv1])
/-- and, or, not as values, of True and False -/
def mAndV (ma mb : MX) : MX := fun ρ st => (ma ρ st).bind fun x st1 => (getB x st1).bind fun k st2 => if k = true then mb ρ st2 else .ok (.bl false) st2
def mOrV (ma mb : MX) : MX := fun ρ st => (ma ρ st).bind fun x st1 => (getB x st1).bind fun k st2 => if k = true then .ok (.bl true) st2 else mb ρ st2
def mNotV (ma : MX) : MX := fun ρ st => (ma ρ st).bind fun x st1 => (getB x st1).bind fun k st2 => .ok (.bl (!k)) st2
theorem me_one {op} (ha : PE X a (tE X W ma)) : PE X (.BoolOp op [a] pos) (tE X W ma) := pe_one ha
theorem getB_seq {K : PySem.W.Frag} {mg : Str → Option Value} {W : WH} {φ : List Addr} {H : Hp} {st : Store} {x : V} {a : A} {f : Bool → Store → R A} {Q : VK} (r : RV K φ H x a) (h : Pst K w mg (RV K) W φ H ((getB a st).bind f) Q) : ∃ k, x = .bl k ∧ Pst K w mg (RV K) W φ H (f k st) Q := by
  cases r with
  | bl b => exact ⟨b, rfl, h⟩
  | _ => exact (show False from h).elim
theorem me_and (ha : PE X a (tE X W ma)) (hb : PE X (.BoolOp .And (b :: rest) pos) (tE X W mb)) : PE X (.BoolOp .And (a :: b :: rest) pos) (tE X W (mAndV ma mb)) := (pe_and ha hb).imp fun σ H Q ⟨φ, ρ, st, rs, re, h⟩ => by
  refine ⟨φ, ρ, st, rs, re, h.seq fun φ1 a x H1 st1 e1 rs1 rv1 h1 => ?_⟩
  obtain ⟨k, hk, h2⟩ := getB_seq rv1 h1
  refine ⟨k, hk, ?_⟩
  cases k with
  | true => exact iteT ⟨φ1, ρ, st1, rs1, re.ext e1, h2⟩
  | false => exact iteF (h2.ok rs1 (.bl _))
theorem me_or (ha : PE X a (tE X W ma)) (hb : PE X (.BoolOp .Or (b :: rest) pos) (tE X W mb)) : PE X (.BoolOp .Or (a :: b :: rest) pos) (tE X W (mOrV ma mb)) := (pe_or ha hb).imp fun σ H Q ⟨φ, ρ, st, rs, re, h⟩ => by
  refine ⟨φ, ρ, st, rs, re, h.seq fun φ1 a x H1 st1 e1 rs1 rv1 h1 => ?_⟩
  obtain ⟨k, hk, h2⟩ := getB_seq rv1 h1
  refine ⟨k, hk, ?_⟩
  cases k with
  | false => exact iteF ⟨φ1, ρ, st1, rs1, re.ext e1, h2⟩
  | true => exact iteT (h2.ok rs1 (.bl _))
theorem me_not (ha : PE X a (tE X W ma)) : PE X (.UnaryOp .Not a pos) (tE X W (mNotV ma)) := (pe_not ha).imp fun σ H Q ⟨φ, ρ, st, rs, re, h⟩ => by
  refine ⟨φ, ρ, st, rs, re, h.seq fun φ1 a x H1 st1 e1 rs1 rv1 h1 => ?_⟩
  obtain ⟨k, hk, h2⟩ := getB_seq rv1 h1
  exact ⟨k, hk, h2.ok rs1 (.bl _)⟩
def mIf (mc : MT) (ma mb : MX) : MX := fun ρ st => (mc ρ st).bind fun x st1 => if x = true then ma ρ st1 else mb ρ st1
theorem me_if {c : Expr} {mc : MT} (hc : PT X c (tT X W mc)) (ha : PE X a (tE X W ma)) (hb : PE X b (tE X W mb)) : PE X (.IfExp c a b pos) (tE X W (mIf mc ma mb)) := (pe_ifExp hc ha hb).imp fun σ H Q ⟨φ, ρ, st, rs, re, h⟩ => by
  refine ⟨φ, ρ, st, rs, re, h.seq fun φ1 a x H1 st1 e1 rs1 rv1 h1 => ?_⟩
  subst rv1
  cases x with
  | true => exact iteT ⟨φ1, ρ, st1, rs1, re.ext e1, h1⟩
  | false => exact iteF ⟨φ1, ρ, st1, rs1, re.ext e1, h1⟩
/-! ### argument lists, displays -/
def mNil : MA := fun _ st => .ok [] st
def mCons (ma : MX) (mr : MA) : MA := fun ρ st => (ma ρ st).bind fun x st1 => (mr ρ st1).bind fun xs st2 => .ok (x :: xs) st2
theorem ma_nil : PA X [] (tA X W mNil) := pa_nil.imp fun _ _ _ ⟨_, _, _, rs, _, h⟩ => h.ok rs .nil
variable {mr : MA}
theorem ma_cons (ha : PE X e (tE X W ma)) (hr : PA X es (tA X W mr)) (hs : starEach (e :: es) X.env = (false, eval e X.env) :: starEach es X.env := by rfl) : PA X (e :: es) (tA X W (mCons ma mr)) := (pa_cons ha hr hs).imp fun σ H Q ⟨φ, ρ, st, rs, re, h⟩ =>
  ⟨φ, ρ, st, rs, re, h.seq fun φ1 a x H1 st1 e1 rs1 rv1 h1 => ⟨φ1, ρ, st1, rs1, re.ext e1, h1.seq fun φ2 b y H2 st2 e2 rs2 rv2 h2 => h2.ok rs2 (.cons (rv1.ext e2) rv2)⟩⟩
def mTup (ms : MA) : MX := fun ρ st => (ms ρ st).bind fun xs st1 => if xs.length ≤ sizeLine then .ok (.tup xs) st1 else .bad
def mLst (ms : MA) : MX := fun ρ st => (ms ρ st).bind fun xs st1 => if xs.length ≤ sizeLine then .ok (.ref st1.length) (st1 ++ [.lst xs]) else .bad
theorem me_tup {x1} (h : PA X es (tA X W mr)) : PE X (.Tuple es x1 pos) (tE X W (mTup mr)) := (pe_tupP h).imp fun σ H Q ⟨φ, ρ, st, rs, re, h⟩ => by
  refine ⟨φ, ρ, st, rs, re, h.seq fun φ1 as xs H1 st1 e1 rs1 rv1 h1 => ?_⟩
  by_cases hz : as.length ≤ sizeLine
  · rw [if_pos hz] at h1
    exact ⟨by rw [rv1.length]; exact hz, fun p o hd hp => h1 φ1 _ _ (ext_new hp) (rs1.new hp) (.newTup rs1 hd hp rv1)⟩
  · rw [if_neg hz] at h1
    exact h1.elim
theorem me_lst (h : PA X es (tA X W mr)) : PE X (.List es pos) (tE X W (mLst mr)) := (pe_lst h).imp fun σ H Q ⟨φ, ρ, st, rs, re, h⟩ => by
  refine ⟨φ, ρ, st, rs, re, h.seq fun φ1 as xs H1 st1 e1 rs1 rv1 h1 => ?_⟩
  by_cases hz : as.length ≤ sizeLine
  · rw [if_pos hz] at h1
    exact ⟨by rw [rv1.length]; exact hz, fun p hp => h1 _ _ _ (ext_alloc rs1 hp) (rs1.alloc hp rv1) (.newLst rs1)⟩
  · rw [if_neg hz] at h1
    exact h1.elim
end
/-! ### a tuple many times -/
section
open PyProof.Rows
theorem tuple_mul_same (l : Addr) (items : Array Value) (n : Nat) (dd : Option Addr) (sl : Array (Option Value)) (x : Int) (u : Tok) (c0 : (decide (x < -(2 ^ 63)) || decide (x ≥ 2 ^ 63)) = false) (c1 : (items.isEmpty || x == 1) = true) :
    Meets (Builtin.«tuple.__mul__» ⟨[.ref l, .int x u], []⟩) (fun _ R s => s.heap.get? l = some { cls := .type "tuple", dict := dd, data := .seq items n, slots := sl } ∧
      R (.ok (.ret (Value.ref l))) s) :=
  .of_wp fun prog w A R s h => by
    obtain ⟨hp, g, d, tk, os⟩ := s
    obtain ⟨hl, h⟩ := h
    have f1 := AutoSeq1.idx_int
    wp_walk using wpAny_loadPart' hl
    repeat (first
      | (refine wpAny_ite_false (decide_eq_false (by rw [c0]; exact Bool.false_ne_true)) ?_; wp_walk using wpAny_loadPart' hl)
      | (refine wpAny_ite_true (decide_eq_true (by rw [c1])) ?_; wp_walk using wpAny_loadPart' hl))
    exact ⟨_, rfl, h⟩
theorem tuple_mul_none (l : Addr) (items : Array Value) (n : Nat) (dd : Option Addr) (sl : Array (Option Value)) (x : Int) (u : Tok) (c0 : (decide (x < -(2 ^ 63)) || decide (x ≥ 2 ^ 63)) = false) (c1 : (items.isEmpty || x == 1) = false) (c2 : (decide (x ≤ 0) || items.isEmpty) = true) :
    Meets (Builtin.«tuple.__mul__» ⟨[.ref l, .int x u], []⟩) (fun _ R s => s.heap.get? l = some { cls := .type "tuple", dict := dd, data := .seq items n, slots := sl } ∧
      R (.ok (.ret (Value.ref s.heap.objs.size))) { s with heap := s.heap.push { cls := Value.type "tuple", data := Data.seq #[] }, toks := s.toks }) :=
  .of_wp fun prog w A R s h => by
    obtain ⟨hp, g, d, tk, os⟩ := s
    obtain ⟨hl, h⟩ := h
    have f1 := AutoSeq1.idx_int
    wp_walk using wpAny_loadPart' hl
    repeat (first
      | (refine wpAny_ite_false (decide_eq_false (by rw [c0]; exact Bool.false_ne_true)) ?_; wp_walk using wpAny_loadPart' hl)
      | (refine wpAny_ite_false (decide_eq_false (by rw [c1]; exact Bool.false_ne_true)) ?_; wp_walk using wpAny_loadPart' hl)
      | (refine wpAny_ite_true (decide_eq_true (by rw [c2])) ?_; wp_walk using wpAny_loadPart' hl))
    exact ⟨_, rfl, h⟩
def rRepU (K : PySem.W.Frag) : R2 := fun x y H Q => ∃ l k xs, x = .ref l ∧ y = .int k ∧ SqT K H l xs ∧ 0 ≤ k ∧ k ≤ 1000000 ∧ xs.length * k.toNat ≤ sizeLine ∧
  (((xs = [] ∨ k = 1) ∧ Q (.ref l) H) ∨ (xs ≠ [] ∧ k ≠ 1 ∧ NewT H (List.replicate k.toNat xs).flatten Q))
section
variable {X : Cx}
theorem op_repU : OpR X (binaryOp .Mult) (rRepU X.K) := by
  intro pins s σ H x y v u Q I rx ry h
  obtain ⟨l, k, xs, rfl, rfl, hT, h1, h2, hz, q⟩ := h
  cases rx
  obtain ⟨t, rfl⟩ := ry
  obtain ⟨its, r, ⟨⟨cls, dd, data, sl⟩, ho, hc, n, hd⟩, hs⟩ := I.tuple hT
  simp only at hc hd
  subst hc hd
  have hle : its.length = xs.length := r.length.symm
  have hsz0 : its.toArray.size = xs.length := by rw [List.size_toArray, hle]
  have c0 : (decide (k < -(2 ^ 63)) || decide (k ≥ 2 ^ 63)) = false := by
    rw [decide_eq_false (by omega), decide_eq_false (by omega)] <;> rfl
  rcases q with ⟨hq, q⟩ | ⟨hne, hk1, q⟩
  · have c1 : (its.toArray.isEmpty || k == 1) = true := by
      rcases hq with e | e
      · subst e
        have : its = [] := List.eq_nil_of_length_eq_zero (by rw [hle]; rfl)
        subst this
        rfl
      · subst e
        simp
    refine wpAny_binaryOp_repeat_ref (T := "tuple") (U := "int") (by decide) ⟨_, ho, rfl⟩ (fun s' => typeIs_int s' k t) noFill_tuple_mul F.fills_int_mul F.slot_int_rmul repeat_tuple F.slot_int_index.lookup
      (call_meets F.slot_int_rmul (typeIs_int s k t) F.entry_int_rmul (F.args_int_rmul_2 _ _) (int_rmul_tuple k t l its.toArray n dd sl)
        ⟨ho, rfl, ⟨_, ho, rfl⟩, call_meets F.slot_tuple_mul ⟨_, ho, rfl⟩ F.entry_tuple_mul (F.args_tuple_mul_2 _ _) (tuple_mul_same l its.toArray n dd sl k t c0 c1) ⟨ho, ?_⟩⟩)
    exact ⟨.ref l, H, I, rfl, q⟩
  · have hn : its ≠ [] := fun e => hne (by
      rw [e] at hle
      exact List.eq_nil_of_length_eq_zero hle.symm)
    have hi : its.toArray.isEmpty = false := by
      cases its with
      | nil => exact absurd rfl hn
      | cons a b => rfl
    have c1 : (its.toArray.isEmpty || k == 1) = false := by
      rw [hi, Bool.false_or]
      exact beq_eq_false_iff_ne.mpr hk1
    by_cases k0 : k = 0
    · subst k0
      have c2 : (decide ((0 : Int) ≤ 0) || its.toArray.isEmpty) = true := by simp
      refine wpAny_binaryOp_repeat_ref (T := "tuple") (U := "int") (by decide) ⟨_, ho, rfl⟩ (fun s' => typeIs_int s' 0 t) noFill_tuple_mul F.fills_int_mul F.slot_int_rmul repeat_tuple F.slot_int_index.lookup
        (call_meets F.slot_int_rmul (typeIs_int s 0 t) F.entry_int_rmul (F.args_int_rmul_2 _ _) (int_rmul_tuple 0 t l its.toArray n dd sl)
          ⟨ho, rfl, ⟨_, ho, rfl⟩, call_meets F.slot_tuple_mul ⟨_, ho, rfl⟩ F.entry_tuple_mul (F.args_tuple_mul_2 _ _) (tuple_mul_none l its.toArray n dd sl 0 t c0 c1 c2) ⟨ho, ?_⟩⟩)
      exact new_tup (its := []) (xs := []) I .nil (Nat.zero_le _) q
    · have c2 : (decide (k ≤ 0) || its.toArray.isEmpty) = false := by
        rw [hi, Bool.or_false]
        exact decide_eq_false (by omega)
      have hm : ((its.toArray.size : Nat) : Int) * k ≤ 16777216 := by
        rw [hsz0]
        have e1 : ((xs.length * k.toNat : Nat) : Int) = ((xs.length : Nat) : Int) * k := by
          rw [Int.natCast_mul, Int.toNat_of_nonneg h1]
        rw [← e1]
        rw [sizeLine_eq] at hz
        omega
      have flen : (List.replicate k.toNat its).flatten.length ≤ sizeLine := by
        rw [PyProof.Rows.lm_len_rep_flat, hle, Nat.mul_comm]
        exact hz
      have c4 : Builtin.Tuple.tupleTooMany (((its.toArray.size : Nat) : Int) * k) = false := by
        unfold Builtin.Tuple.tupleTooMany
        rw [sizeLine_eq]
        exact decide_eq_false (by omega)
      refine wpAny_binaryOp_repeat_ref (T := "tuple") (U := "int") (by decide) ⟨_, ho, rfl⟩ (fun s' => typeIs_int s' k t) noFill_tuple_mul F.fills_int_mul F.slot_int_rmul repeat_tuple F.slot_int_index.lookup
        (call_meets F.slot_int_rmul (typeIs_int s k t) F.entry_int_rmul (F.args_int_rmul_2 _ _) (int_rmul_tuple k t l its.toArray n dd sl)
          ⟨ho, rfl, ⟨_, ho, rfl⟩, call_meets F.slot_tuple_mul ⟨_, ho, rfl⟩ F.entry_tuple_mul (F.args_tuple_mul_2 _ _) (tuple_mulW l its.toArray n dd sl k t c0 c1 c2 (by omega) c4 (by rw [size_rep, List.size_toArray]; exact flen)) ⟨ho, ?_⟩⟩)
      rw [size_rep]
      exact new_tup I (r.rep k.toNat) (by rw [PyProof.Rows.lm_len_rep_flat, Nat.mul_comm]; exact hz) q
end
end
/-! ### the operators' facts -/
section
variable {X : Cx}
def rCatP (K : PySem.W.Frag) : R2 := fun x y H Q => ∃ a b xs ys, x = .ref a ∧ y = .ref b ∧ SqT K H a xs ∧ SqT K H b ys ∧ xs.length + ys.length ≤ sizeLine ∧ (xs = [] → Q (.ref b) H) ∧ (ys = [] → Q (.ref a) H) ∧ NewT H (xs ++ ys) Q
theorem op_catP : OpR X (binaryOp .Add) (rCatP X.K) := by
  intro pins s σ H x y v u Q I rx ry ⟨a, b, xs, ys, ex, ey, ha, hb, hz, q0, q1, q2⟩
  subst ex ey
  cases rx
  cases ry
  obtain ⟨its, r1, p1, _⟩ := I.tuple ha
  obtain ⟨jts, r2, p2, _⟩ := I.tuple hb
  by_cases hx : xs = []
  · subst hx
    cases r1
    exact cat_tup0 p1 p2 ⟨.ref b, H, I, rfl, q0 rfl⟩
  · exact HT.cat_tup p1 p2 (fun z => hx (r1.nil_iff.mp z)) (fun z => ⟨.ref a, H, I, rfl, q1 (r2.nil_iff.mp z)⟩) (fun z => new_tup I (r1.append r2) (by rw [List.length_append]; exact hz) q2) (by rw [← r1.length, ← r2.length]; exact hz)
abbrev rAddU (K : PySem.W.Frag) : R2 := fun x y H Q => (rI0 (fun i j => .int (i + j)) x y H Q ∨ (∃ i j, x = .str i ∧ y = .str j ∧ i.length + j.length ≤ sizeLine ∧ Q (.str (i ++ j)) H)) ∨ (rCatP K x y H Q ∨ rCat x y H Q)
theorem op_addU : OpR X (binaryOp .Add) (rAddU X.K) := OpR.or (OpR.or op_add op_add_str) (OpR.or op_catP op_cat)
theorem os_add : OpS X (rAddU X.K) addA := fun W φ H st x y a b Q rs ra rb h => by
  cases ra with
  | int i =>
    cases rb with
    | int j => exact .inl (.inl ⟨i, j, rfl, rfl, h.ok rs (.int _)⟩)
    | _ => exact (show False from h).elim
  | str i =>
    cases rb with
    | str j =>
      unfold addA at h
      simp only at h
      split at h
      · rename_i hz
        exact .inl (.inr ⟨i, j, rfl, rfl, hz, h.ok rs (.str _)⟩)
      · exact (show False from h).elim
    | _ => exact (show False from h).elim
  | @tup p xs ds q qs =>
    cases rb with
    | @tup p2 ys es q' qs' =>
      unfold addA at h
      simp only at h
      split at h
      · rename_i hz
        rw [← qs.length, ← qs'.length] at hz
        refine .inr (.inl ⟨p, p2, xs, ys, rfl, rfl, q.sq, q'.sq, hz, fun e => ?_, fun e => ?_, fun p3 o hd hp => ?_⟩)
        · subst e
          cases qs
          exact h.ok rs (.tup q' qs')
        · subst e
          cases qs'
          rw [List.append_nil] at h
          exact h.ok rs (.tup q qs)
        · exact h _ _ _ (ext_new hp) (rs.new hp) (.newTup rs hd hp (qs.app qs'))
      · exact (show False from h).elim
    | _ => exact (show False from h).elim
  | @ref p i q =>
    cases rb with
    | @ref p2 j q2 =>
      unfold addA at h
      simp only at h
      cases e1 : st[i]? with
      | none => rw [e1] at h; exact h.elim
      | some o1 =>
        cases o1 with
        | oth u => rw [e1] at h; exact h.elim
        | lst xs =>
          cases e2 : st[j]? with
          | none => rw [e1, e2] at h; exact h.elim
          | some o2 =>
            cases o2 with
            | oth u => rw [e1, e2] at h; exact h.elim
            | lst ys =>
              rw [e1, e2] at h
              simp only at h
              obtain ⟨vs, h1, h1'⟩ := rs.lst q e1
              obtain ⟨ws, h2, h2'⟩ := rs.lst q2 e2
              split at h
              · rename_i hz
                rw [← h1'.length, ← h2'.length] at hz
                exact .inr (.inr ⟨p, p2, vs, ws, rfl, rfl, h1, h2, hz, fun p3 hp => h _ _ _ (ext_alloc rs hp) (rs.alloc hp (h1'.app h2')) (.newLst rs)⟩)
              · exact (show False from h).elim
    | _ => exact (show False from h).elim
  | _ => exact (show False from h).elim
/-- ints alone -/
theorem os_int {C : Int → Int → Prop} [∀ i j, Decidable (C i j)] {g : Int → Int → Int} {f : A → A → Store → R A} (hf : ∀ i j st, f (.int i) (.int j) st = if C i j then .ok (.int (g i j)) st else .bad)
    (hn : ∀ a b st, (∀ i j, ¬ (a = .int i ∧ b = .int j)) → f a b st = .bad) : OpS X (rI C fun i j => .int (g i j)) f := fun W φ H st x y a b Q rs ra rb h => by
  by_cases hab : ∃ i j, a = .int i ∧ b = .int j
  · obtain ⟨i, j, rfl, rfl⟩ := hab
    cases ra
    cases rb
    rw [hf] at h
    by_cases hc : C i j
    · rw [if_pos hc] at h
      exact ⟨i, j, rfl, rfl, hc, h.ok rs (.int _)⟩
    · rw [if_neg hc] at h
      exact h.elim
  · rw [hn a b st fun i j z => hab ⟨i, j, z⟩] at h
    exact h.elim
theorem os_int0 {g : Int → Int → Int} {f : A → A → Store → R A} (hf : ∀ i j st, f (.int i) (.int j) st = .ok (.int (g i j)) st)
    (hn : ∀ a b st, (∀ i j, ¬ (a = .int i ∧ b = .int j)) → f a b st = .bad) : OpS X (rI0 fun i j => .int (g i j)) f := fun W φ H st x y a b Q rs ra rb h => by
  by_cases hab : ∃ i j, a = .int i ∧ b = .int j
  · obtain ⟨i, j, rfl, rfl⟩ := hab
    cases ra
    cases rb
    rw [hf] at h
    exact ⟨i, j, rfl, rfl, h.ok rs (.int _)⟩
  · rw [hn a b st fun i j z => hab ⟨i, j, z⟩] at h
    exact h.elim
theorem os_intB {g : Int → Int → Bool} {f : A → A → Store → R A} (hf : ∀ i j st, f (.int i) (.int j) st = .ok (.bl (g i j)) st)
    (hn : ∀ a b st, (∀ i j, ¬ (a = .int i ∧ b = .int j)) → f a b st = .bad) : OpS X (rI0 fun i j => .bl (g i j)) f := fun W φ H st x y a b Q rs ra rb h => by
  by_cases hab : ∃ i j, a = .int i ∧ b = .int j
  · obtain ⟨i, j, rfl, rfl⟩ := hab
    cases ra
    cases rb
    rw [hf] at h
    exact ⟨i, j, rfl, rfl, h.ok rs (.bl _)⟩
  · rw [hn a b st fun i j z => hab ⟨i, j, z⟩] at h
    exact h.elim
theorem os_sub : OpS X (rI0 fun i j => .int (i - j)) subA := os_int0 (fun _ _ _ => rfl) fun a b st h => by
  cases a <;> cases b <;> first | rfl | exact absurd ⟨rfl, rfl⟩ (h _ _)
theorem os_and : OpS X (rI0 fun i j => .int (Builtin.bitAnd i j)) andA := os_int0 (fun _ _ _ => rfl) fun a b st h => by
  cases a <;> cases b <;> first | rfl | exact absurd ⟨rfl, rfl⟩ (h _ _)
theorem os_xor : OpS X (rI0 fun i j => .int (Builtin.bitXor i j)) xorA := os_int0 (fun _ _ _ => rfl) fun a b st h => by
  cases a <;> cases b <;> first | rfl | exact absurd ⟨rfl, rfl⟩ (h _ _)
theorem os_le : OpS X (rI0 fun i j => .bl (decide (i ≤ j))) leA := os_intB (fun _ _ _ => rfl) fun a b st h => by
  cases a <;> cases b <;> first | rfl | exact absurd ⟨rfl, rfl⟩ (h _ _)
theorem os_ge : OpS X (rI0 fun i j => .bl (decide (j ≤ i))) geA := os_intB (fun _ _ _ => rfl) fun a b st h => by
  cases a <;> cases b <;> first | rfl | exact absurd ⟨rfl, rfl⟩ (h _ _)
theorem os_pow : OpS X (rI CPow fun i j => .int (i ^ j.toNat)) powA := os_int (C := fun i j => 0 ≤ j ∧ j ≤ 1000000 ∧ i.natAbs < 2 ^ 64) (fun _ _ _ => rfl) fun a b st h => by
  cases a <;> cases b <;> first | rfl | exact absurd ⟨rfl, rfl⟩ (h _ _)
theorem os_shr : OpS X (rI (fun _ j => 0 ≤ j) fun i j => .int (i / 2 ^ j.toNat)) shrA := os_int (C := fun _ j => 0 ≤ j) (fun _ _ _ => rfl) fun a b st h => by
  cases a <;> cases b <;> first | rfl | exact absurd ⟨rfl, rfl⟩ (h _ _)
theorem os_fdiv : OpS X (rI CDivW fun i j => .int (i / j)) fdivA := os_int (C := fun _ j => 0 < j ∧ j.natAbs.log2 < 9000) (fun _ _ _ => rfl) fun a b st h => by
  cases a <;> cases b <;> first | rfl | exact absurd ⟨rfl, rfl⟩ (h _ _)
theorem op_modP : OpR X (binaryOp .Mod) (rI (fun _ j => 0 < j) fun i j => .int (i % j)) := fun pins s σ H x y v u Q I rx ry ⟨i, j, e1, e2, hc, q⟩ =>
  op_modN pins s σ H x y v u Q I rx ry ⟨i, j, e1, e2, (show j ≠ 0 from fun z => by subst z; exact absurd hc (by decide)), by show Q (.int (i.fmod j)) H; rw [Int.fmod_eq_emod_of_nonneg i (Int.le_of_lt hc)]; exact q⟩
theorem os_mod : OpS X (rI (fun _ j => 0 < j) fun i j => .int (i % j)) modA := os_int (C := fun _ j => 0 < j) (fun _ _ _ => rfl) fun a b st h => by
  cases a <;> cases b <;> first | rfl | exact absurd ⟨rfl, rfl⟩ (h _ _)
abbrev rMulU (K : PySem.W.Frag) : R2 := fun x y H Q => (rI CMul (fun i j => .int (i * j)) x y H Q ∨ rI CMulX (fun i j => .int (i * j)) x y H Q) ∨ (rRep x y H Q ∨ rRepU K x y H Q)
theorem op_mulU : OpR X (binaryOp .Mult) (rMulU X.K) := OpR.or (OpR.or op_mul op_mulX) (OpR.or op_rep op_repU)
theorem os_mul : OpS X (rMulU X.K) mulA := fun W φ H st x y a b Q rs ra rb h => by
  cases ra with
  | int i =>
    cases rb with
    | int j =>
      unfold mulA at h
      simp only at h
      split at h
      · rename_i hz
        exact hz.elim (fun hz => .inl (.inl ⟨i, j, rfl, rfl, hz, h.ok rs (.int _)⟩)) (fun hz => .inl (.inr ⟨i, j, rfl, rfl, hz, h.ok rs (.int _)⟩))
      · exact (show False from h).elim
    | _ => exact (show False from h).elim
  | @ref p i q =>
    cases rb with
    | int k =>
      unfold mulA at h
      simp only at h
      cases e1 : st[i]? with
      | none => rw [e1] at h; exact h.elim
      | some o1 =>
        cases o1 with
        | oth u => rw [e1] at h; exact h.elim
        | lst xs =>
          rw [e1] at h
          simp only at h
          obtain ⟨vs, h1, h1'⟩ := rs.lst q e1
          split at h
          · rename_i hz
            rw [← h1'.length] at hz
            exact .inr (.inl ⟨p, k, vs, rfl, rfl, h1, hz.1, hz.2.1, hz.2.2, fun p3 hp => h _ _ _ (ext_alloc rs hp) (rs.alloc hp (h1'.flat _)) (.newLst rs)⟩)
          · exact (show False from h).elim
    | _ => exact (show False from h).elim
  | @tup p xs ds q qs =>
    cases rb with
    | int k =>
      unfold mulA at h
      simp only at h
      split at h
      · rename_i hz
        rw [← qs.length] at hz
        refine .inr (.inr ⟨p, k, xs, rfl, rfl, q.sq, hz.1, hz.2.1, hz.2.2, ?_⟩)
        by_cases c : xs = [] ∨ k = 1
        · refine .inl ⟨c, ?_⟩
          rcases c with e | e
          · subst e
            cases qs
            have e2 : (List.replicate k.toNat ([] : List A)).flatten = [] := by simp
            rw [e2] at h
            exact h.ok rs (.tup q .nil)
          · subst e
            have e2 : (List.replicate (1 : Int).toNat ds).flatten = ds := by simp
            rw [e2] at h
            exact h.ok rs (.tup q qs)
        · refine .inr ⟨fun e => c (.inl e), fun e => c (.inr e), fun p3 o hd hp => ?_⟩
          exact h _ _ _ (ext_new hp) (rs.new hp) (.newTup rs hd hp (qs.flat _))
      · exact (show False from h).elim
    | _ => exact (show False from h).elim
  | _ => exact (show False from h).elim
abbrev rLtU : R2 := fun x y H Q => rI0 (fun i j => .bl (decide (i < j))) x y H Q ∨ (∃ i j : Str, x = .str i ∧ y = .str j ∧ Q (.bl (decide (i.cps.toList < j.cps.toList))) H)
abbrev rGtU : R2 := fun x y H Q => rI0 (fun i j => .bl (decide (j < i))) x y H Q ∨ (∃ i j : Str, x = .str i ∧ y = .str j ∧ Q (.bl (decide (j.cps.toList < i.cps.toList))) H)
theorem op_ltU : OpR X (compareOp .Lt) rLtU := OpR.or op_lt op_lt_str
theorem op_gtU : OpR X (compareOp .Gt) rGtU := OpR.or op_gt op_gt_str
theorem os_lt : OpS X rLtU ltA := fun W φ H st x y a b Q rs ra rb h => by
  cases ra with
  | int i =>
    cases rb with
    | int j => exact .inl ⟨i, j, rfl, rfl, h.ok rs (.bl _)⟩
    | _ => exact (show False from h).elim
  | str i =>
    cases rb with
    | str j => exact .inr ⟨i, j, rfl, rfl, h.ok rs (.bl _)⟩
    | _ => exact (show False from h).elim
  | _ => exact (show False from h).elim
theorem os_gt : OpS X rGtU gtA := fun W φ H st x y a b Q rs ra rb h => by
  cases ra with
  | int i =>
    cases rb with
    | int j => exact .inl ⟨i, j, rfl, rfl, h.ok rs (.bl _)⟩
    | _ => exact (show False from h).elim
  | str i =>
    cases rb with
    | str j => exact .inr ⟨i, j, rfl, rfl, h.ok rs (.bl _)⟩
    | _ => exact (show False from h).elim
  | _ => exact (show False from h).elim
abbrev rEqU (K : PySem.W.Frag) : R2 := fun x y H Q => rEq x y H Q ∨ rEqD K x y H Q
abbrev rNeU (K : PySem.W.Frag) : R2 := fun x y H Q => rNe x y H Q ∨ rNeD K x y H Q
theorem op_eqU (hu : X.A.units + 64 < cLine) : OpR X (compareOp .Eq) (rEqU X.K) := OpR.or op_eq (op_eqD hu)
theorem op_neU (hu : X.A.units + 64 < cLine) : OpR X (compareOp .NotEq) (rNeU X.K) := OpR.or op_ne (op_neD hu)
theorem eqB_ok {K : PySem.W.Frag} {φ : List Addr} {H : Hp} {st : Store} {x y : V} {a b : A} {k : Bool} (rs : RS K w mg φ H st) (ra : RV K φ H x a) (rb : RV K φ H y b) (h : eqB a b st = some k) :
    (scal x y = true ∧ decide (x = y) = k) ∨ ∃ d e, Dp K H x d ∧ Dp K H y e ∧ SeqAt.shaped d = true ∧ SeqAt.shaped e = true ∧ PyData.eqv d e = k := by
  unfold eqB at h
  cases e0 : eqS a b with
  | some b' => rw [e0] at h; cases h; exact .inl (eqS_ok ra rb e0)
  | none =>
    rw [e0] at h
    simp only at h
    cases e1 : dataOf st a with
    | none => rw [e1] at h; cases h
    | some d =>
      cases e2 : dataOf st b with
      | none => rw [e1, e2] at h; cases h
      | some e =>
        rw [e1, e2] at h
        simp only at h
        by_cases hs : SeqAt.shaped d = true ∧ SeqAt.shaped e = true
        · rw [if_pos hs] at h
          cases h
          exact .inr ⟨d, e, dataOf_ok rs ra e1, dataOf_ok rs rb e2, hs.1, hs.2, rfl⟩
        · rw [if_neg hs] at h
          cases h
theorem os_eq : OpS X (rEqU X.K) eqA := fun W φ H st x y a b Q rs ra rb h => by
  unfold eqA at h
  cases e : eqB a b st with
  | none => rw [e] at h; exact (show False from h).elim
  | some k =>
    rw [e] at h
    rcases eqB_ok rs ra rb e with ⟨h1, h2⟩ | ⟨d, e, h1, h2, h3, h4, h5⟩
    · exact .inl ⟨h1, by rw [h2]; exact h.ok rs (.bl _)⟩
    · exact .inr ⟨d, e, h1, h2, h3, h4, by rw [h5]; exact h.ok rs (.bl _)⟩
theorem os_ne : OpS X (rNeU X.K) neA := fun W φ H st x y a b Q rs ra rb h => by
  unfold neA at h
  cases e : eqB a b st with
  | none => rw [e] at h; exact (show False from h).elim
  | some k =>
    rw [e] at h
    rcases eqB_ok rs ra rb e with ⟨h1, h2⟩ | ⟨d, e, h1, h2, h3, h4, h5⟩
    · exact .inl ⟨h1, by rw [h2]; exact h.ok rs (.bl _)⟩
    · exact .inr ⟨d, e, h1, h2, h3, h4, by rw [h5]; exact h.ok rs (.bl _)⟩
theorem isNon_eq {K : PySem.W.Frag} {φ : List Addr} {H : Hp} {x : V} {a : A} (r : RV K φ H x a) : decide (x = .non) = isNonA a := by
  cases r <;> rfl
theorem os_isN : OpS X (fun x y H Q => y = .non ∧ Q (.bl (decide (x = .non))) H) isNA := fun W φ H st x y a b Q rs ra rb h => by
  cases rb with
  | non =>
    refine ⟨rfl, ?_⟩
    rw [isNon_eq ra]
    have h' : Pst X.K X.w X.mg (RV X.K) W φ H (.ok (A.bl (isNonA a)) st) Q := by cases a <;> exact h
    exact h'.ok rs (RV.bl _)
  | _ => cases a <;> exact (show False from h).elim
theorem os_notN : OpS X (fun x y H Q => y = .non ∧ Q (.bl (!decide (x = .non))) H) notNA := fun W φ H st x y a b Q rs ra rb h => by
  cases rb with
  | non =>
    refine ⟨rfl, ?_⟩
    rw [isNon_eq ra]
    have h' : Pst X.K X.w X.mg (RV X.K) W φ H (.ok (A.bl (!isNonA a)) st) Q := by cases a <;> exact h
    exact h'.ok rs (RV.bl _)
  | _ => cases a <;> exact (show False from h).elim
end
end ML
/-! ML3: subscripts, slices, calls of built-ins, methods of lists, calls of one's own defs. -/
namespace ML
open PySem PySem.Spec L2
section
variable {X : Cx} {W : WX} {a b e : Expr} {es : List Expr} {ma mb : MX} {ms : MA} {pos : Pos}
/-! ### subscripts -/
theorem atI_rv {K : PySem.W.Frag} {φ : List Addr} {H : Hp} {vs : List V} {ds : List A} {i : Int} {d : A} (q : RVs K φ H vs ds) (h : atI ds i = some d) : ∃ v, atI vs i = some v ∧ RV K φ H v d := by
  unfold atI at h ⊢
  rw [q.length]
  cases e : ixN ds.length i with
  | none => rw [e] at h; cases h
  | some j =>
    rw [e] at h
    exact q.get h
def ixA : A → A → Store → R A
  | .tup xs, .int i, st => match atI xs i with
    | some d => .ok d st
    | none => .bad
  | .scr xs, .int i, st => match atI xs i with
    | some d => .ok d st
    | none => .bad
  | .str z, .int i, st => if z.length ≤ sizeLine then match atI z.cps.toList i with
    | some c => .ok (.str ⟨#[c]⟩) st
    | none => .bad else .bad
  | .ref r, .int i, st => match st[r]? with
    | some (.lst xs) => match atI xs i with
      | some d => .ok d st
      | none => .bad
    | _ => .bad
  | _, _, _ => .bad
theorem os_ix : OpS X (rIx X.K) ixA := fun W φ H st x y a b Q rs ra rb h => by
  cases ra with
  | @tup p xs ds q qs =>
    cases rb with
    | int i =>
      unfold ixA at h
      simp only at h
      cases e : atI ds i with
      | none => rw [e] at h; exact h.elim
      | some d =>
        rw [e] at h
        obtain ⟨v, h1, h2⟩ := atI_rv qs e
        exact .inr (.inl ⟨p, xs, i, v, rfl, rfl, q.sq, h1, h.ok rs h2⟩)
    | _ => exact (show False from h).elim
  | @scr p xs ds q qs =>
    cases rb with
    | int i =>
      unfold ixA at h
      simp only at h
      cases e : atI ds i with
      | none => rw [e] at h; exact h.elim
      | some d =>
        rw [e] at h
        obtain ⟨v, h1, h2⟩ := atI_rv qs e
        exact .inl ⟨p, xs, i, v, rfl, rfl, q.sq, h1, h.ok rs h2⟩
    | _ => exact (show False from h).elim
  | str z =>
    cases rb with
    | int i =>
      unfold ixA at h
      simp only at h
      split at h
      · rename_i hz
        cases e : atI z.cps.toList i with
        | none => rw [e] at h; exact h.elim
        | some c =>
          rw [e] at h
          exact .inr (.inr ⟨z, i, c, rfl, rfl, hz, e, h.ok rs (.str _)⟩)
      · exact h.elim
    | _ => exact (show False from h).elim
  | @ref p r q =>
    cases rb with
    | int i =>
      unfold ixA at h
      simp only at h
      cases e1 : st[r]? with
      | none => rw [e1] at h; exact h.elim
      | some o =>
        cases o with
        | oth u => rw [e1] at h; exact h.elim
        | lst ds =>
          rw [e1] at h
          simp only at h
          obtain ⟨vs, h1, h1'⟩ := rs.lst q e1
          cases e : atI ds i with
          | none => rw [e] at h; exact h.elim
          | some d =>
            rw [e] at h
            obtain ⟨v, h2, h3⟩ := atI_rv h1' e
            exact .inl ⟨p, vs, i, v, rfl, rfl, .inl (.inl h1), h2, h.ok rs h3⟩
    | _ => exact (show False from h).elim
  | _ => cases rb <;> exact (show False from h).elim
theorem me_ix (ha : PE X a (tE X W ma)) (hb : PE X b (tE X W mb)) (hs : PlainIx b := by exact fun _ _ => rfl) : PE X (.Subscript a b pos) (tE X W (mBin ixA ma mb)) := (pe_ix ix_seq ha hb hs).imp fun _ _ _ h => bin_ok os_ix h
/-! ### slices -/
abbrev MO := Env → Store → R (Option Int)
abbrev rlO : List Addr → Hp → Option Int → Option Int → Prop := fun _ _ x y => x = y
abbrev tO (X : Cx) (W : WX) (m : MO) : TO := tG X.K X.w X.mg rlO W m
def mNoPart : MO := fun _ st => .ok none st
def getI : A → Store → R Int
  | .int i, st => .ok i st
  | _, _ => .bad
def mPart (m : MX) : MO := fun ρ st => (m ρ st).bind fun x st1 => (getI x st1).bind fun i st2 => .ok (some i) st2
theorem POimp {o : Option Expr} {t t' : TO} (h : PO X o t) (k : ∀ σ H Q, t' σ H Q → t σ H Q) : PO X o t' := ⟨fun pins s σ H Q I q => h.run pins s σ H Q I (k _ _ _ q)⟩
theorem mo_none : PO X none (tO X W mNoPart) := POimp po_none fun _ _ _ ⟨_, _, _, rs, _, h⟩ => h.ok rs rfl
theorem mo_some (ha : PE X a (tE X W ma)) : PO X (some a) (tO X W (mPart ma)) := POimp (po_some ha) fun σ H Q ⟨φ, ρ, st, rs, re, h⟩ => by
  refine ⟨φ, ρ, st, rs, re, h.seq fun φ1 a x H1 st1 e1 rs1 rv1 h1 => ?_⟩
  cases rv1 with
  | int i => exact ⟨i, rfl, h1.ok rs1 rfl⟩
  | _ => exact (show False from h1).elim
def cutA {α : Type} (xs : List α) (lo hi : Option Int) : List α := (xs.drop (HT.sIx xs.length 0 lo)).take (HT.sIx xs.length xs.length hi - HT.sIx xs.length 0 lo)
def slA : A → Option Int → Option Int → Store → R A
  | .tup xs, lo, hi, st => .ok (.tup (cutA xs lo hi)) st
  | .scr xs, lo, hi, st => .ok (.ref st.length) (st ++ [.lst (cutA xs lo hi)])
  | .str z, lo, hi, st => if z.length ≤ sizeLine then .ok (.str (cutS z lo hi)) st else .bad
  | .ref r, lo, hi, st => match st[r]? with
    | some (.lst xs) => .ok (.ref st.length) (st ++ [.lst (cutA xs lo hi)])
    | _ => .bad
  | _, _, _, _ => .bad
theorem cut_rv {K : PySem.W.Frag} {φ : List Addr} {H : Hp} {vs : List V} {ds : List A} (q : RVs K φ H vs ds) (lo hi : Option Int) : RVs K φ H (cutV vs lo hi) (cutA ds lo hi) := by
  unfold cutV cutA
  rw [q.length]
  exact (q.drop _).take _
theorem cut_all {α : Type} {xs : List α} {lo hi : Option Int} (h : HT.sIx xs.length 0 lo = 0 ∧ HT.sIx xs.length xs.length hi = xs.length) : cutA xs lo hi = xs := by
  unfold cutA
  rw [h.1, h.2]
  simp
def rSlP (K : PySem.W.Frag) : V → Option Int → Option Int → Hp → VK → Prop := fun x lo hi H Q => ∃ a xs, x = .ref a ∧ SqT K H a xs ∧ (HT.sIx xs.length 0 lo = 0 ∧ HT.sIx xs.length xs.length hi = xs.length → Q (.ref a) H) ∧ NewT H (cutV xs lo hi) Q
theorem sl_tupP : SlR X (rSlP X.K) := by
  intro pins s σ H x v vl vu lo hi sl Q I rx hs pl pu ⟨a, xs, ex, hx, q1, q2⟩
  subst ex
  cases rx
  obtain ⟨its, r, ht, hz⟩ := I.tuple hx
  have hn : its.toArray.size = xs.length := by rw [List.size_toArray, r.length]
  refine ⟨"tuple", _, PyProof.Rows.slot_tuple_getitem.lookup, ht.typeIs, ?_⟩
  by_cases hw : HT.sIx xs.length 0 lo = 0 ∧ HT.sIx xs.length xs.length hi = xs.length
  · exact getItem_tuple_whole ht hs pl pu (by rw [hn]; exact hw) ⟨.ref a, H, I, rfl, q1 hw⟩
  · refine HT.getItem_tuple_cut ht hs pl pu (by rw [hn]; exact hw) ?_ (by rw [hn]; exact hz)
    rw [hn]
    exact new_tup I ((r.drop (HT.sIx xs.length 0 lo)).take (HT.sIx xs.length xs.length hi - HT.sIx xs.length 0 lo)) (Nat.le_trans (cutV_length xs lo hi) hz) q2
abbrev rSlU (K : PySem.W.Frag) : V → Option Int → Option Int → Hp → VK → Prop := fun x lo hi H Q => rSlL K x lo hi H Q ∨ (rSlP K x lo hi H Q ∨ rSlS x lo hi H Q)
theorem sl_U : SlR X (rSlU X.K) := sl_list.or (sl_tupP.or sl_str)
def mSl (ma : MX) (ml mh : MO) : MX := fun ρ st => (ma ρ st).bind fun x st1 => (ml ρ st1).bind fun lo st2 => (mh ρ st2).bind fun hi st3 => slA x lo hi st3
theorem me_slice {lo hi : Option Expr} {ml mh : MO} {p2 : Pos} (ha : PE X a (tE X W ma)) (hl : PO X lo (tO X W ml)) (hh : PO X hi (tO X W mh)) : PE X (.Subscript a (.Slice lo hi none p2) pos) (tE X W (mSl ma ml mh)) := (pe_slice sl_U ha hl hh).imp fun σ H Q ⟨φ, ρ, st, rs, re, h⟩ => by
  refine ⟨φ, ρ, st, rs, re, h.seq fun φ1 a x H1 st1 e1 rs1 rv1 h1 => ⟨φ1, ρ, st1, rs1, re.ext e1, h1.seq fun φ2 lo lo' H2 st2 e2 rs2 rv2 h2 => ⟨φ2, ρ, st2, rs2, (re.ext e1).ext e2, h2.seq fun φ3 hi hi' H3 st3 e3 rs3 rv3 h3 => ?_⟩⟩⟩
  have r := (rv1.ext e2).ext e3
  cases rv2
  cases rv3
  cases r with
  | @tup p xs ds q qs =>
    refine .inr (.inl ⟨p, xs, rfl, q.sq, fun hw => ?_, fun p2 o hd hp => ?_⟩)
    · rw [qs.length] at hw
      have h3' : Pst X.K X.w X.mg (RV X.K) (fun c d H' => W c d σ H') φ3 H3 (.ok (.tup ds) st3) Q := by
        rw [← cut_all hw]
        exact h3
      exact h3'.ok rs3 (.tup q qs)
    · exact h3 _ _ _ (ext_new hp) (rs3.new hp) (.newTup rs3 hd hp (cut_rv qs _ _))
  | @scr p xs ds q qs => exact .inl ⟨p, xs, rfl, q.sq, fun p2 hp => h3 _ _ _ (ext_alloc rs3 hp) (rs3.alloc hp (cut_rv qs _ _)) (.newLst rs3)⟩
  | str z =>
    unfold slA at h3
    simp only at h3
    split at h3
    · rename_i hz
      exact .inr (.inr ⟨z, rfl, hz, h3.ok rs3 (.str _)⟩)
    · exact (show False from h3).elim
  | @ref p r q =>
    unfold slA at h3
    simp only at h3
    cases e1 : st3[r]? with
    | none => rw [e1] at h3; exact h3.elim
    | some o =>
      cases o with
      | oth u => rw [e1] at h3; exact h3.elim
      | lst ds =>
        rw [e1] at h3
        simp only at h3
        obtain ⟨vs, h1, h1'⟩ := rs3.lst q e1
        exact .inl ⟨p, vs, rfl, .inl (.inl h1), fun p2 hp => h3 _ _ _ (ext_alloc rs3 hp) (rs3.alloc hp (cut_rv h1' _ _)) (.newLst rs3)⟩
  | _ => exact (show False from h3).elim
/-! ### calls of built-ins -/
def CaS (X : Cx) (r : List V → Hp → VK → Prop) (g : List A → Store → R A) : Prop := ∀ (W : WH) (φ : List Addr) (H : Hp) (st : Store) (vs : List V) (as : List A) (Q : VK), RS X.K X.w X.mg φ H st → RVs X.K φ H vs as → Pst X.K X.w X.mg (RV X.K) W φ H (g as st) Q → r vs H Q
def mCa (g : List A → Store → R A) (ms : MA) : MX := fun ρ st => (ms ρ st).bind g
theorem ca_ok {r : List V → Hp → VK → Prop} {g : List A → Store → R A} (hg : CaS X r g) {σ : L2.St} {H : Hp} {Q : VK} (h : tE X W (mCa g ms) σ H Q) : tCB r (tA X W ms) σ H Q := by
  obtain ⟨φ, ρ, st, rs, re, h⟩ := h
  exact ⟨φ, ρ, st, rs, re, h.seq fun φ1 a x H1 st1 e1 rs1 rv1 h1 => hg _ _ _ _ _ _ _ rs1 rv1 h1⟩
theorem me_callB {id : String} {x : Str} {p : Pos} {r : List V → Hp → VK → Prop} {g : List A → Store → R A} (hc : CallR X (.builtin id) r) (hs : CaS X r g) (hv : bootBuiltins x = some (.builtin id)) (hm : X.mg x = none) (ha : PA X (e :: es) (tA X W ms)) (hg : Gl X x := by rfl) (hn : x ≠ "__name__" := by decide) (hdb : (x == ("__debug__" : Str)) = false := by decide)
    (he : starEach (e :: es) X.env = (false, eval e X.env) :: starEach es X.env := by rfl) (hpl : (backTo pos (starEach es X.env)).any (·.1) = false := by rfl) : PE X (.Call (.Name x p) (e :: es) [] pos) (tE X W (mCa g ms)) := (pe_callB hc hg hm hv ha hn hdb he hpl).imp fun _ _ _ h => ca_ok hs h
theorem me_callTy {T : String} {x : Str} {p : Pos} {r : List V → Hp → VK → Prop} {g : List A → Store → R A} (hc : CallR X (.type T) r) (hs : CaS X r g) (hv : bootBuiltins x = some (.type T)) (hm : X.mg x = none) (ha : PA X (e :: es) (tA X W ms)) (hg : Gl X x := by rfl) (hn : x ≠ "__name__" := by decide) (hdb : (x == ("__debug__" : Str)) = false := by decide)
    (he : starEach (e :: es) X.env = (false, eval e X.env) :: starEach es X.env := by rfl) (hpl : (backTo pos (starEach es X.env)).any (·.1) = false := by rfl) : PE X (.Call (.Name x p) (e :: es) [] pos) (tE X W (mCa g ms)) := (pe_callTy hc hg hm hv ha hn hdb he hpl).imp fun _ _ _ h => ca_ok hs h
def absA : List A → Store → R A
  | [.int i], st => .ok (.int (if i < 0 then -i else i)) st
  | _, _ => .bad
theorem one_rv {K : PySem.W.Frag} {φ : List Addr} {H : Hp} {vs : List V} {d : A} (q : RVs K φ H vs [d]) : ∃ v, vs = [v] ∧ RV K φ H v d := by
  cases q with
  | cons h t => cases t; exact ⟨_, rfl, h⟩
theorem two_rv {K : PySem.W.Frag} {φ : List Addr} {H : Hp} {vs : List V} {d d' : A} (q : RVs K φ H vs [d, d']) : ∃ v v', vs = [v, v'] ∧ RV K φ H v d ∧ RV K φ H v' d' := by
  cases q with
  | cons h t =>
    obtain ⟨v, rfl, h2⟩ := one_rv t
    exact ⟨_, _, rfl, h, h2⟩
theorem cs_abs : CaS X (fun xs H Q => ∃ i, xs = [.int i] ∧ Q (.int (if i < 0 then -i else i)) H) absA := fun W φ H st vs as Q rs rv h => by
  unfold absA at h
  split at h
  · obtain ⟨v, rfl, r⟩ := one_rv rv
    cases r
    exact ⟨_, rfl, h.ok rs (.int _)⟩
  · exact h.elim
def intA : List A → Store → R A
  | [.int i], st => .ok (.int i) st
  | [.bl k], st => .ok (.int (if k then 1 else 0)) st
  | _, _ => .bad
theorem cs_int : CaS X (fun xs H Q => (∃ i, xs = [.int i] ∧ Q (.int i) H) ∨ ∃ k, xs = [.bl k] ∧ Q (.int (if k then 1 else 0)) H) intA := fun W φ H st vs as Q rs rv h => by
  unfold intA at h
  split at h
  · obtain ⟨v, rfl, r⟩ := one_rv rv
    cases r
    exact .inl ⟨_, rfl, h.ok rs (.int _)⟩
  · obtain ⟨v, rfl, r⟩ := one_rv rv
    cases r
    exact .inr ⟨_, rfl, h.ok rs (.int _)⟩
  · exact h.elim
/-- the ints of a list of data -/
def intsOf : List A → Option (List Int)
  | [] => some []
  | .int i :: r => (intsOf r).map (i :: ·)
  | _ => none
theorem intsOf_eq : ∀ {ds : List A} {ns : List Int}, intsOf ds = some ns → ds = ns.map A.int
  | [], _, h => by cases h; rfl
  | .int i :: r, ns, h => by
    simp only [intsOf] at h
    cases e : intsOf r with
    | none => rw [e] at h; cases h
    | some ms =>
      rw [e] at h
      cases h
      rw [List.map_cons, intsOf_eq e]
  | .non :: _, _, h => by cases h
  | .bl _ :: _, _, h => by cases h
  | .str _ :: _, _, h => by cases h
  | .tup _ :: _, _, h => by cases h
  | .scr _ :: _, _, h => by cases h
  | .ref _ :: _, _, h => by cases h
theorem intsOf_map : ∀ ns : List Int, intsOf (ns.map A.int) = some ns
  | [] => rfl
  | n :: r => by rw [List.map_cons, intsOf, intsOf_map r]; rfl
/-- the items of a list in hand -/
def itemsL : A → Store → Option (List A)
  | .scr xs, _ => some xs
  | .ref r, st => match st[r]? with
    | some (.lst xs) => some xs
    | _ => none
  | _, _ => none
theorem itemsL_ok {K : PySem.W.Frag} {φ : List Addr} {H : Hp} {st : Store} {v : V} {a : A} {ds : List A} (rs : RS K w mg φ H st) (r : RV K φ H v a) (h : itemsL a st = some ds) : ∃ p xs, v = .ref p ∧ SqL K H p xs ∧ RVs K φ H xs ds := by
  cases r with
  | scr q qs => cases h; exact ⟨_, _, rfl, q.sq, qs⟩
  | @ref p i q =>
    unfold itemsL at h
    simp only at h
    cases e : st[i]? with
    | none => rw [e] at h; cases h
    | some o =>
      cases o with
      | oth u => rw [e] at h; cases h
      | lst xs =>
        rw [e] at h
        cases h
        obtain ⟨vs, h1, h2⟩ := rs.lst q e
        exact ⟨p, vs, rfl, .inl (.inl h1), h2⟩
  | _ => cases h
/-- of a list or a tuple -/
def itemsQ : A → Store → Option (List A)
  | .tup xs, _ => some xs
  | a, st => itemsL a st
theorem itemsQ_ok {K : PySem.W.Frag} {φ : List Addr} {H : Hp} {st : Store} {v : V} {a : A} {ds : List A} (rs : RS K w mg φ H st) (r : RV K φ H v a) (h : itemsQ a st = some ds) : ∃ p xs, v = .ref p ∧ (SqL K H p xs ∨ SqT K H p xs) ∧ RVs K φ H xs ds := by
  cases r with
  | tup q qs => cases h; exact ⟨_, _, rfl, .inr q.sq, qs⟩
  | scr q qs =>
    obtain ⟨p, xs, h1, h2, h3⟩ := itemsL_ok rs (.scr q qs) h
    exact ⟨p, xs, h1, .inl h2, h3⟩
  | ref q =>
    obtain ⟨p, xs, h1, h2, h3⟩ := itemsL_ok rs (.ref q) h
    exact ⟨p, xs, h1, .inl h2, h3⟩
  | _ => cases h
def maxL : List Int → Option Int
  | [] => none
  | n :: r => some (r.foldl max n)
def minL : List Int → Option Int
  | [] => none
  | n :: r => some (r.foldl min n)
def maxA : List A → Store → R A
  | [.int i, .int j], st => .ok (.int (if j > i then j else i)) st
  | [x], st => match (itemsL x st).bind intsOf with
    | some ns => match maxL ns with
      | some m => .ok (.int m) st
      | none => .bad
    | none => .bad
  | _, _ => .bad
def minA : List A → Store → R A
  | [.int i, .int j], st => .ok (.int (if j < i then j else i)) st
  | [x], st => match (itemsL x st).bind intsOf with
    | some ns => match minL ns with
      | some m => .ok (.int m) st
      | none => .bad
    | none => .bad
  | _, _ => .bad
theorem foldmax_mem : ∀ (r : List Int) (n : Int), r.foldl max n ∈ n :: r ∧ ∀ y ∈ n :: r, y ≤ r.foldl max n
  | [], n => ⟨List.mem_singleton_self n, fun y hy => by rw [List.mem_singleton.mp hy]; exact Int.le_refl _⟩
  | m :: r, n => by
    obtain ⟨h1, h2⟩ := foldmax_mem r (max n m)
    rw [List.foldl_cons]
    refine ⟨?_, fun y hy => ?_⟩
    · rcases List.mem_cons.mp h1 with h | h
      · rw [h]
        by_cases c : n ≤ m
        · rw [Int.max_eq_right c]; exact List.mem_cons_of_mem _ List.mem_cons_self
        · rw [Int.max_eq_left (by omega)]; exact List.mem_cons_self
      · exact List.mem_cons_of_mem _ (List.mem_cons_of_mem _ h)
    · have h3 := h2 _ List.mem_cons_self
      rcases List.mem_cons.mp hy with h | h
      · subst h; exact Int.le_trans (Int.le_max_left _ _) h3
      · rcases List.mem_cons.mp h with h | h
        · subst h; exact Int.le_trans (Int.le_max_right _ _) h3
        · exact h2 _ (List.mem_cons_of_mem _ h)
theorem foldmin_mem : ∀ (r : List Int) (n : Int), r.foldl min n ∈ n :: r ∧ ∀ y ∈ n :: r, r.foldl min n ≤ y
  | [], n => ⟨List.mem_singleton_self n, fun y hy => by rw [List.mem_singleton.mp hy]; exact Int.le_refl _⟩
  | m :: r, n => by
    obtain ⟨h1, h2⟩ := foldmin_mem r (min n m)
    rw [List.foldl_cons]
    refine ⟨?_, fun y hy => ?_⟩
    · rcases List.mem_cons.mp h1 with h | h
      · rw [h]
        by_cases c : n ≤ m
        · rw [Int.min_eq_left c]; exact List.mem_cons_self
        · rw [Int.min_eq_right (by omega)]; exact List.mem_cons_of_mem _ List.mem_cons_self
      · exact List.mem_cons_of_mem _ (List.mem_cons_of_mem _ h)
    · have h3 := h2 _ List.mem_cons_self
      rcases List.mem_cons.mp hy with h | h
      · subst h; exact Int.le_trans h3 (Int.min_le_left _ _)
      · rcases List.mem_cons.mp h with h | h
        · subst h; exact Int.le_trans h3 (Int.min_le_right _ _)
        · exact h2 _ (List.mem_cons_of_mem _ h)
abbrev rMaxU (K : PySem.W.Frag) : List V → Hp → VK → Prop := fun xs H Q => (∃ i j, xs = [.int i, .int j] ∧ Q (.int (if j > i then j else i)) H) ∨ rMax K xs H Q
abbrev rMinU (K : PySem.W.Frag) : List V → Hp → VK → Prop := fun xs H Q => (∃ i j, xs = [.int i, .int j] ∧ Q (.int (if j < i then j else i)) H) ∨ rMin K xs H Q
theorem call_maxU (hc : X.calm = true) : CallR X (.builtin "max") (rMaxU X.K) := CallR.or (call_max2 hc) (cr_max hc)
theorem call_minU (hc : X.calm = true) : CallR X (.builtin "min") (rMinU X.K) := CallR.or (call_min2 hc) (cr_min hc)
theorem cs_max : CaS X (rMaxU X.K) maxA := fun W φ H st vs as Q rs rv h => by
  unfold maxA at h
  split at h
  · obtain ⟨v, v', rfl, r, r'⟩ := two_rv rv
    cases r
    cases r'
    exact .inl ⟨_, _, rfl, h.ok rs (.int _)⟩
  · rename_i x
    obtain ⟨v, rfl, r⟩ := one_rv rv
    cases e : itemsL x st with
    | none => rw [e] at h; exact h.elim
    | some ds =>
      rw [e] at h
      simp only [Option.bind_some] at h
      cases e2 : intsOf ds with
      | none => rw [e2] at h; exact h.elim
      | some ns =>
        rw [e2] at h
        obtain ⟨p, xs, rfl, hq, hs⟩ := itemsL_ok rs r e
        rw [intsOf_eq e2] at hs
        rw [hs.ints] at hq
        cases ns with
        | nil => exact h.elim
        | cons n ns =>
          refine .inr ⟨p, n :: ns, rfl, hq, by simp, fun m hm hle => ?_⟩
          have ⟨h1, h2⟩ := foldmax_mem ns n
          have em : m = ns.foldl max n := Int.le_antisymm (h2 m hm) (hle _ h1)
          rw [em]
          exact Pst.ok (show Pst X.K X.w X.mg (RV X.K) W φ H (.ok (.int (ns.foldl max n)) st) Q from h) rs (.int _)
  · exact h.elim
theorem cs_min : CaS X (rMinU X.K) minA := fun W φ H st vs as Q rs rv h => by
  unfold minA at h
  split at h
  · obtain ⟨v, v', rfl, r, r'⟩ := two_rv rv
    cases r
    cases r'
    exact .inl ⟨_, _, rfl, h.ok rs (.int _)⟩
  · rename_i x
    obtain ⟨v, rfl, r⟩ := one_rv rv
    cases e : itemsL x st with
    | none => rw [e] at h; exact h.elim
    | some ds =>
      rw [e] at h
      simp only [Option.bind_some] at h
      cases e2 : intsOf ds with
      | none => rw [e2] at h; exact h.elim
      | some ns =>
        rw [e2] at h
        obtain ⟨p, xs, rfl, hq, hs⟩ := itemsL_ok rs r e
        rw [intsOf_eq e2] at hs
        rw [hs.ints] at hq
        cases ns with
        | nil => exact h.elim
        | cons n ns =>
          refine .inr ⟨p, n :: ns, rfl, hq, by simp, fun m hm hle => ?_⟩
          have ⟨h1, h2⟩ := foldmin_mem ns n
          have em : m = ns.foldl min n := Int.le_antisymm (hle _ h1) (h2 m hm)
          rw [em]
          exact Pst.ok (show Pst X.K X.w X.mg (RV X.K) W φ H (.ok (.int (ns.foldl min n)) st) Q from h) rs (.int _)
  · exact h.elim
def sumA : List A → Store → R A
  | [x], st => match (itemsL x st).bind intsOf with
    | some ns => .ok (.int ns.sum) st
    | none => .bad
  | _, _ => .bad
theorem cs_sum : CaS X (rSum X.K) sumA := fun W φ H st vs as Q rs rv h => by
  unfold sumA at h
  split at h
  · rename_i x
    obtain ⟨v, rfl, r⟩ := one_rv rv
    cases e : itemsL x st with
    | none => rw [e] at h; exact h.elim
    | some ds =>
      rw [e] at h
      simp only [Option.bind_some] at h
      cases e2 : intsOf ds with
      | none => rw [e2] at h; exact h.elim
      | some ns =>
        rw [e2] at h
        obtain ⟨p, xs, rfl, hq, hs⟩ := itemsL_ok rs r e
        rw [intsOf_eq e2] at hs
        rw [hs.ints] at hq
        exact ⟨p, ns, rfl, hq, h.ok rs (.int _)⟩
  · exact h.elim
def lenA : List A → Store → R A
  | [.str z], st => if z.length ≤ sizeLine then .ok (.int (z.length : Nat)) st else .bad
  | [x], st => match itemsQ x st with
    | some xs => .ok (.int (xs.length : Nat)) st
    | none => .bad
  | _, _ => .bad
abbrev rLenU (K : PySem.W.Frag) : List V → Hp → VK → Prop := fun xs H Q => ∃ x n, xs = [x] ∧ LenV K x H n ∧ Q (.int n) H
theorem cs_len : CaS X (rLenU X.K) lenA := fun W φ H st vs as Q rs rv h => by
  unfold lenA at h
  split at h
  · obtain ⟨v, rfl, r⟩ := one_rv rv
    cases r
    split at h
    · rename_i hz
      exact ⟨_, _, rfl, ⟨hz, rfl⟩, h.ok rs (.int _)⟩
    · exact h.elim
  · rename_i x _
    obtain ⟨v, rfl, r⟩ := one_rv rv
    cases e : itemsQ x st with
    | none => rw [e] at h; exact h.elim
    | some ds =>
      rw [e] at h
      obtain ⟨p, xs, rfl, hq, hs⟩ := itemsQ_ok rs r e
      have hl := hs.length
      rcases hq with hq | hq
      · exact ⟨_, _, rfl, .inl ⟨xs, hq, rfl⟩, by rw [hl]; exact h.ok rs (.int _)⟩
      · exact ⟨_, _, rfl, .inr ⟨xs, hq, rfl⟩, by rw [hl]; exact h.ok rs (.int _)⟩
  · exact h.elim
def listA : List A → Store → R A
  | [x], st => match itemsQ x st with
    | some xs => .ok (.ref st.length) (st ++ [.lst xs])
    | none => .bad
  | _, _ => .bad
theorem cs_list : CaS X (fun xs H Q => ∃ p ys, xs = [.ref p] ∧ (SqL X.K H p ys ∨ SqT X.K H p ys) ∧ ∀ l, H l = none → Q (.ref l) (upd H l (.lst ys))) listA := fun W φ H st vs as Q rs rv h => by
  unfold listA at h
  split at h
  · rename_i x
    obtain ⟨v, rfl, r⟩ := one_rv rv
    cases e : itemsQ x st with
    | none => rw [e] at h; exact h.elim
    | some ds =>
      rw [e] at h
      obtain ⟨p, xs, rfl, hq, hs⟩ := itemsQ_ok rs r e
      exact ⟨p, xs, rfl, hq, fun l hp => h _ _ _ (ext_alloc rs hp) (rs.alloc hp hs) (.newLst rs)⟩
  · exact h.elim
def tupleA : List A → Store → R A
  | [.tup xs], st => .ok (.tup xs) st
  | [x], st => match itemsL x st with
    | some xs => .ok (.tup xs) st
    | none => .bad
  | _, _ => .bad
def rTupP (K : PySem.W.Frag) : List V → Hp → VK → Prop := fun xs H Q => ∃ p ys, xs = [.ref p] ∧ ((SqL K H p ys ∧ NewT H ys Q) ∨ (SqT K H p ys ∧ Q (.ref p) H))
theorem call_tupleP : CallR X (.type "tuple") (rTupP X.K) := by
  intro pins s σ H xs us Q I r ⟨p, ys, ex, h⟩
  subst ex
  obtain ⟨u, rfl, rx⟩ := vals1 r
  cases rx
  rcases h with ⟨hq, q⟩ | ⟨hq, q⟩
  · obtain ⟨its, r', pl, hz⟩ := I.list hq
    have hn := r'.length
    exact call_tuple_list pl.isList (fun h' kp => new_tup (s := { s with heap := h' }) (I.kept (t' := s.toks) kp) r' hz q) (by rw [List.size_toArray]; omega)
  · obtain ⟨its, _, pl, _⟩ := I.tuple hq
    exact call_tuple_same pl ⟨.ref p, H, I, rfl, q⟩
theorem cs_tuple : CaS X (rTupP X.K) tupleA := fun W φ H st vs as Q rs rv h => by
  unfold tupleA at h
  split at h
  · obtain ⟨v, rfl, r⟩ := one_rv rv
    cases r with
    | tup q qs => exact ⟨_, _, rfl, .inr ⟨q.sq, h.ok rs (.tup q qs)⟩⟩
  · rename_i x _
    obtain ⟨v, rfl, r⟩ := one_rv rv
    cases e : itemsL x st with
    | none => rw [e] at h; exact h.elim
    | some ds =>
      rw [e] at h
      obtain ⟨p, xs, rfl, hq, hs⟩ := itemsL_ok rs r e
      exact ⟨p, xs, rfl, .inl ⟨hq, fun l o hd hp => h _ _ _ (ext_new hp) (rs.new hp) (.newTup rs hd hp hs)⟩⟩
  · exact h.elim
def ordA : List A → Store → R A
  | [.str x], st => if x.length = 1 then .ok (.int (x.cps.getD 0 0 : Nat)) st else .bad
  | _, _ => .bad
theorem cs_ord : CaS X (fun xs H Q => ∃ x : Str, xs = [.str x] ∧ x.length = 1 ∧ Q (.int (x.cps.getD 0 0 : Nat)) H) ordA := fun W φ H st vs as Q rs rv h => by
  unfold ordA at h
  split at h
  · obtain ⟨v, rfl, r⟩ := one_rv rv
    cases r
    split at h
    · rename_i hz
      exact ⟨_, rfl, hz, h.ok rs (.int _)⟩
    · exact h.elim
  · exact h.elim
/-! ### isinstance with a built-in class -/
def strA : List A → Store → R A
  | [.int i], st => if i.natAbs.log2 < 1920 then .ok (.str (toString i)) st else .bad
  | _, _ => .bad
theorem cs_str : CaS X (fun xs H Q => ∃ i : Int, xs = [.int i] ∧ i.natAbs.log2 < 1920 ∧ Q (.str (toString i)) H) strA := fun W φ H st vs as Q rs rv h => by
  unfold strA at h
  split at h
  · obtain ⟨v, rfl, r⟩ := one_rv rv
    cases r
    split at h
    · rename_i hz
      exact ⟨_, rfl, hz, h.ok rs (.str _)⟩
    · exact h.elim
  · exact h.elim
inductive Ty where
  | tup | str | int | bool | list
def Ty.nm : Ty → String
  | .tup => "tuple"
  | .str => "str"
  | .int => "int"
  | .bool => "bool"
  | .list => "list"
def Ty.isL : Ty → Bool
  | .list => true
  | _ => false
def tyN : A → Store → String
  | .non, _ => "NoneType"
  | .bl _, _ => "bool"
  | .int _, _ => "int"
  | .str _, _ => "str"
  | .tup _, _ => "tuple"
  | .scr _, _ => "list"
  | .ref r, st => match st[r]? with
    | some (.lst _) => "list"
    | _ => "?"
def isTy : Ty → A → Store → Option Bool
  | .tup, .tup _, _ => some true
  | .str, .str _, _ => some true
  | .int, .int _, _ => some true
  | .int, .bl _, _ => some true
  | .bool, .bl _, _ => some true
  | .list, .scr _, _ => some true
  | T, .ref r, st => match st[r]? with
    | some (.lst _) => some T.isL
    | _ => none
  | _, _, _ => some false
def isiA (T : Ty) (x : A) (st : Store) : R A := match isTy T x st with
  | some b => .ok (.bl b) st
  | none => .bad
theorem tyX_of {K : PySem.W.Frag} {φ : List Addr} {H : Hp} {st : Store} {v : V} {a : A} {T : Ty} {b : Bool} (rs : RS K w mg φ H st) (r : RV K φ H v a) (h : isTy T a st = some b) : ∃ t, TyX K H v (.type t) ∧ kitB t T.nm = some b := by
  cases r with
  | non => refine ⟨"NoneType", .base .non, ?_⟩; cases T <;> (cases h; decide +kernel)
  | bl k => refine ⟨"bool", .base (.bl k), ?_⟩; cases T <;> (cases h; decide +kernel)
  | int k => refine ⟨"int", .base (.int k), ?_⟩; cases T <;> (cases h; decide +kernel)
  | str k => refine ⟨"str", .base (.str k), ?_⟩; cases T <;> (cases h; decide +kernel)
  | tup q qs =>
    refine ⟨"tuple", ?_, by cases T <;> (cases h; decide +kernel)⟩
    rcases q with ⟨⟨o, _, q⟩, _⟩ | ⟨o, its, n, q1, q2, _⟩
    · exact .fTuple q
    · exact .kTuple q1 q2
  | scr q qs =>
    refine ⟨"list", ?_, by cases T <;> (cases h; decide +kernel)⟩
    rcases q with ⟨⟨o, q⟩, _⟩ | ⟨o, its, n, q1, q2, _⟩
    · exact .base (.frz q)
    · exact .kList q1 q2
  | @ref p i q =>
    have h' : (match st[i]? with | some (.lst _) => some T.isL | _ => none) = some b := by cases T <;> exact h
    cases e : st[i]? with
    | none => rw [e] at h'; cases h'
    | some o =>
      cases o with
      | oth u => rw [e] at h'; cases h'
      | lst ds =>
        rw [e] at h'
        obtain ⟨xs, h1, _⟩ := rs.lst q e
        refine ⟨"list", .base (.lst h1), ?_⟩
        cases T <;> (have hb := Option.some.inj h'; subst hb; decide +kernel)
theorem me_isi (T : Ty) {p p2 pos : Pos} {x n : Str} (ha : PE X a (tE X W ma)) (hx : x = "isinstance") (hn : n = Str.ofString T.nm) (hm : X.mg x = none) (hm2 : X.mg n = none) (hv2 : bootBuiltins n = some (.type T.nm)) (hg : Gl X x := by rfl) (hg2 : Gl X n := by rfl) (hn1 : n ≠ "__name__" := by decide) (hd1 : (n == ("__debug__" : Str)) = false := by decide)
    (he2 : starEach [.Name n p2] X.env = (false, eval (.Name n p2) X.env) :: starEach [] X.env := by rfl) (he : starEach (a :: [.Name n p2]) X.env = (false, eval a X.env) :: starEach [.Name n p2] X.env := by rfl) (hpl : (backTo pos (starEach [.Name n p2] X.env)).any (·.1) = false := by rfl) :
    PE X (.Call (.Name x p) [a, .Name n p2] [] pos) (tE X W (mUn (isiA T) ma)) := by
  subst hx
  refine (pe_callB call_isi hg hm PyProof.Rows.boot_isinstance (pa_cons ha (pa_cons (pe_bltn (v := .ty T.nm) hg2 hm2 hv2 rfl hn1 hd1) pa_nil he2) he) (by decide) (by decide) he hpl).imp fun σ H Q ⟨φ, ρ, st, rs, re, h⟩ => ?_
  refine ⟨φ, ρ, st, rs, re, h.seq fun φ1 d v H1 st1 e1 rs1 rv1 h1 => ?_⟩
  unfold isiA at h1
  cases e : isTy T d st1 with
  | none => rw [e] at h1; exact h1.elim
  | some b =>
    rw [e] at h1
    obtain ⟨t, h2, h3⟩ := tyX_of rs1 rv1 e
    exact ⟨v, .ty T.nm, .type t, .type T.nm, b, rfl, .ty _, h2, kit_ty h3, h1.ok rs1 (.bl b)⟩
/-! ### n.bit_length() -/
def bitsA : A → Store → R A
  | .int i, st => .ok (.int (Builtin.Int.intBits i : Nat)) st
  | _, _ => .bad
theorem me_bits {apos : Pos} (ha : PE X a (tE X W ma)) (hbase : attributeBase a "bit_length" X.env (eval a X.env) = eval a X.env := by rfl) (hline : (apos.endLine == pos.line) = true := by rfl) : PE X (.Call (.Attribute a "bit_length" apos) [] [] pos) (tE X W (mUn bitsA ma)) := (pe_bits ha hbase hline).imp fun σ H Q ⟨φ, ρ, st, rs, re, h⟩ => by
  refine ⟨φ, ρ, st, rs, re, h.seq fun φ1 d v H1 st1 e1 rs1 rv1 h1 => ?_⟩
  cases rv1 with
  | int i => exact ⟨i, rfl, h1.ok rs1 (.int _)⟩
  | _ => exact (show False from h1).elim
/-! ### methods of lists -/
def isL : A → Store → Bool
  | .ref r, st => match st[r]? with
    | some (.lst _) => true
    | _ => false
  | _, _ => false
theorem isL_ok {K : PySem.W.Frag} {φ : List Addr} {H : Hp} {st : Store} {v : V} {a : A} (rs : RS K w mg φ H st) (r : RV K φ H v a) (h : isL a st = true) : tyV K "list" v H := by
  cases r with
  | @ref p i q =>
    unfold isL at h
    simp only at h
    cases e : st[i]? with
    | none => rw [e] at h; cases h
    | some o =>
      cases o with
      | oth u => rw [e] at h; cases h
      | lst ds =>
        obtain ⟨xs, h1, _⟩ := rs.lst q e
        exact .inl ⟨rfl, xs, .inl (.inl h1)⟩
  | _ => cases h
def MtS (X : Cx) (r : V → List V → Hp → VK → Prop) (g : A → List A → Store → R A) : Prop := ∀ (W : WH) (φ : List Addr) (H : Hp) (st : Store) (v : V) (a : A) (vs : List V) (as : List A) (Q : VK), RS X.K X.w X.mg φ H st → RV X.K φ H v a → RVs X.K φ H vs as → Pst X.K X.w X.mg (RV X.K) W φ H (g a as st) Q → r v vs H Q
def mBm (g : A → List A → Store → R A) (mo : MX) (ms : MA) : MX := fun ρ st => (mo ρ st).bind fun x st1 => if isL x st1 = true then (ms ρ st1).bind fun xs st2 => g x xs st2 else .bad
def mBm0 (g : A → List A → Store → R A) (mo : MX) : MX := fun ρ st => (mo ρ st).bind fun x st1 => if isL x st1 = true then g x [] st1 else .bad
theorem me_bm {o : Expr} {mo : MX} {name : Str} {id : String} {apos : Pos} {r : V → List V → Hp → VK → Prop} {g : A → List A → Store → R A} (slot : Slot "list" name id) (hty : typeOf (.builtin id) = pure (.type "method_descriptor")) (hm : MtR X id r) (hs : MtS X r g) (ho : PE X o (tE X W mo)) (ha : PA X (e :: es) (tA X W ms))
    (hbase : attributeBase o name X.env (eval o X.env) = eval o X.env := by rfl)
    (hfew : ((backTo pos (starEach (e :: es) X.env)).all (fun x => !x.1) && (backToKw pos (keywordEach [] X.env)).all (fun x => x.1.isSome)
      && decide ((e :: es).length + ([] : List Keyword).length + (if ([] : List Keyword).isEmpty then 0 else 1) < 30)) = true := by rfl)
    (hline : (apos.endLine == pos.line) = true := by rfl) (he : starEach (e :: es) X.env = (false, eval e X.env) :: starEach es X.env := by rfl) (hpl : (backTo pos (starEach es X.env)).any (·.1) = false := by rfl) :
    PE X (.Call (.Attribute o name apos) (e :: es) [] pos) (tE X W (mBm g mo ms)) := by
  refine (pe_bm PySem.F.plainAttrs_list slot hty hm ho ha hbase hfew hline he hpl).imp fun σ H Q ⟨φ, ρ, st, rs, re, h⟩ => ?_
  refine ⟨φ, ρ, st, rs, re, h.seq fun φ1 d v H1 st1 e1 rs1 rv1 h1 => ?_⟩
  cases c : isL d st1 with
  | false => rw [if_neg (by rw [c]; exact Bool.false_ne_true)] at h1; exact h1.elim
  | true =>
    rw [if_pos c] at h1
    exact ⟨isL_ok rs1 rv1 c, φ1, ρ, st1, rs1, re.ext e1, h1.seq fun φ2 ds vs H2 st2 e2 rs2 rv2 h2 => hs _ _ _ _ _ _ _ _ _ rs2 (rv1.ext e2) rv2 h2⟩
theorem me_bm0 {o : Expr} {mo : MX} {name : Str} {id : String} {apos : Pos} {r : V → List V → Hp → VK → Prop} {g : A → List A → Store → R A} (slot : Slot "list" name id) (hty : typeOf (.builtin id) = pure (.type "method_descriptor")) (hm : MtR X id r) (hs : MtS X r g) (ho : PE X o (tE X W mo))
    (hbase : attributeBase o name X.env (eval o X.env) = eval o X.env := by rfl) (hline : (apos.endLine == pos.line) = true := by rfl) : PE X (.Call (.Attribute o name apos) [] [] pos) (tE X W (mBm0 g mo)) := by
  refine (pe_bm0 PySem.F.plainAttrs_list slot hty hm ho hbase hline).imp fun σ H Q ⟨φ, ρ, st, rs, re, h⟩ => ?_
  refine ⟨φ, ρ, st, rs, re, h.seq fun φ1 d v H1 st1 e1 rs1 rv1 h1 => ?_⟩
  cases c : isL d st1 with
  | false => rw [if_neg (by rw [c]; exact Bool.false_ne_true)] at h1; exact h1.elim
  | true =>
    rw [if_pos c] at h1
    exact ⟨isL_ok rs1 rv1 c, hs _ _ _ _ _ _ _ _ _ rs1 rv1 .nil h1⟩
def appendA : A → List A → Store → R A
  | .ref r, [x], st => match st[r]? with
    | some (.lst xs) => if xs.length < sizeLine then .ok .non (st.set r (.lst (xs ++ [x]))) else .bad
    | _ => .bad
  | _, _, _ => .bad
theorem ms_append : MtS X rAppend appendA := fun W φ H st v a vs as Q rs ra rv h => by
  unfold appendA at h
  split at h
  · rename_i r x
    obtain ⟨y, rfl, ry⟩ := one_rv rv
    cases ra with
    | @ref p _ q =>
      cases e : st[r]? with
      | none => rw [e] at h; exact h.elim
      | some o =>
        cases o with
        | oth u => rw [e] at h; exact h.elim
        | lst ds =>
          rw [e] at h
          simp only at h
          obtain ⟨xs, h1, h2⟩ := rs.lst q e
          split at h
          · rename_i hz
            obtain ⟨e2, rs2⟩ := rs.write q e (h2.app (.cons ry .nil))
            exact ⟨p, xs, y, rfl, rfl, h1, by rw [h2.length]; exact hz, h _ _ _ e2 rs2 .non⟩
          · exact h.elim
  · exact h.elim
def extendA : A → List A → Store → R A
  | .ref r, [.ref q], st => match st[r]?, st[q]? with
    | some (.lst xs), some (.lst ys) => if xs.length + ys.length ≤ sizeLine then .ok .non (st.set r (.lst (xs ++ ys))) else .bad
    | _, _ => .bad
  | .ref r, [.tup ys], st => match st[r]? with
    | some (.lst xs) => if xs.length + ys.length ≤ sizeLine then .ok .non (st.set r (.lst (xs ++ ys))) else .bad
    | _ => .bad
  | _, _, _ => .bad
theorem list_extend_tupW (l : Addr) (items : Array Value) (n : Nat) (b : Addr) (items2 : Array Value) (n2 : Nat) (dd : Option Addr) (sl : Array (Option Value)) (hs0 : ¬(!items.isEmpty && Builtin.List.listTooLong (items.size + items2.size)) = true) (hs1 : items.size ≤ sizeLine) (hs2 : items.size + items2.size ≤ sizeLine + 1) :
    Meets (Builtin.«list.extend» ⟨[.ref l, .ref b], []⟩) (fun _ R s => s.heap.get? l = some { cls := .type "list", dict := none, data := .seq items n, slots := #[] } ∧ s.heap.get? b = some { cls := .type "tuple", dict := dd, data := .seq items2 n2, slots := sl } ∧ R (.ok (.ret Value.none)) { s with heap := s.heap.update l (Obj.mapSeq fun x => x ++ items2), toks := s.toks }) :=
  .of_wp fun prog w A R s h => by
    obtain ⟨hp, g, d, tk, os⟩ := s; obtain ⟨hl, hb, h⟩ := h; have f1 := AutoSeq1.idx_int; have f2 := AutoSeq1.sub_tuple_tuple; have f3 := AutoSeq1.sub_list_list; have f4 := AutoSeq1.sub_tuple_list; have f5 := AutoSeq1.sub_list_tuple;
    have hz' : (items ++ items2).size ≤ sizeLine + 1 := by rw [Array.size_append]; exact hs2
    wp_walk using (wpAny_updateSeq hl rfl (hz := hs1) (_hz' := hz')), wpAny_loadPart' hl, wpAny_loadPart' hb; exact ⟨_, rfl, h⟩
def rExtendT (K : PySem.W.Frag) : V → List V → Hp → VK → Prop := fun x vs H Q => ∃ l b xs zs, x = .ref l ∧ vs = [.ref b] ∧ H l = some (.lst xs) ∧ SqT K H b zs ∧ xs.length + zs.length ≤ sizeLine ∧ Q .non (upd H l (.lst (xs ++ zs)))
theorem mt_extendT : MtM X "list.extend" (rExtendT X.K) := by
  intro pins s σ H x vs v us Q I rx rv h
  obtain ⟨l, b, xs, zs, rfl, rfl, hH, hB, hz, q⟩ := h
  cases rx
  obtain ⟨u, rfl, ru⟩ := rv.one
  cases ru
  obtain ⟨z, its, n, r, hl, e⟩ := I.lstM hH
  obtain ⟨its2, r2, ⟨⟨cls, dd, data, sl⟩, e2, hc, n2, hd⟩, hs⟩ := I.tuple hB
  simp only at hc hd
  subst hc hd
  have hl2 : its2.length = zs.length := r2.length.symm
  have hsz : its.toArray.size + its2.toArray.size ≤ sizeLine := by rw [List.size_toArray, List.size_toArray]; omega
  have hlong : ¬ (!its.toArray.isEmpty && Builtin.List.listTooLong (its.toArray.size + its2.toArray.size)) = true := by
    rw [notLongL hsz, Bool.and_false]
    exact Bool.false_ne_true
  refine call_meets F.slot_list_extend ⟨_, e, rfl⟩ F.entry_list_extend (F.args_list_extend_2 _ _)
    (list_extend_tupW l its.toArray n b its2.toArray n2 dd sl hlong (by rw [List.size_toArray]; omega) (by omega)) ⟨e, e2, ?_⟩
  refine ⟨.non, _, I.lset (its' := its ++ its2) hH e (by simp) (r.append r2) ?_, rfl, q⟩
  rw [List.length_append]
  omega
abbrev rExtendU (K : PySem.W.Frag) : V → List V → Hp → VK → Prop := fun x vs H Q => rExtend x vs H Q ∨ rExtendT K x vs H Q
theorem mt_extendU : MtM X "list.extend" (rExtendU X.K) := fun pins s σ H x vs v us Q I rx rv h => h.elim (mt_extend pins s σ H x vs v us Q I rx rv) (mt_extendT pins s σ H x vs v us Q I rx rv)
theorem ms_extend : MtS X (rExtendU X.K) extendA := fun W φ H st v a vs as Q rs ra rv h => by
  unfold extendA at h
  split at h
  · rename_i r x
    obtain ⟨y, rfl, ry⟩ := one_rv rv
    cases ra with
    | @ref p _ q =>
      cases ry with
      | @ref p2 _ q2 =>
        cases e : st[r]? with
        | none => rw [e] at h; exact h.elim
        | some o =>
          cases o with
          | oth u => rw [e] at h; exact h.elim
          | lst ds =>
            cases e' : st[x]? with
            | none => rw [e, e'] at h; exact h.elim
            | some o' =>
              cases o' with
              | oth u => rw [e, e'] at h; exact h.elim
              | lst es =>
                rw [e, e'] at h
                simp only at h
                obtain ⟨xs, h1, h2⟩ := rs.lst q e
                obtain ⟨ys, h1', h2'⟩ := rs.lst q2 e'
                split at h
                · rename_i hz
                  obtain ⟨e2, rs2⟩ := rs.write q e (h2.app h2')
                  exact .inl ⟨p, p2, xs, ys, rfl, rfl, h1, h1', by rw [h2.length, h2'.length]; exact hz, h _ _ _ e2 rs2 .non⟩
                · exact h.elim
  · rename_i r ys
    obtain ⟨y, rfl, ry⟩ := one_rv rv
    cases ra with
    | @ref p _ q =>
      cases ry with
      | @tup p2 zs _ q2 qs =>
        cases e : st[r]? with
        | none => rw [e] at h; exact h.elim
        | some o =>
          cases o with
          | oth u => rw [e] at h; exact h.elim
          | lst ds =>
            rw [e] at h
            simp only at h
            obtain ⟨xs, h1, h2⟩ := rs.lst q e
            split at h
            · rename_i hz
              obtain ⟨e2, rs2⟩ := rs.write q e (h2.app qs)
              exact .inr ⟨p, p2, xs, zs, rfl, rfl, h1, q2.sq, by rw [h2.length, qs.length]; exact hz, h _ _ _ e2 rs2 .non⟩
            · exact h.elim
  · exact h.elim
def popA : A → List A → Store → R A
  | .ref r, [], st => match st[r]? with
    | some (.lst xs) => match xs[xs.length - 1]? with
      | some y => .ok y (st.set r (.lst xs.dropLast))
      | none => .bad
    | _ => .bad
  | _, _, _ => .bad
theorem ms_pop : MtS X rPop popA := fun W φ H st v a vs as Q rs ra rv h => by
  unfold popA at h
  split at h
  · rename_i r
    cases rv
    cases ra with
    | @ref p _ q =>
      cases e : st[r]? with
      | none => rw [e] at h; exact h.elim
      | some o =>
        cases o with
        | oth u => rw [e] at h; exact h.elim
        | lst ds =>
          rw [e] at h
          simp only at h
          obtain ⟨xs, h1, h2⟩ := rs.lst q e
          cases e2 : ds[ds.length - 1]? with
          | none => rw [e2] at h; exact h.elim
          | some y =>
            rw [e2] at h
            obtain ⟨v, h3, h4⟩ := h2.get e2
            obtain ⟨e3, rs2⟩ := rs.write q e h2.dropLast
            exact ⟨p, xs, v, rfl, rfl, h1, by rw [h2.length]; exact h3, h _ _ _ e3 rs2 (h4.ext e3)⟩
  · exact h.elim
/-! ### one's own defs -/
abbrev MF := List A → Store → R A
def spM (K : PySem.W.Frag) (w : World) (mg : Str → Option Value) (m : MF) : Sp := fun vs H Q E => ∃ φ as st, RS K w mg φ H st ∧ RVs K φ H vs as ∧ Pst K w mg (RV K) E φ H (m as st) Q
structure Cal (P : Program) (w : World) (K : PySem.W.Frag) (mg : Str → Option Value) (base : Heap) (x : Str) (k : Nat) (m : MF) : Prop where
  ex : ∃ (f : Addr) (fd : FuncData) (ps : List Str), mg x = some (.ref f) ∧ PySem.W.keepIn K (.ref f) = true ∧ Binds K fd ps [] ∧ FnOk P w K mg base (L2.CX P w) k f fd ps (spM K w mg m)
def mCall (m : MF) (ms : MA) : MX := fun ρ st => (ms ρ st).bind m
theorem me_call {k : Nat} {m : MF} {x : Str} {p : Pos} (C : Cal X.prog X.w X.K X.mg X.base x k m) (hr : Room k X.A) (tk : Takes X W) (ha : PA X (e :: es) (tA X W ms)) (hg : Gl X x := by rfl)
    (hdb : (x == ("__debug__" : Str)) = false := by decide) (he : starEach (e :: es) X.env = (false, eval e X.env) :: starEach es X.env := by rfl) (hpl : (backTo pos (starEach es X.env)).any (·.1) = false := by rfl) :
    PE X (.Call (.Name x p) (e :: es) [] pos) (tE X W (mCall m ms)) := by
  obtain ⟨f, fd, ps, hm, hk, hb, F⟩ := C.ex
  refine (pe_callS F hr hg hm hk hb (E := WE W) (fun σ => passAt tk σ) ha hdb he hpl).imp fun σ H Q ⟨φ, ρ, st, rs, re, h⟩ => ?_
  exact ⟨φ, ρ, st, rs, re, h.seq fun φ1 ds vs H1 st1 e1 rs1 rv1 h1 => ⟨φ1, ds, st1, rs1, rv1, h1⟩⟩
theorem me_call0 {k : Nat} {m : MF} {x : Str} {p : Pos} (C : Cal X.prog X.w X.K X.mg X.base x k m) (hr : Room k X.A) (hg : Gl X x := by rfl) (hp : ∀ (E : XK), E = (fun c d H' => ∀ σ, W c d σ H') → Passes (L2.CX X.prog X.w) X E)
    (hdb : (x == ("__debug__" : Str)) = false := by decide) :
    PE X (.Call (.Name x p) [] [] pos) (tE X (fun c d _ H' => ∀ σ, W c d σ H') (mCall m mNil)) := by
  obtain ⟨f, fd, ps, hm, hk, hb, F⟩ := C.ex
  refine (pe_call0 F hr hg hm hk hb .nil (hp _ rfl) hdb).imp fun σ H Q ⟨φ, ρ, st, rs, re, h⟩ => ?_
  exact ⟨φ, [], st, rs, .nil, h⟩
end
end ML
/-! ML4: statements, loops, list comprehensions, defs. -/
namespace ML
open PySem PySem.Spec L2
inductive SR where
  | nx (ρ : Env) (st : Store) | bk (ρ : Env) (st : Store) | ct (ρ : Env) (st : Store) | rt (a : A) (st : Store) | er (e : Er) (ρ : Env) (st : Store) | bad
abbrev MS := Env → Store → SR
def SPst (K : PySem.W.Frag) (w : World) (mg : Str → Option Value) (W : WX) (φ : List Addr) (H : Hp) (r : SR) (D : Ends) : Prop := match r with
  | .nx ρ st => ∀ φ' σ' H', Ext φ H φ' H' → RS K w mg φ' H' st → RE K φ' H' σ' ρ → D.nx σ' H'
  | .bk ρ st => ∀ φ' σ' H', Ext φ H φ' H' → RS K w mg φ' H' st → RE K φ' H' σ' ρ → D.bk σ' H'
  | .ct ρ st => ∀ φ' σ' H', Ext φ H φ' H' → RS K w mg φ' H' st → RE K φ' H' σ' ρ → D.ct σ' H'
  | .rt a st => ∀ φ' v H', Ext φ H φ' H' → RS K w mg φ' H' st → RV K φ' H' v a → D.rt v H'
  | .er e ρ st => ∀ φ' c d σ' H', Ext φ H φ' H' → RS K w mg φ' H' st → RE K φ' H' σ' ρ → RErr K mg φ' H' c d e → W c d σ' H'
  | .bad => False
def tS (X : Cx) (W : WX) (m : MS) : TS := fun D σ H => ∃ φ ρ st, RS X.K X.w X.mg φ H st ∧ RE X.K φ H σ ρ ∧ SPst X.K X.w X.mg W φ H (m ρ st) D
def R.toS {α : Type} (r : R α) (ρ : Env) (f : α → Store → SR) : SR := match r with
  | .ok a st => f a st
  | .er e st => .er e ρ st
  | .bad => .bad
section
variable {K : PySem.W.Frag} {w : World} {φ φ' : List Addr} {H H' : Hp} {st : Store} {mg : Str → Option Value} {α β : Type} {W : WX} {D : Ends} {σ : L2.St} {ρ : Env}
theorem SPst.mono {r : SR} (h : SPst K w mg W φ H r D) (e : Ext φ H φ' H') : SPst K w mg W φ' H' r D := by
  cases r with
  | nx ρ st => exact fun φ2 σ2 H2 e2 s q => h φ2 σ2 H2 (e.trans e2) s q
  | bk ρ st => exact fun φ2 σ2 H2 e2 s q => h φ2 σ2 H2 (e.trans e2) s q
  | ct ρ st => exact fun φ2 σ2 H2 e2 s q => h φ2 σ2 H2 (e.trans e2) s q
  | rt a st => exact fun φ2 v H2 e2 s q => h φ2 v H2 (e.trans e2) s q
  | er x ρ st => exact fun φ2 c d σ2 H2 e2 s q => h φ2 c d σ2 H2 (e.trans e2) s q
  | bad => exact h
theorem SPst.exp {Rl : List Addr → Hp → β → α → Prop} {r : R α} {f : α → Store → SR} {Q1 : β → Hp → Prop} (h : SPst K w mg W φ H (r.toS ρ f) D) (re : RE K φ H σ ρ)
    (k : ∀ φ1 a x H1 st1, Ext φ H φ1 H1 → RS K w mg φ1 H1 st1 → Rl φ1 H1 x a → SPst K w mg W φ1 H1 (f a st1) D → Q1 x H1) : Pst K w mg Rl (fun c d H' => W c d σ H') φ H r Q1 := by
  cases r with
  | ok a st => exact fun φ1 v H1 e s q => k φ1 a v H1 st e s q (SPst.mono h e)
  | er x st => exact fun φ1 c d H1 e s q => h φ1 c d σ H1 e s (re.ext e) q
  | bad => exact h
/-- the ends may be widened -/
theorem SPst.ends {D' : Ends} {r : SR} (h : SPst K w mg W φ H r D) (h1 : ∀ σ H, D.nx σ H → D'.nx σ H) (h2 : ∀ σ H, D.bk σ H → D'.bk σ H) (h3 : ∀ σ H, D.ct σ H → D'.ct σ H) (h4 : ∀ v H, D.rt v H → D'.rt v H) : SPst K w mg W φ H r D' := by
  cases r with
  | nx ρ st => exact fun φ2 σ2 H2 e2 s q => h1 _ _ (h φ2 σ2 H2 e2 s q)
  | bk ρ st => exact fun φ2 σ2 H2 e2 s q => h2 _ _ (h φ2 σ2 H2 e2 s q)
  | ct ρ st => exact fun φ2 σ2 H2 e2 s q => h3 _ _ (h φ2 σ2 H2 e2 s q)
  | rt a st => exact fun φ2 v H2 e2 s q => h4 _ _ (h φ2 v H2 e2 s q)
  | er x ρ st => exact h
  | bad => exact h
end
section
variable {X : Cx} {W : WX} {s : Stmt} {ss rest : List Stmt} {t t' : TS} {a b e : Expr} {ma mb : MX} {pos : Pos} {m m1 m2 : MS}
theorem _root_.L2.PS.imp (h : PS X s t) (k : ∀ D σ H, t' D σ H → t D σ H) : PS X s t' := ⟨fun pins s σ H D I q => h.run pins s σ H D I (k _ _ _ q)⟩
theorem _root_.L2.PSs.imp (h : PSs X ss t) (k : ∀ D σ H, t' D σ H → t D σ H) : PSs X ss t' := ⟨fun pins s σ H D I q => h.run pins s σ H D I (k _ _ _ q)⟩
def mSeq (m1 m2 : MS) : MS := fun ρ st => match m1 ρ st with
  | .nx ρ1 st1 => m2 ρ1 st1
  | r => r
def mNext : MS := fun ρ st => .nx ρ st
def mBreak : MS := fun ρ st => .bk ρ st
def mCont : MS := fun ρ st => .ct ρ st
theorem mss_nil : PSs X [] (tS X W mNext) := pss_nil.imp fun D σ H ⟨φ, ρ, st, rs, re, h⟩ => h φ σ H .refl rs re
theorem mss_cons (h1 : PS X s (tS X W m1)) (h2 : PSs X rest (tS X W m2)) : PSs X (s :: rest) (tS X W (mSeq m1 m2)) := (pss_cons h1 h2).imp fun D σ H ⟨φ, ρ, st, rs, re, h⟩ => by
  refine ⟨φ, ρ, st, rs, re, ?_⟩
  unfold mSeq at h
  cases e : m1 ρ st with
  | nx ρ1 st1 =>
    rw [e] at h
    exact fun φ' σ' H' ex rs' re' => ⟨φ', ρ1, st1, rs', re', SPst.mono h ex⟩
  | bk ρ1 st1 => rw [e] at h; exact h
  | ct ρ1 st1 => rw [e] at h; exact h
  | rt a st1 => rw [e] at h; exact h
  | er x ρ1 st1 => rw [e] at h; exact h
  | bad => rw [e] at h; exact h
theorem mss_one (h1 : PS X s (tS X W m)) : PSs X [s] (tS X W m) := pss_one h1
theorem ms_pass : PS X (.Pass pos) (tS X W mNext) := ps_pass.imp fun D σ H ⟨φ, ρ, st, rs, re, h⟩ => h φ σ H .refl rs re
theorem ms_break : PS X (.Break pos) (tS X W mBreak) := ps_break.imp fun D σ H ⟨φ, ρ, st, rs, re, h⟩ => h φ σ H .refl rs re
theorem ms_cont : PS X (.Continue pos) (tS X W mCont) := ps_continue.imp fun D σ H ⟨φ, ρ, st, rs, re, h⟩ => h φ σ H .refl rs re
def mExpr (ma : MX) : MS := fun ρ st => (ma ρ st).toS ρ fun _ st1 => .nx ρ st1
theorem ms_expr (ha : PE X a (tE X W ma)) (hs : swapsWith a none pos.line X.env = pure false := by rfl) : PS X (.Expr a pos) (tS X W (mExpr ma)) := (ps_expr ha hs).imp fun D σ H ⟨φ, ρ, st, rs, re, h⟩ =>
  ⟨φ, ρ, st, rs, re, h.exp re fun φ1 a x H1 st1 e1 rs1 rv1 h1 => h1 φ1 σ H1 .refl rs1 (re.ext e1)⟩
def mRet (ma : MX) : MS := fun ρ st => (ma ρ st).toS ρ fun a st1 => .rt a st1
theorem ms_ret (ha : PE X a (tE X W ma)) : PS X (.Return (some a) pos) (tS X W (mRet ma)) := (ps_ret ha).imp fun D σ H ⟨φ, ρ, st, rs, re, h⟩ =>
  ⟨φ, ρ, st, rs, re, h.exp re fun φ1 a x H1 st1 e1 rs1 rv1 h1 => h1 φ1 x H1 .refl rs1 rv1⟩
def mRetN : MS := fun _ st => .rt .non st
theorem ms_retN : PS X (.Return none pos) (tS X W mRetN) := ps_retN.imp fun D σ H ⟨φ, ρ, st, rs, re, h⟩ => h φ .non H .refl rs .non
def mIfS (c : MT) (m1 m2 : MS) : MS := fun ρ st => (c ρ st).toS ρ fun b st1 => if b = true then m1 ρ st1 else m2 ρ st1
theorem ms_if {c : Expr} {mc : MT} {s1 s2 : List Stmt} (hc : PT X c (tT X W mc)) (h1 : PSs X s1 (tS X W m1)) (h2 : PSs X s2 (tS X W m2)) : PS X (.If c s1 s2 pos) (tS X W (mIfS mc m1 m2)) := (ps_if hc h1 h2).imp fun D σ H ⟨φ, ρ, st, rs, re, h⟩ => by
  refine ⟨φ, ρ, st, rs, re, h.exp re fun φ1 b x H1 st1 e1 rs1 rv1 h1 => ?_⟩
  subst rv1
  cases x with
  | true => exact iteT ⟨φ1, ρ, st1, rs1, re.ext e1, h1⟩
  | false => exact iteF ⟨φ1, ρ, st1, rs1, re.ext e1, h1⟩
/-! ### targets -/
/-- an item: data; of a source that makes its pairs itself: a tuple that is taken apart at once -/
def RVw (K : PySem.W.Frag) (φ : List Addr) (H : Hp) : Bool → V → A → Prop
  | false, v, a => RV K φ H v a
  | true, v, a => ∃ p xs ds, v = .ref p ∧ a = .tup ds ∧ SqT K H p xs ∧ RVs K φ H xs ds
inductive Tg where
  | one (i : Nat) | many (is : List Nat) | nest (i : Nat) (is : List Nat)
def setsV (σ : L2.St) : List Nat → List V → L2.St
  | i :: is, v :: vs => setsV (σ.set i (some v)) is vs
  | _, _ => σ
def setsA (ρ : Env) : List Nat → List A → Env
  | i :: is, v :: vs => setsA (ρ.set i (some v)) is vs
  | _, _ => ρ
def gNames : List Nat → TGs
  | [] => gNil
  | i :: is => gCons (gName i) (gNames is)
def gOf (K : PySem.W.Frag) : Tg → TG
  | .one i => gName i
  | .many is => gTup K is.length (gNames is)
  | .nest i is => gTup K 2 (gCons (gName i) (gCons (gTup K is.length (gNames is)) gNil))
def asgT : Tg → A → Env → Store → Option Env
  | .one i, a, ρ, _ => some (ρ.set i (some a))
  | .many is, .tup as, ρ, _ => if as.length = is.length then some (setsA ρ is as) else none
  | .many _, _, _, _ => none
  | .nest i is, .tup [a, .tup bs], ρ, _ => if bs.length = is.length then some (setsA (ρ.set i (some a)) is bs) else none
  | .nest _ _, _, _, _ => none
def Tg.slots : Tg → List Nat
  | .one i => [i]
  | .many is => is
  | .nest i is => i :: is
theorem gNames_run {Q : L2.St → Hp → Prop} {H : Hp} : ∀ {is : List Nat} {vs : List V} {σ : L2.St}, vs.length = is.length → Q (setsV σ is vs) H → gNames is vs σ H Q
  | [], [], σ, _, h => ⟨rfl, h⟩
  | i :: is, v :: vs, σ, hl, h => ⟨v, vs, rfl, gNames_run (by simpa using hl) h⟩
  | [], _ :: _, _, hl, _ => by simp at hl
  | _ :: _, [], _, hl, _ => by simp at hl
theorem RE.sets {K : PySem.W.Frag} {φ : List Addr} {H : Hp} : ∀ {is : List Nat} {vs : List V} {as : List A} {σ : L2.St} {ρ : Env}, RE K φ H σ ρ → RVs K φ H vs as → RE K φ H (setsV σ is vs) (setsA ρ is as)
  | [], _, _, _, _, r, q => by cases q <;> exact r
  | _ :: _, _, _, _, _, r, .nil => r
  | i :: is, _, _, _, _, r, .cons h q => RE.sets (is := is) (r.set h i) q
theorem asgT_nest {i : Nat} {is : List Nat} {d : A} {ρ ρ' : Env} {st : Store} (h : asgT (.nest i is) d ρ st = some ρ') : ∃ a bs, d = .tup [a, .tup bs] ∧ bs.length = is.length ∧ ρ' = setsA (ρ.set i (some a)) is bs := by
  cases d with
  | tup ds =>
    match ds with
    | [] => cases h
    | [_] => cases h
    | [a, b] =>
      cases b with
      | tup bs =>
        unfold asgT at h
        simp only at h
        split at h
        · rename_i hl
          cases h
          exact ⟨a, bs, rfl, hl, rfl⟩
        · cases h
      | _ => cases h
    | _ :: b :: _ :: _ => cases b <;> first | (cases h; done) | simp [asgT] at h
  | _ => cases h
theorem gOf_run {K : PySem.W.Frag} {φ : List Addr} {H : Hp} {tg : Tg} {v : V} {d : A} {σ : L2.St} {ρ ρ' : Env} {st : Store} {Q : L2.St → Hp → Prop} (r : RV K φ H v d) (re : RE K φ H σ ρ) (h : asgT tg d ρ st = some ρ')
    (k : ∀ xs, RE K φ H (setsV σ tg.slots xs) ρ' → Q (setsV σ tg.slots xs) H) : gOf K tg v σ H Q := by
  cases tg with
  | one i =>
    cases h
    exact k [v] (re.set r i)
  | many is =>
    cases r with
    | @tup p xs ds q qs =>
      unfold asgT at h
      simp only at h
      split at h
      · rename_i hl
        cases h
        have hl' : xs.length = is.length := by rw [qs.length]; exact hl
        exact ⟨p, xs, rfl, q.sq, hl', gNames_run hl' (k xs (re.sets qs))⟩
      · cases h
    | _ => cases h
  | nest i is =>
    obtain ⟨a, bs, rfl, hl, rfl⟩ := asgT_nest h
    cases r with
    | @tup p xs ds q qs =>
      cases qs with
      | cons r1 qs2 =>
        cases qs2 with
        | cons r2 qs3 =>
          cases qs3
          cases r2 with
          | @tup p2 ys ds2 q2 qq =>
            have hl' : ys.length = is.length := by rw [qq.length]; exact hl
            refine ⟨p, _, rfl, q.sq, rfl, _, _, rfl, _, _, rfl, ⟨p2, ys, rfl, q2.sq, hl', gNames_run hl' ⟨rfl, ?_⟩⟩⟩
            exact k (_ :: ys) ((re.set r1 i).sets qq)
def Tg.isOne : Tg → Bool
  | .one _ => true
  | _ => false
theorem gOf_runB {K : PySem.W.Frag} {φ : List Addr} {H : Hp} {wk : Bool} {tg : Tg} {v : V} {d : A} {σ : L2.St} {ρ ρ' : Env} {st : Store} {Q : L2.St → Hp → Prop} (hw : wk = false ∨ tg.isOne = false) (r : RVw K φ H wk v d) (re : RE K φ H σ ρ) (h : asgT tg d ρ st = some ρ')
    (k : ∀ xs, RE K φ H (setsV σ tg.slots xs) ρ' → Q (setsV σ tg.slots xs) H) : gOf K tg v σ H Q := by
  cases wk with
  | false => exact gOf_run r re h k
  | true =>
    obtain ⟨p, xs, ds, rfl, rfl, q, qs⟩ := r
    cases tg with
    | one i => exact hw.elim (fun z => by cases z) fun z => by cases z
    | many is =>
      unfold asgT at h
      simp only at h
      split at h
      · rename_i hl
        cases h
        have hl' : xs.length = is.length := by rw [qs.length]; exact hl
        exact ⟨p, xs, rfl, q, hl', gNames_run hl' (k xs (re.sets qs))⟩
      · cases h
    | nest i is =>
      obtain ⟨a, bs, e, hl, rfl⟩ := asgT_nest h
      cases e
      cases qs with
      | cons r1 qs2 =>
        cases qs2 with
        | cons r2 qs3 =>
          cases qs3
          cases r2 with
          | @tup p2 ys ds2 q2 qq =>
            have hl' : ys.length = is.length := by rw [qq.length]; exact hl
            refine ⟨p, _, rfl, q, rfl, _, _, rfl, _, _, rfl, ⟨p2, ys, rfl, q2.sq, hl', gNames_run hl' ⟨rfl, ?_⟩⟩⟩
            exact k (_ :: ys) ((re.set r1 i).sets qq)
theorem mg_one {i : Nat} {x : Str} (hN : X.N.Nodup) (hi : X.N[i]? = some x := by rfl) (hx : Loc X.env.scope x := by first | exact Or.inl rfl | exact Or.inr rfl) (hf : X.fn x = true ∨ X.env.scope.names.lookup x = some .local := by first | exact .inl rfl | exact .inr rfl | assumption) : PG X (.Name x pos) (gOf X.K (.one i)) := pg_name hN hi hx hf
theorem mgs_nil : PGs X [] (gNames []) := pgs_nil
theorem mgs_cons {i : Nat} {is : List Nat} {es : List Expr} (h1 : PG X e (gOf X.K (.one i))) (h2 : PGs X es (gNames is)) (hs : (assignEach (e :: es) X.env).map (·.2) = assign e X.env :: (assignEach es X.env).map (·.2) := by rfl) : PGs X (e :: es) (gNames (i :: is)) := pgs_cons h1 h2 hs
theorem mg_many {es : List Expr} {k : Nat} {is : List Nat} (h : PGs X es (gNames is)) (hn : (assignEach es X.env).length = is.length := by rfl) (hc : X.calm = true := by rfl) (hst : (assignEach es X.env).findIdx? (·.1) = none := by rfl) : PG X (.Tuple es k pos) (gOf X.K (.many is)) := pg_tup hc h hn hst
theorem mg_nest {e1 : Expr} {es : List Expr} {k k2 : Nat} {i : Nat} {is : List Nat} {pos2 : Pos} (h1 : PG X e1 (gOf X.K (.one i))) (h : PGs X es (gNames is)) (hn : (assignEach es X.env).length = is.length := by rfl) (hc : X.calm = true := by rfl) (hst : (assignEach es X.env).findIdx? (·.1) = none := by rfl)
    (hs1 : (assignEach [e1, .Tuple es k2 pos2] X.env).map (·.2) = assign e1 X.env :: (assignEach [.Tuple es k2 pos2] X.env).map (·.2) := by rfl) (hs2 : (assignEach [.Tuple es k2 pos2] X.env).map (·.2) = assign (.Tuple es k2 pos2) X.env :: (assignEach ([] : List Expr) X.env).map (·.2) := by rfl)
    (hn2 : (assignEach [e1, .Tuple es k2 pos2] X.env).length = 2 := by rfl) (hst2 : (assignEach [e1, .Tuple es k2 pos2] X.env).findIdx? (·.1) = none := by rfl) : PG X (.Tuple [e1, .Tuple es k2 pos2] k pos) (gOf X.K (.nest i is)) :=
  pg_tup hc (pgs_cons h1 (pgs_cons (pg_tup hc h hn hst) pgs_nil hs2) hs1) hn2 hst2
def mAsg (tg : Tg) (ma : MX) : MS := fun ρ st => (ma ρ st).toS ρ fun d st1 => match asgT tg d ρ st1 with
  | some ρ' => .nx ρ' st1
  | none => .bad
theorem asg_ok {tg : Tg} {D : Ends} {σ : L2.St} {H : Hp} (h : tS X W (mAsg tg ma) D σ H) : tAsg (tE X W ma) (gOf X.K tg) D σ H := by
  obtain ⟨φ, ρ, st, rs, re, h⟩ := h
  refine ⟨φ, ρ, st, rs, re, h.exp re fun φ1 d x H1 st1 e1 rs1 rv1 h1 => ?_⟩
  cases q : asgT tg d ρ st1 with
  | none => simp only [q] at h1; exact h1.elim
  | some ρ' =>
    simp only [q] at h1
    exact gOf_run rv1 (re.ext e1) q fun xs re' => h1 φ1 _ H1 .refl rs1 re'
/-- x = e -/
def mSet (i : Nat) (ma : MX) : MS := fun ρ st => (ma ρ st).toS ρ fun d st1 => .nx (ρ.set i (some d)) st1
theorem set_ok {i : Nat} {D : Ends} {σ : L2.St} {H : Hp} (h : tS X W (mSet i ma) D σ H) : tAsg (tE X W ma) (gName i) D σ H := asg_ok (tg := .one i) h
theorem ms_set {i : Nat} {x : Str} {pos' : Pos} (hN : X.N.Nodup) (he : PE X e (tE X W ma)) (hi : X.N[i]? = some x := by rfl) (hx : Loc X.env.scope x := by first | exact Or.inl rfl | exact Or.inr rfl) (hs : swapsWith e (some (.Name x pos')) pos.line X.env = pure false := by rfl)
    (hf : X.fn x = true ∨ X.env.scope.names.lookup x = some .local := by first | exact .inl rfl | exact .inr rfl | assumption) : PS X (.Assign [.Name x pos'] e pos) (tS X W (mSet i ma)) := (ps_set hN hi hx he hs hf).imp fun _ _ _ h => set_ok h
theorem ms_asg {tg : Expr} {T : Tg} (he : PE X e (tE X W ma)) (hg : PG X tg (gOf X.K T)) (hs : swapsWithSole [tg] e pos.line X.env = pure false := by rfl) (hw : swappedStores [tg] e X.env = pure none := by rfl)
    (h1 : (assignEach [tg] X.env).map (·.2) = [assign tg X.env] := by rfl) : PS X (.Assign [tg] e pos) (tS X W (mAsg T ma)) := (ps_asg he hg hs hw h1).imp fun _ _ _ h => asg_ok h
/-- o[i] = e -/
def setA : A → A → A → Store → Option Store
  | .ref r, .int k, d, st => match st[r]? with
    | some (.lst xs) => match ixN xs.length k with
      | some j => some (st.set r (.lst (xs.set j d)))
      | none => none
    | _ => none
  | _, _, _, _ => none
def mPut (mo mi ma : MX) : MS := fun ρ st => (ma ρ st).toS ρ fun d st1 => (mo ρ st1).toS ρ fun o st2 => (mi ρ st2).toS ρ fun i st3 => match setA o i d st3 with
  | some st4 => .nx ρ st4
  | none => .bad
theorem ms_put {o i : Expr} {mo mi : MX} {p2 : Pos} (ho : PE X o (tE X W mo)) (hi : PE X i (tE X W mi)) (he : PE X e (tE X W ma))
    (ha : ∀ v, assign (.Subscript o i p2) X.env v = (do
      let ov ← holding [v] (eval o X.env)
      let iv ← holding [v, ov] (eval i X.env)
      standAt p2
      holding [v, ov, iv] (setItem ov iv v)
      release [v, ov, iv] []) := by intro _; rfl) (hs : swapsWithSole [.Subscript o i p2] e pos.line X.env = pure false := by rfl) (hw : swappedStores [.Subscript o i p2] e X.env = pure none := by rfl)
    (h1 : (assignEach [.Subscript o i p2] X.env).map (·.2) = [assign (.Subscript o i p2) X.env] := by rfl) : PS X (.Assign [.Subscript o i p2] e pos) (tS X W (mPut mo mi ma)) := (ps_asg he (pg_sub ho hi set_list ha) hs hw h1).imp fun D σ H ⟨φ, ρ, st, rs, re, h⟩ => by
  refine ⟨φ, ρ, st, rs, re, h.exp re fun φ1 d x H1 st1 e1 rs1 rv1 h1 => ?_⟩
  refine ⟨φ1, ρ, st1, rs1, re.ext e1, h1.exp (re.ext e1) fun φ2 o y H2 st2 e2 rs2 rv2 h2 => ?_⟩
  refine ⟨φ2, ρ, st2, rs2, (re.ext e1).ext e2, h2.exp ((re.ext e1).ext e2) fun φ3 i z H3 st3 e3 rs3 rv3 h3 => ?_⟩
  cases q : setA o i d st3 with
  | none => simp only [q] at h3; exact h3.elim
  | some st4 =>
    simp only [q] at h3
    unfold setA at q
    split at q
    · rename_i r k
      cases rv3
      have rv2' := rv2.ext e3
      cases rv2' with
      | @ref p _ qp =>
        cases e5 : st3[r]? with
        | none => rw [e5] at q; cases q
        | some ob =>
          cases ob with
          | oth u => rw [e5] at q; cases q
          | lst ds =>
            rw [e5] at q
            simp only at q
            cases e6 : ixN ds.length k with
            | none => rw [e6] at q; cases q
            | some j =>
              rw [e6] at q
              cases q
              obtain ⟨vs, g1, g2⟩ := rs3.lst qp e5
              obtain ⟨e7, rs4⟩ := rs3.write qp e5 (g2.set ((rv1.ext e2).ext e3) j)
              exact ⟨p, vs, k, j, rfl, rfl, g1, by rw [g2.length]; exact e6, h3 φ3 σ _ e7 rs4 ((((re.ext e1).ext e2).ext e3).ext e7)⟩
    · cases q
/-- x op= e -/
def IpS (X : Cx) (r : TIp) (g : A → A → Store → R A) : Prop := OpS X r g
def mAug (i : Nat) (g : A → A → Store → R A) (ma : MX) : MS := fun ρ st => (mVar i ρ st).toS ρ fun x st0 => (ma ρ st0).toS ρ fun y st1 => (g x y st1).toS ρ fun z st2 => .nx (ρ.set i (some z)) st2
def iaddA : A → A → Store → R A
  | .int i, .int j, st => .ok (.int (i + j)) st
  | _, _, _ => .bad
theorem os_iadd : OpS X (ipI fun i j => i + j) iaddA := fun W φ H st x y a b Q rs ra rb h => by
  cases ra with
  | int i =>
    cases rb with
    | int j => exact ⟨i, j, rfl, rfl, h.ok rs (.int _)⟩
    | _ => exact (show False from h).elim
  | _ => exact (show False from h).elim
def isubA : A → A → Store → R A
  | .int i, .int j, st => .ok (.int (i - j)) st
  | _, _, _ => .bad
theorem os_isub : OpS X (ipI fun i j => i - j) isubA := fun W φ H st x y a b Q rs ra rb h => by
  cases ra with
  | int i =>
    cases rb with
    | int j => exact ⟨i, j, rfl, rfl, h.ok rs (.int _)⟩
    | _ => exact (show False from h).elim
  | _ => exact (show False from h).elim
theorem ms_aug {i : Nat} {x : Str} {op : Operator} {ti : TIp} {pos' : Pos} {g : A → A → Store → R A} (hN : X.N.Nodup) (ho : PIp X op ti) (hg : OpS X ti g) (he : PE X e (tE X W ma)) (hi : X.N[i]? = some x := by rfl) (hx : Loc X.env.scope x := by first | exact Or.inl rfl | exact Or.inr rfl)
    (hf : X.fn x = true ∨ X.env.scope.names.lookup x = some .local := by first | exact .inl rfl | exact .inr rfl | assumption) : PS X (.AugAssign (.Name x pos') op e pos) (tS X W (mAug i g ma)) := (ps_aug hN hi hx he ho hf).imp fun D σ H ⟨φ, ρ, st, rs, re, h⟩ => by
  unfold mAug mVar at h
  cases q : ρ[i]? with
  | none => rw [q] at h; exact h.elim
  | some o =>
    cases o with
    | none => rw [q] at h; exact h.elim
    | some d =>
      rw [q] at h
      obtain ⟨v, g1, g2⟩ := re.all i d q
      refine ⟨v, g1, φ, ρ, st, rs, re, SPst.exp h re fun φ1 b y H1 st1 e1 rs1 rv1 h1 => ?_⟩
      refine hg (fun c d H' => W c d σ H') _ _ _ _ _ _ _ _ rs1 (g2.ext e1) rv1 (SPst.exp h1 (re.ext e1) fun φ2 z w H2 st2 e2 rs2 rv2 h2 => ?_)
      exact h2 φ2 _ H2 .refl rs2 (((re.ext e1).ext e2).set rv2 i)
/-! ### while -/
def whileF : Nat → MT → MS → MS
  | 0, _, _, _, _ => .bad
  | n + 1, c, b, ρ, st => (c ρ st).toS ρ fun x st1 => if x = true then match b ρ st1 with
      | .nx ρ2 st2 => whileF n c b ρ2 st2
      | .ct ρ2 st2 => whileF n c b ρ2 st2
      | .bk ρ2 st2 => .nx ρ2 st2
      | r => r else .nx ρ st1
open Classical in
noncomputable def mWhile (c : MT) (b : MS) : MS := fun ρ st => if h : ∃ n, whileF n c b ρ st ≠ .bad then whileF h.choose c b ρ st else .bad
theorem whileF_mono {c : MT} {b : MS} : ∀ {n m : Nat} {ρ : Env} {st : Store}, n ≤ m → whileF n c b ρ st ≠ .bad → whileF m c b ρ st = whileF n c b ρ st
  | 0, _, _, _, _, h => absurd rfl h
  | n + 1, 0, _, _, hl, _ => absurd hl (by omega)
  | n + 1, m + 1, ρ, st, hl, h => by
    unfold whileF at h ⊢
    cases e : c ρ st with
    | bad => rw [e] at h; exact absurd rfl h
    | er x st1 => rfl
    | ok x st1 =>
      rw [e] at h
      simp only [R.toS] at h ⊢
      cases x with
      | false => rfl
      | true =>
        simp only [if_true] at h ⊢
        cases e2 : b ρ st1 with
        | nx ρ2 st2 =>
          rw [e2] at h
          simp only at h ⊢
          exact whileF_mono (by omega) h
        | ct ρ2 st2 =>
          rw [e2] at h
          simp only at h ⊢
          exact whileF_mono (by omega) h
        | _ => rfl
theorem mWhile_of {c : MT} {b : MS} {ρ : Env} {st : Store} {r : SR} (n : Nat) (h : whileF n c b ρ st = r) (hr : r ≠ .bad) : mWhile c b ρ st = r := by
  unfold mWhile
  have hx : ∃ n, whileF n c b ρ st ≠ .bad := ⟨n, by rw [h]; exact hr⟩
  rw [dif_pos hx]
  have h2 := hx.choose_spec
  rcases Nat.le_total n hx.choose with l | l
  · rw [whileF_mono l (by rw [h]; exact hr), h]
  · rw [← whileF_mono l h2, h]
theorem mWhile_ex {c : MT} {b : MS} {ρ : Env} {st : Store} (h : mWhile c b ρ st ≠ .bad) : ∃ n, whileF n c b ρ st = mWhile c b ρ st := by
  unfold mWhile at h ⊢
  by_cases hx : ∃ n, whileF n c b ρ st ≠ .bad
  · rw [dif_pos hx]
    exact ⟨_, rfl⟩
  · rw [dif_neg hx] at h
    exact absurd rfl h
theorem ms_while {c : Expr} {body : List Stmt} {mc : MT} {mb : MS} (hp : PassesOwn (model X.prog X.w) X.A X.env X.xe) (hc : PT X c (tT X W mc)) (hb : PSs X body (tS X W mb)) : PS X (.While c body [] pos) (tS X W (mWhile mc mb)) := (ps_while hp hc hb).imp fun D σ H ⟨φ, ρ, st, rs, re, h⟩ => by
  have hne : mWhile mc mb ρ st ≠ .bad := fun z => by rw [z] at h; exact h
  obtain ⟨n, hn⟩ := mWhile_ex hne
  rw [← hn] at h
  refine ⟨fun m σ H => ∃ φ ρ st, RS X.K X.w X.mg φ H st ∧ RE X.K φ H σ ρ ∧ SPst X.K X.w X.mg W φ H (whileF m mc mb ρ st) D, ⟨n, φ, ρ, st, rs, re, h⟩, ?_⟩
  rintro m σ H ⟨φ, ρ, st, rs, re, h⟩
  cases m with
  | zero => exact h.elim
  | succ m =>
    unfold whileF at h
    refine ⟨φ, ρ, st, rs, re, h.exp re fun φ1 b x H1 st1 e1 rs1 rv1 h1 => ?_⟩
    subst rv1
    cases x with
    | false => exact iteF (h1 φ1 σ H1 .refl rs1 (re.ext e1))
    | true =>
      refine iteT ⟨fun σ' H' => ∃ φ ρ st, RS X.K X.w X.mg φ H' st ∧ RE X.K φ H' σ' ρ ∧ SPst X.K X.w X.mg W φ H' (whileF m mc mb ρ st) D, fun σ' H' h => ⟨m, Nat.lt_succ_self m, h⟩, φ1, ρ, st1, rs1, re.ext e1, ?_⟩
      simp only [if_true] at h1
      cases e2 : mb ρ st1 with
      | nx ρ2 st2 =>
        rw [e2] at h1
        exact fun φ' σ' H' ex rs' re' => ⟨φ', ρ2, st2, rs', re', SPst.mono h1 ex⟩
      | ct ρ2 st2 =>
        rw [e2] at h1
        exact fun φ' σ' H' ex rs' re' => ⟨φ', ρ2, st2, rs', re', SPst.mono h1 ex⟩
      | bk ρ2 st2 => rw [e2] at h1; exact h1
      | rt a st2 => rw [e2] at h1; exact h1
      | er x ρ2 st2 => rw [e2] at h1; exact h1
      | bad => rw [e2] at h1; exact h1
/-! ### what a loop walks -/
inductive Src where
  | vals (xs : List A) | lst (r : Nat) | rng (lo : Int) (n : Nat) | chars (x : Str) | zipv (xs ys : List A) | zipl (r q : Nat) | revl (r n : Nat) | enul (r : Nat)
def stL (st : Store) (r : Nat) : Option (List A) := match st[r]? with
  | some (.lst xs) => some xs
  | _ => none
def Src.at (s : Src) (i : Nat) (st : Store) : Option (Option A) := match s with
  | .vals xs => some xs[i]?
  | .lst r => match stL st r with
    | some xs => some xs[i]?
    | none => none
  | .rng lo n => some (if i < n then some (.int (lo + (i : Nat))) else none)
  | .chars x => some (x.cps[i]?.map fun c => .str ⟨#[c]⟩)
  | .zipv xs ys => some (match xs[i]?, ys[i]? with
    | some a, some b => some (.tup [a, b])
    | _, _ => none)
  | .zipl r q => match stL st r, stL st q with
    | some xs, some ys => some (match xs[i]?, ys[i]? with
      | some a, some b => some (.tup [a, b])
      | _, _ => none)
    | _, _ => none
  | .revl r n => if i < n then (match stL st r with
    | some xs => (match xs[n - 1 - i]? with
      | some x => some (some x)
      | none => none)
    | none => none) else some none
  | .enul r => match stL st r with
    | some xs => some (match xs[i]? with
      | some a => some (.tup [.int (i : Nat), a])
      | none => none)
    | none => none
def Src.size (s : Src) (st : Store) : Nat := match s with
  | .vals xs => xs.length
  | .lst r => ((stL st r).getD []).length
  | .rng _ n => n
  | .chars x => x.cps.size
  | .zipv xs _ => xs.length
  | .zipl r _ => ((stL st r).getD []).length
  | .revl _ n => n
  | .enul r => ((stL st r).getD []).length
structure SimB (K : PySem.W.Frag) (w : World) (mg : Str → Option Value) (wk : Bool) (φ0 : List Addr) (H0 : Hp) (J : It) (s : Src) : Prop where
  stop : ∀ i φ H st, Ext φ0 H0 φ H → RS K w mg φ H st → s.at i st = some none → J.stop i H
  go : ∀ i φ H st a, Ext φ0 H0 φ H → RS K w mg φ H st → s.at i st = some (some a) → J.go i H ∧ ∀ x H', J.yld i H x H' → Ext φ H φ H' ∧ RS K w mg φ H' st ∧ RVw K φ H' wk x a
abbrev SimS (K : PySem.W.Frag) (w : World) (mg : Str → Option Value) := SimB K w mg false
abbrev tIW (X : Cx) (W : WX) (ms : Env → Store → R Src) : TI := tG X.K X.w X.mg (SimB X.K X.w X.mg true) W ms
abbrev tI (X : Cx) (W : WX) (ms : Env → Store → R Src) : TI := tG X.K X.w X.mg (SimS X.K X.w X.mg) W ms
theorem PIimp {tg iter : Expr} {t t' : TI} (h : PI X tg iter t) (k : ∀ σ H R, t' σ H R → t σ H R) : PI X tg iter t' := ⟨fun pins s σ H R I q => h.run pins s σ H R I (k _ _ _ q)⟩
theorem PIor {tg iter : Expr} {t t' : TI} (h : PI X tg iter t) (h' : PI X tg iter t') : PI X tg iter (fun σ H R => t σ H R ∨ t' σ H R) := ⟨fun pins s σ H R I q => q.elim (h.run pins s σ H R I) (h'.run pins s σ H R I)⟩
def srcA : A → Store → R Src
  | .tup xs, st => .ok (.vals xs) st
  | .scr xs, st => .ok (.vals xs) st
  | .str x, st => .ok (.chars x) st
  | .ref r, st => match st[r]? with
    | some (.lst _) => .ok (.lst r) st
    | _ => .bad
  | _, _ => .bad
def mSrc (ma : MX) : Env → Store → R Src := fun ρ st => (ma ρ st).bind srcA
end
section
variable {K : PySem.W.Frag} {w : World} {mg : Str → Option Value} {φ0 : List Addr} {H0 : Hp}
theorem sim_tup {a : Addr} {xs : List V} {ds : List A} (q : StT K φ0 H0 a xs) (qs : RVs K φ0 H0 xs ds) : SimS K w mg φ0 H0 (Itt K a) (.vals ds) where
  stop := fun i φ H st e rs h => ⟨xs, (q.ext e).sq, by
    have h1 : ds[i]? = none := Option.some.inj h
    rw [qs.length]
    exact List.getElem?_eq_none_iff.mp h1⟩
  go := fun i φ H st d e rs h => by
    have h1 : ds[i]? = some d := Option.some.inj h
    obtain ⟨v, h2, h3⟩ := qs.get h1
    refine ⟨⟨xs, v, (q.ext e).sq, h2⟩, fun x H' y => ?_⟩
    obtain ⟨rfl, y⟩ := y
    have e3 := (y xs (q.ext e).sq).symm.trans h2
    cases e3
    exact ⟨.refl, rs, h3.ext e⟩
theorem sim_scr {a : Addr} {xs : List V} {ds : List A} (q : StL K φ0 H0 a xs) (qs : RVs K φ0 H0 xs ds) : SimS K w mg φ0 H0 (Itl K a) (.vals ds) where
  stop := fun i φ H st e rs h => ⟨xs, (q.ext e).sq, by
    have h1 : ds[i]? = none := Option.some.inj h
    rw [qs.length]
    exact List.getElem?_eq_none_iff.mp h1⟩
  go := fun i φ H st d e rs h => by
    have h1 : ds[i]? = some d := Option.some.inj h
    obtain ⟨v, h2, h3⟩ := qs.get h1
    refine ⟨⟨xs, v, (q.ext e).sq, h2⟩, fun x H' y => ?_⟩
    obtain ⟨rfl, y⟩ := y
    have e3 := (y xs (q.ext e).sq).symm.trans h2
    cases e3
    exact ⟨.refl, rs, h3.ext e⟩
theorem stL_eq {st : Store} {r : Nat} {xs : List A} (h : stL st r = some xs) : st[r]? = some (.lst xs) := by
  unfold stL at h
  split at h
  · rename_i ys e
    cases h
    exact e
  · cases h
theorem sim_lst {a : Addr} {r : Nat} (q : φ0[r]? = some a) : SimS K w mg φ0 H0 (Itl K a) (.lst r) where
  stop := fun i φ H st e rs h => by
    unfold Src.at at h
    simp only at h
    cases e1 : stL st r with
    | none => rw [e1] at h; cases h
    | some ds =>
      rw [e1] at h
      obtain ⟨xs, h1, h2⟩ := rs.lst (e.get q) (stL_eq e1)
      have h3 : ds[i]? = none := Option.some.inj h
      exact ⟨xs, .inl (.inl h1), by rw [h2.length]; exact List.getElem?_eq_none_iff.mp h3⟩
  go := fun i φ H st d e rs h => by
    unfold Src.at at h
    simp only at h
    cases e1 : stL st r with
    | none => rw [e1] at h; cases h
    | some ds =>
      rw [e1] at h
      obtain ⟨xs, h1, h2⟩ := rs.lst (e.get q) (stL_eq e1)
      have h3 : ds[i]? = some d := Option.some.inj h
      obtain ⟨v, h4, h5⟩ := h2.get h3
      refine ⟨⟨xs, v, .inl (.inl h1), h4⟩, fun x H' y => ?_⟩
      obtain ⟨rfl, y⟩ := y
      have e3 := (y xs (.inl (.inl h1))).symm.trans h4
      cases e3
      exact ⟨.refl, rs, h5⟩
theorem sim_rng {lo : Int} {n : Nat} : SimS K w mg φ0 H0 (Itr lo n) (.rng lo n) where
  stop := fun i φ H st e rs h => by
    unfold Src.at at h
    simp only [Option.some.injEq] at h
    split at h
    · cases h
    · rename_i hn
      exact Nat.le_of_not_lt hn
  go := fun i φ H st d e rs h => by
    unfold Src.at at h
    simp only [Option.some.injEq] at h
    split at h
    · rename_i hn
      cases h
      refine ⟨hn, fun x H' y => ?_⟩
      obtain ⟨rfl, rfl⟩ := y
      exact ⟨.refl, rs, .int _⟩
    · cases h
theorem sim_chars {z : Str} : SimS K w mg φ0 H0 (Its z) (.chars z) where
  stop := fun i φ H st e rs h => by
    unfold Src.at at h
    simp only [Option.some.injEq, Option.map_eq_none_iff] at h
    exact Array.getElem?_eq_none_iff.mp h
  go := fun i φ H st d e rs h => by
    unfold Src.at at h
    simp only [Option.some.injEq, Option.map_eq_some_iff] at h
    obtain ⟨c, hc, rfl⟩ := h
    refine ⟨(Array.getElem?_eq_some_iff.mp hc).1, fun x H' y => ?_⟩
    obtain ⟨rfl, c', hc', rfl⟩ := y
    rw [hc] at hc'
    cases hc'
    exact ⟨.refl, rs, .str _⟩
theorem sim_zipv {a b : Addr} {xs ys : List V} {ds es : List A} (q : StT K φ0 H0 a xs) (qs : RVs K φ0 H0 xs ds) (p : StT K φ0 H0 b ys) (ps : RVs K φ0 H0 ys es) : SimB K w mg true φ0 H0 (RZ.ItzT K a b) (.zipv ds es) where
  stop := fun i φ H st e rs h => by
    unfold Src.at at h
    simp only [Option.some.injEq] at h
    refine ⟨xs, ys, (q.ext e).sq, (p.ext e).sq, ?_⟩
    rw [qs.length, ps.length]
    split at h
    · cases h
    · rename_i hn
      by_cases c1 : ds.length ≤ i
      · exact .inl c1
      · by_cases c2 : es.length ≤ i
        · exact .inr c2
        · exact absurd (List.getElem?_eq_getElem (Nat.lt_of_not_le c2)) (hn _ _ (List.getElem?_eq_getElem (Nat.lt_of_not_le c1)))
  go := fun i φ H st d e rs h => by
    unfold Src.at at h
    simp only [Option.some.injEq] at h
    split at h
    · rename_i d1 d2 h1 h2
      cases h
      obtain ⟨v1, g1, g2⟩ := qs.get h1
      obtain ⟨v2, g3, g4⟩ := ps.get h2
      refine ⟨⟨xs, ys, v1, v2, (q.ext e).sq, (p.ext e).sq, g1, g3⟩, fun x H' y => ?_⟩
      obtain ⟨T, x', y', rfl, hT, rfl, f1, f2⟩ := y
      have z1 := (f1 xs (q.ext e).sq).symm.trans g1
      have z2 := (f2 ys (p.ext e).sq).symm.trans g3
      cases z1
      cases z2
      exact ⟨ext_new hT, rs.new hT, T, _, _, rfl, rfl, .inl (.inl upd_same), RVs.ext (ext_new hT) (.cons (g2.ext e) (.cons (g4.ext e) .nil))⟩
    · cases h
theorem sim_zipl {a b : Addr} {r q : Nat} (ha : φ0[r]? = some a) (hb : φ0[q]? = some b) : SimB K w mg true φ0 H0 (Itz K a b) (.zipl r q) where
  stop := fun i φ H st e rs h => by
    unfold Src.at at h
    simp only at h
    cases e1 : stL st r with
    | none => rw [e1] at h; cases h
    | some ds =>
      cases e2 : stL st q with
      | none => rw [e1, e2] at h; cases h
      | some es =>
        rw [e1, e2] at h
        simp only [Option.some.injEq] at h
        obtain ⟨xs, h1, h2⟩ := rs.lst (e.get ha) (stL_eq e1)
        obtain ⟨ys, h3, h4⟩ := rs.lst (e.get hb) (stL_eq e2)
        refine ⟨xs, ys, .inl (.inl h1), .inl (.inl h3), ?_⟩
        rw [h2.length, h4.length]
        split at h
        · cases h
        · rename_i hn
          by_cases c1 : ds.length ≤ i
          · exact .inl c1
          · by_cases c2 : es.length ≤ i
            · exact .inr c2
            · exact absurd (List.getElem?_eq_getElem (Nat.lt_of_not_le c2)) (hn _ _ (List.getElem?_eq_getElem (Nat.lt_of_not_le c1)))
  go := fun i φ H st d e rs h => by
    unfold Src.at at h
    simp only at h
    cases e1 : stL st r with
    | none => rw [e1] at h; cases h
    | some ds =>
      cases e2 : stL st q with
      | none => rw [e1, e2] at h; cases h
      | some es =>
        rw [e1, e2] at h
        simp only [Option.some.injEq] at h
        obtain ⟨xs, k1, k2⟩ := rs.lst (e.get ha) (stL_eq e1)
        obtain ⟨ys, k3, k4⟩ := rs.lst (e.get hb) (stL_eq e2)
        split at h
        · rename_i d1 d2 h1 h2
          cases h
          obtain ⟨v1, g1, g2⟩ := k2.get h1
          obtain ⟨v2, g3, g4⟩ := k4.get h2
          refine ⟨⟨xs, ys, v1, v2, .inl (.inl k1), .inl (.inl k3), g1, g3⟩, fun x H' y => ?_⟩
          obtain ⟨T, x', y', rfl, hT, rfl, f1, f2⟩ := y
          have z1 := (f1 xs (.inl (.inl k1))).symm.trans g1
          have z2 := (f2 ys (.inl (.inl k3))).symm.trans g3
          cases z1
          cases z2
          exact ⟨ext_new hT, rs.new hT, T, _, _, rfl, rfl, .inl (.inl upd_same), RVs.ext (ext_new hT) (.cons g2 (.cons g4 .nil))⟩
        · cases h
end
section
variable {K : PySem.W.Frag} {w : World} {mg : Str → Option Value} {φ0 : List Addr} {H0 : Hp}
theorem rev_get {α : Type} {xs : List α} {i : Nat} {x : α} (h : xs.reverse[i]? = some x) : i < xs.length ∧ xs[xs.length - 1 - i]? = some x := by
  have hi := (List.getElem?_eq_some_iff.mp h).1
  rw [List.length_reverse] at hi
  rw [List.getElem?_reverse hi] at h
  exact ⟨hi, h⟩
theorem sim_revt {a : Addr} {xs : List V} {ds : List A} (q : StT K φ0 H0 a xs) (qs : RVs K φ0 H0 xs ds) : SimS K w mg φ0 H0 (RT.ItvT K a xs.length) (.vals ds.reverse) where
  stop := fun i φ H st e rs h => by
    have h1 : ds.reverse[i]? = none := Option.some.inj h
    show xs.length ≤ i
    rw [qs.length]
    have := List.getElem?_eq_none_iff.mp h1
    rwa [List.length_reverse] at this
  go := fun i φ H st d e rs h => by
    obtain ⟨hi, h1⟩ := rev_get (Option.some.inj h)
    rw [← qs.length] at hi h1
    obtain ⟨v, h2, h3⟩ := qs.get h1
    refine ⟨⟨hi, xs, v, (q.ext e).sq, h2⟩, fun x H' y => ?_⟩
    obtain ⟨rfl, y⟩ := y
    have e3 := (y xs (q.ext e).sq).symm.trans h2
    cases e3
    exact ⟨.refl, rs, h3.ext e⟩
theorem sim_revs {a : Addr} {xs : List V} {ds : List A} (q : StL K φ0 H0 a xs) (qs : RVs K φ0 H0 xs ds) : SimS K w mg φ0 H0 (Itv K a xs.length) (.vals ds.reverse) where
  stop := fun i φ H st e rs h => by
    have h1 : ds.reverse[i]? = none := Option.some.inj h
    show xs.length ≤ i
    rw [qs.length]
    have := List.getElem?_eq_none_iff.mp h1
    rwa [List.length_reverse] at this
  go := fun i φ H st d e rs h => by
    obtain ⟨hi, h1⟩ := rev_get (Option.some.inj h)
    rw [← qs.length] at hi h1
    obtain ⟨v, h2, h3⟩ := qs.get h1
    refine ⟨⟨hi, xs, v, (q.ext e).sq, h2⟩, fun x H' y => ?_⟩
    obtain ⟨rfl, y⟩ := y
    have e3 := (y xs (q.ext e).sq).symm.trans h2
    cases e3
    exact ⟨.refl, rs, h3.ext e⟩
theorem sim_revl {a : Addr} {r n : Nat} (q : φ0[r]? = some a) : SimS K w mg φ0 H0 (Itv K a n) (.revl r n) where
  stop := fun i φ H st e rs h => by
    unfold Src.at at h
    simp only at h
    split at h
    · split at h
      · split at h <;> cases h
      · cases h
    · rename_i hn
      exact Nat.le_of_not_lt hn
  go := fun i φ H st d e rs h => by
    unfold Src.at at h
    simp only at h
    split at h
    · rename_i hi
      cases e1 : stL st r with
      | none => rw [e1] at h; cases h
      | some ds =>
        rw [e1] at h
        simp only at h
        cases e2 : ds[n - 1 - i]? with
        | none => rw [e2] at h; cases h
        | some d' =>
          rw [e2] at h
          cases h
          obtain ⟨xs, h1, h2⟩ := rs.lst (e.get q) (stL_eq e1)
          obtain ⟨v, h4, h5⟩ := h2.get e2
          refine ⟨⟨hi, xs, v, .inl (.inl h1), h4⟩, fun x H' y => ?_⟩
          obtain ⟨rfl, y⟩ := y
          have e3 := (y xs (.inl (.inl h1))).symm.trans h4
          cases e3
          exact ⟨.refl, rs, h5⟩
    · cases h
theorem sim_enul {a : Addr} {r : Nat} (ha : φ0[r]? = some a) : SimB K w mg true φ0 H0 (Ite K a) (.enul r) where
  stop := fun i φ H st e rs h => by
    unfold Src.at at h
    simp only at h
    cases e1 : stL st r with
    | none => rw [e1] at h; cases h
    | some ds =>
      rw [e1] at h
      simp only [Option.some.injEq] at h
      obtain ⟨xs, h1, h2⟩ := rs.lst (e.get ha) (stL_eq e1)
      refine ⟨xs, .inl (.inl h1), ?_⟩
      rw [h2.length]
      split at h
      · cases h
      · rename_i hn
        exact List.getElem?_eq_none_iff.mp hn
  go := fun i φ H st d e rs h => by
    unfold Src.at at h
    simp only at h
    cases e1 : stL st r with
    | none => rw [e1] at h; cases h
    | some ds =>
      rw [e1] at h
      simp only [Option.some.injEq] at h
      split at h
      · rename_i d1 g1
        cases h
        obtain ⟨xs, h1, h2⟩ := rs.lst (e.get ha) (stL_eq e1)
        obtain ⟨v1, g2, g3⟩ := h2.get g1
        refine ⟨⟨xs, v1, .inl (.inl h1), g2⟩, fun x H' y => ?_⟩
        obtain ⟨T, x', rfl, hT, rfl, f1⟩ := y
        have z1 := (f1 xs (.inl (.inl h1))).symm.trans g2
        cases z1
        exact ⟨ext_new hT, rs.new hT, T, _, _, rfl, rfl, .inl (.inl upd_same), RVs.ext (ext_new hT) (.cons (.int _) (.cons g3 .nil))⟩
      · cases h
end
section
variable {X : Cx} {W : WX} {a b e tg : Expr} {ma mb : MX} {ms : MA} {pos : Pos}
theorem mi_it (ha : PE X a (tE X W ma)) : PI X tg a (tI X W (mSrc ma)) := PIimp (PIor (pi_list ha) (PIor (pi_tup ha) (pi_str ha))) fun σ H Q ⟨φ, ρ, st, rs, re, h⟩ => by
  unfold mSrc at h
  cases e : ma ρ st with
  | bad => rw [e] at h; exact h.elim
  | er x st1 =>
    rw [e] at h
    exact .inl ⟨φ, ρ, st, rs, re, by rw [e]; exact h⟩
  | ok d st1 =>
    rw [e] at h
    have h : Pst X.K X.w X.mg (SimS X.K X.w X.mg) (fun c d H' => W c d σ H') φ H (srcA d st1) Q := h
    cases d with
    | tup ds =>
      refine .inr (.inl ⟨φ, ρ, st, rs, re, ?_⟩)
      rw [e]
      intro φ1 v H1 e1 rs1 rv1
      cases rv1 with
      | tup q qs => exact ⟨_, rfl, ⟨_, q.sq⟩, h φ1 _ H1 e1 rs1 (sim_tup q qs)⟩
    | scr ds =>
      refine .inl ⟨φ, ρ, st, rs, re, ?_⟩
      rw [e]
      intro φ1 v H1 e1 rs1 rv1
      cases rv1 with
      | scr q qs => exact ⟨_, rfl, ⟨_, q.sq⟩, h φ1 _ H1 e1 rs1 (sim_scr q qs)⟩
    | str z =>
      refine .inr (.inr ⟨φ, ρ, st, rs, re, ?_⟩)
      rw [e]
      intro φ1 v H1 e1 rs1 rv1
      cases rv1
      exact ⟨_, rfl, h φ1 _ H1 e1 rs1 sim_chars⟩
    | ref r =>
      refine .inl ⟨φ, ρ, st, rs, re, ?_⟩
      rw [e]
      intro φ1 v H1 e1 rs1 rv1
      unfold srcA at h
      simp only at h
      cases e2 : st1[r]? with
      | none => rw [e2] at h; exact h.elim
      | some o =>
        cases o with
        | oth u => rw [e2] at h; exact h.elim
        | lst ds =>
          rw [e2] at h
          cases rv1 with
          | ref q =>
            obtain ⟨xs, h1, _⟩ := rs1.lst q e2
            exact ⟨_, rfl, ⟨_, .inl (.inl h1)⟩, h φ1 _ H1 e1 rs1 (sim_lst q)⟩
    | _ => exact h.elim
def rngA : List A → Store → R Src
  | [.int j], st => if -(2 ^ 62) ≤ j ∧ j < 2 ^ 62 then .ok (.rng 0 j.toNat) st else .bad
  | [.int i, .int j], st => if -(2 ^ 62) ≤ i ∧ i < 2 ^ 62 ∧ -(2 ^ 62) ≤ j ∧ j < 2 ^ 62 then .ok (.rng i (j - i).toNat) st else .bad
  | _, _ => .bad
def mRng (ms : MA) : Env → Store → R Src := fun ρ st => (ms ρ st).bind rngA
theorem one_rva {K : PySem.W.Frag} {φ : List Addr} {H : Hp} {v : V} {ds : List A} (q : RVs K φ H [v] ds) : ∃ d, ds = [d] ∧ RV K φ H v d := by
  cases q with
  | cons h t => cases t; exact ⟨_, rfl, h⟩
theorem mi_range1 {p : Pos} {x : Str} (hm : X.mg "range" = none) (ha : PA X [a] (tA X W ms)) (hg : Gl X "range" := by rfl) (hs : starEach [a] X.env = [(false, eval a X.env)] := by rfl) (hn : ∀ ρ st as st', ms ρ st = .ok as st' → as.length = 1) : PI X tg (.Call (.Name "range" p) [a] [] pos) (tI X W (mRng ms)) := PIimp (pi_range1 hg hm ha hs) fun σ H Q ⟨φ, ρ, st, rs, re, h⟩ => by
  have hn' := hn ρ st
  refine ⟨φ, ρ, st, rs, re, ?_⟩
  unfold mRng at h
  cases e : ms ρ st with
  | bad => rw [e] at h; exact h.elim
  | er x st1 => rw [e] at h; exact h
  | ok ds st1 =>
    rw [e] at h
    have hl := hn' ds st1 e
    intro φ1 vs H1 e1 rs1 rv1
    have h1 : Pst X.K X.w X.mg (SimS X.K X.w X.mg) (fun c d H' => W c d σ H') φ H (rngA ds st1) Q := h
    unfold rngA at h1
    split at h1
    · split at h1
      · rename_i hz
        obtain ⟨v, rfl, r⟩ := one_rv rv1
        cases r
        exact ⟨_, rfl, hz.1, hz.2, h1 φ1 _ H1 e1 rs1 sim_rng⟩
      · exact h1.elim
    · simp at hl
    · exact h1.elim
theorem mi_range2 {p : Pos} {x : Str} (hm : X.mg "range" = none) (ha : PA X [a, b] (tA X W ms)) (hg : Gl X "range" := by rfl) (hs : starEach [a, b] X.env = [(false, eval a X.env), (false, eval b X.env)] := by rfl) (hs2 : starEach [b] X.env = [(false, eval b X.env)] := by rfl)
    (hn : ∀ ρ st as st', ms ρ st = .ok as st' → as.length = 2) : PI X tg (.Call (.Name "range" p) [a, b] [] pos) (tI X W (mRng ms)) := PIimp (pi_range2 hg hm ha hs hs2) fun σ H Q ⟨φ, ρ, st, rs, re, h⟩ => by
  have hn' := hn ρ st
  refine ⟨φ, ρ, st, rs, re, ?_⟩
  unfold mRng at h
  cases e : ms ρ st with
  | bad => rw [e] at h; exact h.elim
  | er x st1 => rw [e] at h; exact h
  | ok ds st1 =>
    rw [e] at h
    have hl := hn' ds st1 e
    intro φ1 vs H1 e1 rs1 rv1
    have h1 : Pst X.K X.w X.mg (SimS X.K X.w X.mg) (fun c d H' => W c d σ H') φ H (rngA ds st1) Q := h
    unfold rngA at h1
    split at h1
    · simp at hl
    · split at h1
      · rename_i hz
        obtain ⟨v, v', rfl, r, r'⟩ := two_rv rv1
        cases r
        cases r'
        exact ⟨_, _, rfl, hz, h1 φ1 _ H1 e1 rs1 sim_rng⟩
      · exact h1.elim
    · exact h1.elim
theorem cons1 {mx : MX} (ρ : Env) (st : Store) (as : List A) (st' : Store) (h : mCons mx mNil ρ st = .ok as st') : as.length = 1 := by
  unfold mCons at h
  cases e : mx ρ st with
  | ok d st1 => rw [e] at h; cases h; rfl
  | er x st1 => rw [e] at h; cases h
  | bad => rw [e] at h; cases h
theorem cons2 {mx my : MX} (ρ : Env) (st : Store) (as : List A) (st' : Store) (h : mCons mx (mCons my mNil) ρ st = .ok as st') : as.length = 2 := by
  unfold mCons at h
  cases e : mx ρ st with
  | ok d st1 =>
    rw [e] at h
    cases e2 : my ρ st1 with
    | ok d2 st2 =>
      simp only [R.bind, mCons, e2, mNil] at h
      cases h
      rfl
    | er x st2 => simp only [R.bind, mCons, e2, mNil] at h; cases h
    | bad => simp only [R.bind, mCons, e2, mNil] at h; cases h
  | er x st1 => rw [e] at h; cases h
  | bad => rw [e] at h; cases h
def zipA : List A → Store → R Src
  | [.tup xs, .tup ys], st => .ok (.zipv xs ys) st
  | [.ref r, .ref q], st => match st[r]?, st[q]? with
    | some (.lst _), some (.lst _) => .ok (.zipl r q) st
    | _, _ => .bad
  | _, _ => .bad
def mZip (ms : MA) : Env → Store → R Src := fun ρ st => (ms ρ st).bind zipA
theorem mi_zip {p tpos : Pos} {elts : List Expr} {kk : Nat} (hm : X.mg "zip" = none) (ha : PA X [a, b] (tA X W ms)) (hg : Gl X "zip" := by rfl)
    (hs : starEach [a, b] X.env = (false, eval a X.env) :: starEach [b] X.env := by rfl) (hpl : (backTo pos (starEach [b] X.env)).any (·.1) = false := by rfl) : PI X (.Tuple elts kk tpos) (.Call (.Name "zip" p) [a, b] [] pos) (tIW X W (mZip ms)) := PIimp (RZ.pi_zipA hg hm ha hs hpl) fun σ H Q ⟨φ, ρ, st, rs, re, h⟩ => by
  refine ⟨φ, ρ, st, rs, re, h.seq fun φ1 ds vs H1 st1 e1 rs1 rv1 h1 => ?_⟩
  unfold zipA at h1
  split at h1
  · obtain ⟨v, v', rfl, r, r'⟩ := two_rv rv1
    cases r with
    | tup q qs =>
      cases r' with
      | tup p ps => exact ⟨_, _, _, _, rfl, .inr ⟨q.sq, p.sq, h1.ok rs1 (sim_zipv q qs p ps)⟩⟩
  · rename_i i j
    obtain ⟨v, v', rfl, r, r'⟩ := two_rv rv1
    cases r with
    | ref q =>
      cases r' with
      | ref p =>
        cases e2 : st1[i]? with
        | none => rw [e2] at h1; exact h1.elim
        | some o =>
          cases o with
          | oth u => rw [e2] at h1; exact h1.elim
          | lst ds =>
            cases e3 : st1[j]? with
            | none => rw [e2, e3] at h1; exact h1.elim
            | some o2 =>
              cases o2 with
              | oth u => rw [e2, e3] at h1; exact h1.elim
              | lst es =>
                rw [e2, e3] at h1
                obtain ⟨xs, g1, _⟩ := rs1.lst q e2
                obtain ⟨ys, g2, _⟩ := rs1.lst p e3
                exact ⟨_, _, _, _, rfl, .inl ⟨.inl (.inl g1), .inl (.inl g2), h1.ok rs1 (sim_zipl q p)⟩⟩
  · exact h1.elim
/-! ### reversed, enumerate -/
def revA : A → Store → R Src
  | .tup xs, st => .ok (.vals xs.reverse) st
  | .scr xs, st => .ok (.vals xs.reverse) st
  | .ref r, st => match st[r]? with
    | some (.lst xs) => .ok (.revl r xs.length) st
    | _ => .bad
  | _, _ => .bad
def mRev (ma : MX) : Env → Store → R Src := fun ρ st => (ma ρ st).bind revA
theorem mi_rev {p : Pos} (hm : X.mg "reversed" = none) (ha : PE X a (tE X W ma)) (hg : Gl X "reversed" := by rfl) (hs : starEach [a] X.env = (false, eval a X.env) :: starEach [] X.env := by rfl) :
    PI X tg (.Call (.Name "reversed" p) [a] [] pos) (tI X W (mRev ma)) := PIimp (RT.pi_revA hg hm ha hs) fun σ H Q ⟨φ, ρ, st, rs, re, h⟩ => by
  refine ⟨φ, ρ, st, rs, re, h.seq fun φ1 d v H1 st1 e1 rs1 rv1 h1 => ?_⟩
  unfold revA at h1
  cases rv1 with
  | tup q qs => exact ⟨_, _, rfl, .inr ⟨q.sq, h1.ok rs1 (sim_revt q qs)⟩⟩
  | scr q qs => exact ⟨_, _, rfl, .inl ⟨q.sq, h1.ok rs1 (sim_revs q qs)⟩⟩
  | @ref a r q =>
    simp only at h1
    cases e2 : st1[r]? with
    | none => rw [e2] at h1; exact h1.elim
    | some o =>
      cases o with
      | oth u => rw [e2] at h1; exact h1.elim
      | lst ds =>
        rw [e2] at h1
        obtain ⟨xs, g1, g2⟩ := rs1.lst q e2
        refine ⟨_, xs, rfl, .inl ⟨.inl (.inl g1), h1.ok rs1 ?_⟩⟩
        rw [g2.length]
        exact sim_revl q
  | _ => exact (show False from h1).elim
def enumA : List A → Store → R Src
  | [.ref r], st => match st[r]? with
    | some (.lst _) => .ok (.enul r) st
    | _ => .bad
  | _, _ => .bad
def mEnum (ms : MA) : Env → Store → R Src := fun ρ st => (ms ρ st).bind enumA
theorem mi_enum {p tpos : Pos} {elts : List Expr} {kk : Nat} (hm : X.mg "enumerate" = none) (ha : PA X [a] (tA X W ms)) (hg : Gl X "enumerate" := by rfl) (hs : starEach [a] X.env = [(false, eval a X.env)] := by rfl) :
    PI X (.Tuple elts kk tpos) (.Call (.Name "enumerate" p) [a] [] pos) (tIW X W (mEnum ms)) := PIimp (pi_enum hg hm ha hs) fun σ H Q ⟨φ, ρ, st, rs, re, h⟩ => by
  refine ⟨φ, ρ, st, rs, re, h.seq fun φ1 ds vs H1 st1 e1 rs1 rv1 h1 => ?_⟩
  unfold enumA at h1
  split at h1
  · rename_i r
    obtain ⟨v, rfl, rr⟩ := one_rv rv1
    cases rr with
    | ref q =>
      cases e2 : st1[r]? with
      | none => rw [e2] at h1; exact h1.elim
      | some o =>
        cases o with
        | oth u => rw [e2] at h1; exact h1.elim
        | lst ds =>
          rw [e2] at h1
          obtain ⟨xs, g1, g2⟩ := rs1.lst q e2
          exact ⟨_, xs, rfl, .inl (.inl g1), h1.ok rs1 (sim_enul q)⟩
  · exact h1.elim
/-! ### for -/
def loopF (s : Src) (tg : Tg) (body : MS) : Nat → Nat → MS
  | 0, _, _, _ => .bad
  | n + 1, i, ρ, st => match s.at i st with
    | none => .bad
    | some none => .nx ρ st
    | some (some d) => match asgT tg d ρ st with
      | none => .bad
      | some ρ1 => match body ρ1 st with
        | .nx ρ2 st2 => loopF s tg body n (i + 1) ρ2 st2
        | .ct ρ2 st2 => loopF s tg body n (i + 1) ρ2 st2
        | .bk ρ2 st2 => .nx ρ2 st2
        | r => r
def mFor (ms : Env → Store → R Src) (tg : Tg) (body : MS) : MS := fun ρ st => (ms ρ st).toS ρ fun s st1 => loopF s tg body (s.size st1 + 1) 0 ρ st1
theorem ms_for {iter : Expr} {body : List Stmt} {wk : Bool} {mi : Env → Store → R Src} {T : Tg} {mb : MS} (hp : PassesOwn (model X.prog X.w) X.A X.env X.xe) (hi : PI X tg iter (tG X.K X.w X.mg (SimB X.K X.w X.mg wk) W mi)) (hg : PG X tg (gOf X.K T)) (hb : PSs X body (tS X W mb))
    (hc : X.calm = true := by rfl) (hs : ∀ x, foldedSetIterable iter X.env x = pure x := by intro _; rfl) (hw : wk = false ∨ T.isOne = false := by first | exact Or.inl rfl | exact Or.inr rfl) : PS X (.For tg iter body [] pos) (tS X W (mFor mi T mb)) := (ps_for hp hc hi hg hb hs).imp fun D σ H ⟨φ, ρ, st, rs, re, h⟩ => by
  refine ⟨φ, ρ, st, rs, re, h.exp re fun φ1 s J H1 st1 e1 rs1 sim h1 => ?_⟩
  refine ⟨fun i m σ H => ∃ φ ρ st, Ext φ1 H1 φ H ∧ RS X.K X.w X.mg φ H st ∧ RE X.K φ H σ ρ ∧ SPst X.K X.w X.mg W φ H (loopF s T mb m i ρ st) D, ⟨_, φ1, ρ, st1, .refl, rs1, re.ext e1, h1⟩, ?_⟩
  rintro i m σ H ⟨φ, ρ, st, ex, rs, re, h⟩
  cases m with
  | zero => exact h.elim
  | succ m =>
    unfold loopF at h
    cases q : s.at i st with
    | none => rw [q] at h; exact h.elim
    | some o =>
      cases o with
      | none =>
        rw [q] at h
        exact .inl ⟨sim.stop i φ H st ex rs q, h φ σ H .refl rs re⟩
      | some d =>
        rw [q] at h
        simp only at h
        cases q2 : asgT T d ρ st with
        | none => rw [q2] at h; exact h.elim
        | some ρ1 =>
          rw [q2] at h
          simp only at h
          obtain ⟨g1, g2⟩ := sim.go i φ H st d ex rs q
          refine .inr ⟨g1, fun σ' H' => ∃ φ ρ st, Ext φ1 H1 φ H' ∧ RS X.K X.w X.mg φ H' st ∧ RE X.K φ H' σ' ρ ∧ SPst X.K X.w X.mg W φ H' (loopF s T mb m (i + 1) ρ st) D, fun σ' H' w => ⟨m, Nat.lt_succ_self m, w⟩, fun x H' y => ?_⟩
          obtain ⟨ex2, rs2, rv2⟩ := g2 x H' y
          refine gOf_runB hw rv2 (re.ext ex2) q2 fun xs re2 => ⟨φ, ρ1, st, rs2, re2, ?_⟩
          cases q3 : mb ρ1 st with
          | nx ρ2 st2 =>
            rw [q3] at h
            exact fun φ' σ' H' e4 rs' re' => ⟨φ', ρ2, st2, (ex.trans ex2).trans e4, rs', re', SPst.mono h (ex2.trans e4)⟩
          | ct ρ2 st2 =>
            rw [q3] at h
            exact fun φ' σ' H' e4 rs' re' => ⟨φ', ρ2, st2, (ex.trans ex2).trans e4, rs', re', SPst.mono h (ex2.trans e4)⟩
          | bk ρ2 st2 => rw [q3] at h; exact SPst.mono h ex2
          | rt a st2 => rw [q3] at h; exact SPst.mono h ex2
          | er x ρ2 st2 => rw [q3] at h; exact SPst.mono h ex2
          | bad => rw [q3] at h; exact h
/-! ### list comprehensions -/
def mYes : MT := fun _ st => .ok true st
def loopC (s : Src) (tg : Tg) (own : List Nat) (tt : MT) (elt : MX) (ρ0 : Env) : Nat → Nat → Store → List A → R (List A)
  | 0, _, _, _ => .bad
  | n + 1, i, st, acc => match s.at i st with
    | none => .bad
    | some none => .ok acc st
    | some (some d) => match asgT tg d ρ0 st with
      | none => .bad
      | some ρ1 => match tt ρ1 st with
        | .ok b st1 => if b = true then match elt ρ1 st1 with
            | .ok y st2 => if acc.length < sizeLine then loopC s tg own tt elt ρ0 n (i + 1) st2 (acc ++ [y]) else .bad
            | _ => .bad else loopC s tg own tt elt ρ0 n (i + 1) st1 acc
        | _ => .bad
def mLc (mi : Env → Store → R Src) (tg : Tg) (own : List Nat) (tt : MT) (elt : MX) : MX := fun ρ st => (mi ρ st).bind fun s st1 => (loopC s tg own tt elt (wipeA ρ own) (s.size st1 + 1) 0 st1 []).bind fun xs st2 => .ok (.ref st2.length) (st2 ++ [.lst xs])
abbrev W0 : WX := fun _ _ _ _ => False
theorem wipe_get {σ : L2.St} {j : Nat} : ∀ {vs : List Nat}, (wipe σ vs)[j]? = if j ∈ vs then σ[j]?.map (fun _ => none) else σ[j]?
  | [] => by simp [wipe]
  | v :: vs => by
    unfold wipe
    by_cases e : v = j
    · subst e
      rw [List.getElem?_set_self', wipe_get (vs := vs)]
      simp only [List.mem_cons, true_or, if_true]
      split <;> cases σ[v]? <;> rfl
    · rw [List.getElem?_set_ne e, wipe_get (vs := vs)]
      have : (j ∈ v :: vs) ↔ j ∈ vs := by simp [show ¬ j = v from fun z => e z.symm]
      simp only [this]
theorem setsV_get {j : Nat} : ∀ {is : List Nat} {xs : List V} {σ : L2.St}, j ∉ is → (setsV σ is xs)[j]? = σ[j]?
  | [], _, _, _ => by unfold setsV; rfl
  | _ :: _, [], _, _ => by unfold setsV; rfl
  | i :: is, x :: xs, σ, h => by
    unfold setsV
    rw [setsV_get fun z => h (List.mem_cons_of_mem _ z), List.getElem?_set_ne fun z => h (by rw [z]; exact List.mem_cons_self)]
theorem setsV_len : ∀ {is : List Nat} {xs : List V} {σ : L2.St}, (setsV σ is xs).length = σ.length
  | [], _, _ => by unfold setsV; rfl
  | _ :: _, [], _ => by unfold setsV; rfl
  | i :: is, x :: xs, σ => by
    unfold setsV
    rw [setsV_len, List.length_set]
theorem wipe_sets {σ : L2.St} {own is : List Nat} {xs : List V} (h : ∀ i ∈ is, i ∈ own) : wipe (setsV (wipe σ own) is xs) own = wipe σ own := by
  refine List.ext_getElem? fun j => ?_
  rw [wipe_get]
  by_cases c : j ∈ own
  · rw [if_pos c, wipe_get, if_pos c]
    by_cases l : j < σ.length
    · rw [List.getElem?_eq_getElem l, List.getElem?_eq_getElem (by rw [setsV_len, wipe_length]; exact l)]
      rfl
    · have e1 : σ[j]? = none := List.getElem?_eq_none (by omega)
      have e2 : (setsV (wipe σ own) is xs)[j]? = none := List.getElem?_eq_none (by rw [setsV_len, wipe_length]; omega)
      rw [e1, e2]
  · rw [if_neg c, setsV_get fun z => c (h j z)]
theorem lc_ok {wk : Bool} {mi : Env → Store → R Src} {T : Tg} {own : List Nat} {tt : MT} {me : MX} {σ : L2.St} {H : Hp} {Q : VK} (hw : wk = false ∨ T.isOne = false) (ho : ∀ i ∈ T.slots, i ∈ own) (h : tE X W (mLc mi T own tt me) σ H Q) : tLc (tG X.K X.w X.mg (SimB X.K X.w X.mg wk) W mi) (gOf X.K T) (tT X W0 tt) (tE X W0 me) own σ H Q := by
  obtain ⟨φ, ρ, st, rs, re, h⟩ := h
  refine ⟨φ, ρ, st, rs, re, h.seq fun φ1 s J H1 st1 e1 rs1 sim h1 => fun D hD => ?_⟩
  have re1 := (re.ext e1).wipe own
  have nD1 : D ∉ φ1 := rs1.notin hD
  have fin : ∀ {φ2 : List Addr} {H2 : Hp} {st2 : Store} {vs : List V} {as : List A}, Ext φ1 H1 φ2 H2 → D ∉ φ2 → H2 D = some (.lst vs) → RS X.K X.w X.mg φ2 H2 st2 → RVs X.K φ2 H2 vs as →
      Ext φ1 H1 (φ2 ++ [D]) H2 ∧ RS X.K X.w X.mg (φ2 ++ [D]) H2 (st2 ++ [.lst as]) := fun {φ2 H2 st2 vs as} ex nD hv rs2 rv => by
    have e0 : Ext φ1 H1 (φ2 ++ [D]) H2 := by
      obtain ⟨⟨t, rfl⟩, f, fz⟩ := ex
      refine ⟨⟨t ++ [D], by simp⟩, fun a o n q => ?_, fz⟩
      obtain ⟨q1, q2⟩ := f a o n q
      refine ⟨q1, fun z => ?_⟩
      rcases List.mem_append.mp z with z | z
      · exact q2 z
      · have : a = D := by simpa using z
        subst this
        rw [hD] at q
        cases q
    -- data over the longer φ
    have up : ∀ {v : V} {d : A}, RV X.K φ2 H2 v d → RV X.K (φ2 ++ [D]) H2 v d := fun {v d} r => by
      have hst : ∀ {a xs}, StT X.K φ2 H2 a xs → StT X.K (φ2 ++ [D]) H2 a xs := fun {a xs} q => by
        rcases q with ⟨q, n⟩ | q
        · refine .inl ⟨q, fun z => ?_⟩
          rcases List.mem_append.mp z with z | z
          · exact n z
          · have : a = D := by simpa using z
            subst this
            obtain ⟨o, _, q⟩ := q
            rw [hv] at q
            cases q
        · exact .inr q
      have hsl : ∀ {a xs}, StL X.K φ2 H2 a xs → StL X.K (φ2 ++ [D]) H2 a xs := fun {a xs} q => by
        rcases q with ⟨⟨o, q⟩, n⟩ | q
        · refine .inl ⟨⟨o, q⟩, fun z => ?_⟩
          rcases List.mem_append.mp z with z | z
          · exact n z
          · have : a = D := by simpa using z
            subst this
            rw [hv] at q
            cases q
        · exact .inr q
      exact RV.rec (motive_1 := fun v d _ => RV X.K (φ2 ++ [D]) H2 v d) (motive_2 := fun vs ds _ => RVs X.K (φ2 ++ [D]) H2 vs ds) .non .bl .int .str (fun q _ ih => .tup (hst q) ih) (fun q _ ih => .scr (hsl q) ih)
        (fun {a i} q => .ref (by rw [List.getElem?_append_left (List.getElem?_eq_some_iff.mp q).1]; exact q)) .nil (fun _ _ a b => .cons a b) r
    have ups : ∀ {vs : List V} {ds : List A}, RVs X.K φ2 H2 vs ds → RVs X.K (φ2 ++ [D]) H2 vs ds := fun {vs ds} r => by
      induction vs generalizing ds with
      | nil => cases r; exact .nil
      | cons v vs ih =>
        cases r with
        | cons h q => exact .cons (up h) (ih q)
    refine ⟨e0, by simp [rs2.len], ?_, fun i a o h1 h2 => ?_⟩
    · rw [List.nodup_append]
      refine ⟨rs2.nd, by simp, fun a ha b hb z => ?_⟩
      have : b = D := by simpa using hb
      subst this
      subst z
      exact nD ha
    · by_cases hi : i < φ2.length
      · rw [List.getElem?_append_left hi] at h1
        rw [List.getElem?_append_left (by rw [← rs2.len]; exact hi)] at h2
        have h3 := rs2.all i a o h1 h2
        cases o with
        | oth u => exact RO2.map (fun _ _ => up) (fun _ _ => ups) rfl (fun dx o n q nl => ⟨q, fun z => (List.mem_append.mp z).elim n fun z => by
            have z : dx = D := by simpa using z
            rw [z, hv] at q
            exact nl _ (Option.some.inj q).symm⟩) h3
        | lst ds' =>
          obtain ⟨ys, y1, y2⟩ := h3
          exact ⟨ys, y1, ups y2⟩
      · have hi2 : i = φ2.length := by
          have := (List.getElem?_eq_some_iff.mp h1).1
          rw [List.length_append, List.length_singleton] at this
          omega
        subst hi2
        rw [List.getElem?_append_right (Nat.le_refl _)] at h1
        rw [List.getElem?_append_right (by rw [rs2.len]; exact Nat.le_refl _)] at h2
        simp at h1
        rw [rs2.len] at h2
        simp at h2
        subst h1
        subst h2
        exact ⟨vs, hv, ups rv⟩
  refine ⟨fun i m H2 => ∃ φ2 st2 vs as, Ext φ1 H1 φ2 H2 ∧ D ∉ φ2 ∧ H2 D = some (.lst vs) ∧ RS X.K X.w X.mg φ2 H2 st2 ∧ RVs X.K φ2 H2 vs as ∧
    Pst X.K X.w X.mg (RV X.K) (fun c d H' => W c d σ H') φ1 H1 ((loopC s T own tt me (wipeA ρ own) m i st2 as).bind fun xs st2 => .ok (.ref st2.length) (st2 ++ [.lst xs])) Q,
    ⟨_, φ1, st1, [], [], ext_new hD, nD1, upd_same, rs1.new hD, .nil, h1⟩, ?_⟩
  rintro i m H2 ⟨φ2, st2, vs, as, ex, nD, hv, rs2, rv2, h2⟩
  cases m with
  | zero => exact h2.elim
  | succ m =>
    unfold loopC at h2
    cases q : s.at i st2 with
    | none => simp only [q] at h2; exact h2.elim
    | some o =>
      cases o with
      | none =>
        simp only [q] at h2
        obtain ⟨e0, rs3⟩ := fin ex nD hv rs2 rv2
        exact .inl ⟨sim.stop i φ2 H2 st2 ex rs2 q, h2 _ _ _ e0 rs3 (.newLst rs2)⟩
      | some d =>
        simp only [q] at h2
        cases q2 : asgT T d (wipeA ρ own) st2 with
        | none => simp only [q2] at h2; exact h2.elim
        | some ρ1 =>
          simp only [q2] at h2
          obtain ⟨g1, g2⟩ := sim.go i φ2 H2 st2 d ex rs2 q
          refine .inr ⟨g1, fun H' => ∃ φ2 st2 vs as, Ext φ1 H1 φ2 H' ∧ D ∉ φ2 ∧ H' D = some (.lst vs) ∧ RS X.K X.w X.mg φ2 H' st2 ∧ RVs X.K φ2 H' vs as ∧
            Pst X.K X.w X.mg (RV X.K) (fun c d H' => W c d σ H') φ1 H1 ((loopC s T own tt me (wipeA ρ own) m (i + 1) st2 as).bind fun xs st2 => .ok (.ref st2.length) (st2 ++ [.lst xs])) Q, fun H' w => ⟨m, Nat.lt_succ_self m, w⟩, fun x H' y => ?_⟩
          obtain ⟨ex2, rs3, rv3⟩ := g2 x H' y
          obtain ⟨hv', nD'⟩ := ex2.fr D _ nD hv
          refine gOf_runB hw rv3 ((re1.ext ex).ext ex2) q2 fun xs re2 => ⟨wipe_sets ho, φ2, ρ1, st2, rs3, re2, ?_⟩
          cases q3 : tt ρ1 st2 with
          | bad => simp only [q3] at h2; exact h2.elim
          | er z st3 => simp only [q3] at h2; exact h2.elim
          | ok b st3 =>
            simp only [q3] at h2
            intro φ3 b' H3 ex3 rs4 eb
            subst eb
            obtain ⟨hv3, nD3⟩ := ex3.fr D _ nD' hv'
            have exs := (ex.trans ex2).trans ex3
            cases b' with
            | false =>
              simp only [Bool.false_eq_true, if_false] at h2
              exact iteF ⟨φ3, st3, vs, as, exs, nD3, hv3, rs4, (rv2.ext ex2).ext ex3, h2⟩
            | true =>
              simp only [if_true] at h2
              refine iteT ⟨φ3, ρ1, st3, rs4, re2.ext ex3, ?_⟩
              cases q4 : me ρ1 st3 with
              | bad => simp only [q4] at h2; exact h2.elim
              | er z st4 => simp only [q4] at h2; exact h2.elim
              | ok d4 st4 =>
                simp only [q4] at h2
                intro φ4 v4 H4 ex4 rs5 rv4
                obtain ⟨hv4, nD4⟩ := ex4.fr D _ nD3 hv3
                by_cases hz : as.length < sizeLine
                · rw [if_pos hz] at h2
                  have e5 : Ext φ4 H4 φ4 (upd H4 D (.lst (vs ++ [v4]))) → True := fun _ => trivial
                  have e6 : Ext φ1 H1 φ4 (upd H4 D (.lst (vs ++ [v4]))) := ⟨(exs.trans ex4).pre, fun a o n q => by
                    obtain ⟨y1, y2⟩ := (exs.trans ex4).fr a o n q
                    exact ⟨by rw [upd_ne (ne_of_none q hD)]; exact y1, y2⟩, fun a o u q => by rw [upd_ne (ne_of_none q hD)]; exact (exs.trans ex4).fz _ _ _ q⟩
                  -- data of H4 over the heap where D has grown
                  have hst : ∀ {a ys}, StT X.K φ4 H4 a ys → StT X.K φ4 (upd H4 D (.lst (vs ++ [v4]))) a ys := fun {a ys} q => by
                    rcases q with ⟨q, n⟩ | q
                    · obtain ⟨o, hd, q⟩ := q
                      have na : a ≠ D := fun z => by
                        subst z
                        rw [hv4] at q
                        cases q
                      exact .inl ⟨⟨o, hd, by rw [upd_ne na]; exact q⟩, n⟩
                    · exact .inr q
                  have hsl : ∀ {a ys}, StL X.K φ4 H4 a ys → StL X.K φ4 (upd H4 D (.lst (vs ++ [v4]))) a ys := fun {a ys} q => by
                    rcases q with ⟨⟨o, q⟩, n⟩ | q
                    · have na : a ≠ D := fun z => by
                        subst z
                        rw [hv4] at q
                        cases q
                      exact .inl ⟨⟨o, by rw [upd_ne na]; exact q⟩, n⟩
                    · exact .inr q
                  have up : ∀ {v : V} {d : A}, RV X.K φ4 H4 v d → RV X.K φ4 (upd H4 D (.lst (vs ++ [v4]))) v d := fun {v d} r =>
                    RV.rec (motive_1 := fun v d _ => RV X.K φ4 (upd H4 D (.lst (vs ++ [v4]))) v d) (motive_2 := fun vs' ds _ => RVs X.K φ4 (upd H4 D (.lst (vs ++ [v4]))) vs' ds) .non .bl .int .str (fun q _ ih => .tup (hst q) ih) (fun q _ ih => .scr (hsl q) ih)
                      (fun q => .ref q) .nil (fun _ _ a b => .cons a b) r
                  have ups : ∀ {ws : List V} {ds : List A}, RVs X.K φ4 H4 ws ds → RVs X.K φ4 (upd H4 D (.lst (vs ++ [v4]))) ws ds := fun {ws ds} r => by
                    induction ws generalizing ds with
                    | nil => cases r; exact .nil
                    | cons v ws ih =>
                      cases r with
                      | cons h q => exact .cons (up h) (ih q)
                  have rs6 : RS X.K X.w X.mg φ4 (upd H4 D (.lst (vs ++ [v4]))) st4 := ⟨rs5.len, rs5.nd, fun j a o k1 k2 => by
                    have k3 := rs5.all j a o k1 k2
                    have na : a ≠ D := fun z => nD4 (z ▸ List.mem_of_getElem? k1)
                    cases o with
                    | oth u => exact RO2.map (fun _ _ => up) (fun _ _ => ups) (upd_ne na) (fun dx o n q nl => ⟨by
                        rw [upd_ne (fun z => by rw [z, hv4] at q; exact nl _ (Option.some.inj q).symm)]
                        exact q, n⟩) k3
                    | lst ds' =>
                      obtain ⟨ys, y1, y2⟩ := k3
                      exact ⟨ys, by rw [upd_ne na]; exact y1, ups y2⟩⟩
                  exact ⟨vs, hv4, by rw [rv2.length]; exact hz, φ4, st4, _, as ++ [d4], e6, nD4, upd_same, rs6, ups ((((rv2.ext ex2).ext ex3).ext ex4).app (.cons rv4 .nil)), h2⟩
                · rw [if_neg hz] at h2
                  exact h2.elim
theorem mts_nil {X : Cx} : PTs X [] (tT X W0 mYes) := ⟨fun pins s σ H Q I ⟨φ, ρ, st, rs, re, h⟩ => pts_nil.run pins s σ H Q I (h.ok rs rfl)⟩
theorem mts_one {X : Cx} {c : Expr} {t : MT} (h : PT X c (tT X W0 t)) : PTs X [c] (tT X W0 t) := pts_one h
theorem me_lc {elt iter : Expr} {ifs : List Expr} {scope : Scope} (own : List (Str × Nat)) {wk : Bool} {mi : Env → Store → R Src} {T : Tg} {tt : MT} {me : MX} (hN : X.N.Nodup) (hi : PI X tg iter (tG X.K X.w X.mg (SimB X.K X.w X.mg wk) W mi)) (ok : BlkOk X.N X.env.scope scope own)
    (hg : ∀ (s : Shared) (H : Hp) (C : Addr) (cl : List (Str × Addr)) (fp : List Addr), PG (X.blk s H scope (compEnvC scope cl C X.env) fp) tg (gOf X.K T)) (ht : ∀ (s : Shared) (H : Hp) (C : Addr) (cl : List (Str × Addr)) (fp : List Addr), PTs (X.blk s H scope (compEnvC scope cl C X.env) fp) ifs (tT (X.blk s H scope (compEnvC scope cl C X.env) fp) W0 tt))
    (he : ∀ (s : Shared) (H : Hp) (C : Addr) (cl : List (Str × Addr)) (fp : List Addr), PE (X.blk s H scope (compEnvC scope cl C X.env) fp) elt (tE (X.blk s H scope (compEnvC scope cl C X.env) fp) W0 me)) (hc : X.calm = true := by rfl) (hs : ∀ x, foldedSetIterable iter X.env x = pure x := by intro _; rfl)
    (ho : ∀ i ∈ T.slots, i ∈ own.map (·.2) := by decide) (hw : wk = false ∨ T.isOne = false := by first | exact Or.inl rfl | exact Or.inr rfl) : PE X (.ListComp elt [⟨tg, iter, ifs, 0⟩] scope pos) (tE X W (mLc mi T (own.map (·.2)) tt me)) :=
  (pe_lc hc hN hi ok hg ht he hs).imp fun _ _ _ h => lc_ok hw ho h
theorem ms_setLc {i : Nat} {y : Str} {py : Pos} {spos : Pos} {elt iter : Expr} {ifs : List Expr} {scope : Scope} (own : List (Str × Nat)) {wk : Bool} {mi : Env → Store → R Src} {T : Tg} {tt : MT} {me : MX} (hN : X.N.Nodup) (hsw : swapsWith (.ListComp elt [⟨tg, iter, ifs, 0⟩] scope pos) (some (.Name y py)) spos.line X.env = pure true) (hi : PI X tg iter (tG X.K X.w X.mg (SimB X.K X.w X.mg wk) W mi)) (ok : BlkOk X.N X.env.scope scope own)
    (hg : ∀ (s : Shared) (H : Hp) (C : Addr) (cl : List (Str × Addr)) (fp : List Addr), PG (X.blk s H scope (compEnvC scope cl C X.env) fp) tg (gOf X.K T)) (ht : ∀ (s : Shared) (H : Hp) (C : Addr) (cl : List (Str × Addr)) (fp : List Addr), PTs (X.blk s H scope (compEnvC scope cl C X.env) fp) ifs (tT (X.blk s H scope (compEnvC scope cl C X.env) fp) W0 tt))
    (he : ∀ (s : Shared) (H : Hp) (C : Addr) (cl : List (Str × Addr)) (fp : List Addr), PE (X.blk s H scope (compEnvC scope cl C X.env) fp) elt (tE (X.blk s H scope (compEnvC scope cl C X.env) fp) W0 me)) (hy : X.N[i]? = some y := by rfl) (hyl : X.env.scope.names.lookup y = some .local := by rfl) (hc : X.calm = true := by rfl) (hs : ∀ x, foldedSetIterable iter X.env x = pure x := by intro _; rfl)
    (ho : ∀ i ∈ T.slots, i ∈ own.map (·.2) := by decide) (hw : wk = false ∨ T.isOne = false := by first | exact Or.inl rfl | exact Or.inr rfl) : PS X (.Assign [.Name y py] (.ListComp elt [⟨tg, iter, ifs, 0⟩] scope pos) spos) (tS X W (mSet i (mLc mi T (own.map (·.2)) tt me))) := by
  refine (ps_setLc (te := tE X W0 me) (tt := tT X W0 tt) hc hN hy hyl hsw hi ok hg ht he hs).imp fun D σ H h => ?_
  have h2 := set_ok h
  exact lc_ok hw ho h2
end
/-! ### defs -/
def mFn (N np : Nat) (body : MS) : MF := fun as st => if as.length = np then match body (as.map some ++ List.replicate (N - np) none) st with
  | .nx _ st' => .ok .non st'
  | .rt a st' => .ok a st'
  | .er e _ st' => .er e st'
  | _ => .bad else .bad
section
variable {P : Program} {w : World} {K : PySem.W.Frag} {mg : Str → Option Value} {base : Heap}
theorem RE.start {φ : List Addr} {H : Hp} {vs : List V} {as : List A} (q : RVs K φ H vs as) (n : Nat) : RE K φ H (vs.map some ++ List.replicate n none) (as.map some ++ List.replicate n none) := ⟨by simp [q.length], fun i d h => by
  by_cases hi : i < as.length
  · rw [List.getElem?_append_left (by simpa using hi), List.getElem?_map] at h
    cases e : as[i]? with
    | none => rw [e] at h; cases h
    | some d' =>
      rw [e] at h
      cases h
      obtain ⟨v, h1, h2⟩ := q.get e
      exact ⟨v, by rw [List.getElem?_append_left (by simp [q.length, hi]), List.getElem?_map, h1]; rfl, h2⟩
  · rw [List.getElem?_append_right (by simpa using Nat.le_of_not_lt hi), List.getElem?_replicate] at h
    split at h <;> cases h⟩
theorem fn_ok {x qual : Str} {st : Stmt} {f : Addr} {fd : FuncData} {N ps : List Str} {k : Nat} {body : MS} (F : Fun K x qual st f fd) (S : FnScope N ps (defScope st))
    (hb : ∀ (cdv : Value) (A : Around) (outer : List PySem.Env) (s : Shared) (H : Hp) (E : XK), Room k (A.deeper (PyProof.Rows.envOfC qual (defScope st) s.heap.objs.size f cdv)) →
      PSs (cxOf (L2.CX P w) P w K mg base N qual (defScope st) f cdv A outer s H E) (defBody st) (tS (cxOf (L2.CX P w) P w K mg base N qual (defScope st) f cdv A outer s H E) (fun c d _ H' => E c d H') body)) :
    FnOk P w K mg base (L2.CX P w) (k + 1) f fd ps (spM K w mg (mFn N.length ps.length body)) := by
  have len : ∀ vs H Q E, spM K w mg (mFn N.length ps.length body) vs H Q E → vs.length = ps.length := fun vs H Q E ⟨φ, as, st, rs, rv, h⟩ => by
    unfold mFn at h
    split at h
    · rename_i hl
      rw [rv.length]
      exact hl
    · exact h.elim
  refine F.okX S len fun cdv A outer s H vs Q E hr h => ⟨_, hb cdv A outer s H E hr, ?_⟩
  obtain ⟨φ, as, st, rs, rv, h⟩ := h
  unfold mFn at h
  split at h
  · rename_i hl
    have hl2 : vs.length = ps.length := by rw [rv.length]; exact hl
    refine ⟨φ, as.map some ++ List.replicate (N.length - ps.length) none, st, rs, ?_, ?_⟩
    · unfold L2.start
      rw [hl2]
      exact RE.start rv _
    · cases e : body (as.map some ++ List.replicate (N.length - ps.length) none) st with
      | nx ρ st' => rw [e] at h; exact fun φ' σ' H' ex rs' re' => h φ' .non H' ex rs' .non
      | rt a st' => rw [e] at h; exact fun φ' v H' ex rs' rv' => h φ' v H' ex rs' rv'
      | er x ρ st' => rw [e] at h; exact fun φ' c d σ' H' ex rs' re' rx => h φ' c d H' ex rs' rx
      | bk ρ st' => rw [e] at h; exact h.elim
      | ct ρ st' => rw [e] at h; exact h.elim
      | bad => rw [e] at h; exact h.elim
  · exact h.elim
/-- a def as the top has left it -/
structure GF (K : PySem.W.Frag) (mg : Str → Option Value) (x : Str) (st : Stmt) (ps : List Str) : Prop where
  ex : ∃ (f : Addr) (fd : FuncData), mg x = some (.ref f) ∧ Fun K x x st f fd ∧ Binds K fd ps []
theorem cal_of {x : Str} {st : Stmt} {N ps : List Str} {k : Nat} {body : MS} (G : GF K mg x st ps) (S : FnScope N ps (defScope st))
    (hb : ∀ (f : Addr) (cdv : Value) (A : Around) (outer : List PySem.Env) (s : Shared) (H : Hp) (E : XK), Room k (A.deeper (PyProof.Rows.envOfC x (defScope st) s.heap.objs.size f cdv)) →
      PSs (cxOf (L2.CX P w) P w K mg base N x (defScope st) f cdv A outer s H E) (defBody st) (tS (cxOf (L2.CX P w) P w K mg base N x (defScope st) f cdv A outer s H E) (fun c d _ H' => E c d H') body)) :
    Cal P w K mg base x (k + 1) (mFn N.length ps.length body) := by
  obtain ⟨f, fd, h1, F, b⟩ := G.ex
  exact ⟨f, fd, ps, h1, F.kp, b, fn_ok F S (hb f)⟩
theorem Cal.mono {x : Str} {k j : Nat} {m : MF} (C : Cal P w K mg base x j m) (h : j ≤ k) : Cal P w K mg base x k m := by
  obtain ⟨f, fd, ps, h1, h2, h3, F⟩ := C.ex
  exact ⟨f, fd, ps, h1, h2, h3, F.mono h⟩
theorem takesE {N : List Str} {qual : Str} {sc : Scope} {f : Addr} {cdv : Value} {A : Around} {outer : List PySem.Env} {s : Shared} {H : Hp} {E : XK} : Takes (cxOf (L2.CX P w) P w K mg base N qual sc f cdv A outer s H E) (fun c d _ H' => E c d H') := takes_of rfl rfl rfl rfl
theorem passesE {N : List Str} {qual : Str} {sc : Scope} {f : Addr} {cdv : Value} {A : Around} {outer : List PySem.Env} {s : Shared} {H : Hp} {E : XK} : PassesOwn (model P w) (A.deeper (PyProof.Rows.envOfC qual sc s.heap.objs.size f cdv)) (PyProof.Rows.envOfC qual sc s.heap.objs.size f cdv) (cxOf (L2.CX P w) P w K mg base N qual sc f cdv A outer s H E).xe := passes_of (X := cxOf (L2.CX P w) P w K mg base N qual sc f cdv A outer s H E) rfl
end
end ML
/-! ML5: the end of a law over ML's defs. -/
namespace ML
open PySem PySem.Spec L2
theorem units_ok {k : Nat} {A : Around} (hr : Room k A) : A.units + 64 < cLine := hr.units
section
variable {P : Program} {w : World} {K : PySem.W.Frag} {mg : Str → Option Value} {base : Heap}
theorem cal_bad {x : Str} {st : Stmt} {ps : List Str} {k : Nat} (G : GF K mg x st ps) : Cal P w K mg base x k (fun _ _ => .bad) := by
  obtain ⟨f, fd, h1, F, b⟩ := G.ex
  exact ⟨f, fd, ps, h1, F.kp, b, fun vs H Q E ⟨_, _, _, _, _, h⟩ => h.elim, fun A outer s H args us vs Q E hr e0 hb hv ⟨_, _, _, _, _, h⟩ => h.elim⟩
theorem Cal.cast {x : Str} {j k : Nat} {m : MF} (e : j = k) (C : Cal P w K mg base x j m) : Cal P w K mg base x k m := e ▸ C
/-- what a law promises -/
def spLaw (K : PySem.W.Frag) : Sp := fun vs H Q _ => ∃ (a : Addr) (ns : List Int), vs = [.ref a] ∧ SqL K H a (ns.map V.int) ∧ Only H ∧ ns.length ≤ 63 ∧ (∀ z ∈ ns, Builtin.Int.intBits z ≤ 1048576) ∧ ∀ H', Q (.bl true) H'
def LawTrue (m : MF) : Prop := ∀ ns : List Int, ns.length ≤ 63 → (∀ z ∈ ns, Builtin.Int.intBits z ≤ 1048576) → ∃ st, m [.scr (ns.map A.int)] [] = .ok (.bl true) st
theorem law_imp {m : MF} (hm : LawTrue m) (vs : List V) (H : Hp) (Q : VK) (E : XK) (h : spLaw K vs H Q E) : spM K w mg m vs H Q E := by
  obtain ⟨a, ns, rfl, hs, ho, hl, hb, hq⟩ := h
  obtain ⟨st, he⟩ := hm ns hl hb
  have hq' : StL K [] H a (ns.map V.int) := by
    rcases hs with (h | ⟨o, h⟩) | h
    · rcases ho a with z | ⟨o, xs, z⟩
      · rw [z] at h; cases h
      · rw [z] at h; cases h
    · exact .inl ⟨⟨o, h⟩, by simp⟩
    · exact .inr h
  refine ⟨[], [.scr (ns.map A.int)], [], ⟨rfl, List.nodup_nil, fun i a o h => by simp at h⟩, .cons (.scr hq' (RVs.mkInts ns)) .nil, ?_⟩
  rw [he]
  intro φ' v H' _ _ r
  cases r
  exact hq H'
theorem law_end {l : PySem.W.OpenLaw} {k : Nat} {q : Program} {loose : List Str} {XP : (Str → Option Value) → Heap → Prop} {YP : World → Heap → Prop} {d : DefRec} {K : Params → PySem.W.Frag} {x : Str} {m : MF}
    (hn : l.most = some 63) (hdf : d.params.defaults = []) (hr : Room k callerA)
    (hY : ∀ (w : World) (h : Heap), YP w h → (K w.params).In h) (hm : LawTrue m)
    (F : ∀ (w : World) (mg : Str → Option Value) (fa : Addr) (h : Heap), (K w.params).In h → h.Ns mainGlobals mg → mg d.name = some (.ref fa) →
      ∃ fd : FuncData, (∀ (s : Shared) (u : Value), BindsTo s fd ⟨[u], []⟩ [(x, u)]) ∧ ∀ base : Heap, (K w.params).In base → base.Ns mainGlobals mg → FnOk l.prog w (K w.params) mg base (L2.CX l.prog w) k fa fd [x] (spM (K w.params) w mg m)) :
    PySem.W.WalkO q loose XP YP l.row.toRowW d [] (fun f vs => PySem.call f vs) :=
  L2.walk_ofB (n := 63) (k := k) (x := x) (CX := fun w => L2.CX l.prog w) (sp := fun w => spLaw (K w.params)) hn (by decide) hdf hr hY
    (fun w mg fa h KX G hmg => by
      obtain ⟨fd, hb, hF⟩ := F w mg fa h KX G hmg
      exact ⟨fd, hb, fun base k1 k2 => (hF base k1 k2).imp (law_imp hm)⟩)
    (fun w H a ns hl hb ho hs => ⟨a, ns, rfl, hs, ho, hl, hb, fun _ => rfl⟩)
    (fun w H s e s' h => by obtain ⟨_, _, _, _, _, _, _, _, _, _, _, _, z⟩ := h; exact z)
end
end ML
/-! ML6: an own error whose __init__ says super().__init__('..') and stores one field. -/
namespace PySem
namespace SupX
open PySem.W PySem.Calls PyProof.Rows PySem.HandSPX
def iA (f : Str) (p1 p2 : Pos) : Arguments := { posonlyargs := [], args := [{ arg := "self", annotation := none, pos := p1 }, { arg := f, annotation := none, pos := p2 }], vararg := none, kwonlyargs := [], kw_defaults := [], kwarg := none, defaults := [] }
def iB (f msg : Str) (q0 q1 q2 q3 q4 q5 q6 q7 q8 q9 : Pos) : List Stmt := [.Expr (.Call (.Attribute (.Call (.Name "super" q0) [] [] q1) "__init__" q2) [.Constant (.str msg) 0 q3] [] q4) q5, .Assign [.Attribute (.Name "self" q6) f q7] (.Name f q8) q9]
def iS (f : Str) : Scope := { kind := .function, names := [(PySem.Str.ofString "self", .local), (f, .local), (PySem.Str.ofString "__class__", .free), (PySem.Str.ofString "super", .globalImplicit)], isGenerator := false, isCoroutine := false, more := [] }
abbrev FldOk (f : Str) : Prop := f = "place" ∨ f = "count"
/-- what the written part says of the class, at C, and of its __init__, at fI -/
structure SupTxt (prog : Program) (K : Frag) (mg : Str → Option Value) (x f msg : Str) (C fI : Addr) : Prop where
  fok : FldOk f
  gC : mg x = some (.ref C)
  cls : ∃ nm q N bs bm sn sub ab col dd k0 k1 k2 k3 k5, K.lookup C = some (excClassObj nm q C N bs bm true sn sub ab col dd k0 k1 k2 k3 k5 "ValueError.__new__") ∧ refsVE bm = true
  sa : findIn K (.ref C) "__setattr__" = some (some (.builtin "object.__setattr__"))
  ga : findIn K (.ref C) "__getattribute__" = some (some (.builtin "BaseException.__getattribute__"))
  gg : findIn K (.ref C) "__getattr__" = some none
  noN : findIn K (.ref C) f = some none
  iC : findIn K (.ref C) "__init__" = some (some (.ref fI))
  tC : typeIn K (.ref fI) = some (.type "function")
  kC : keepIn K (.ref C) = true
  exC : subIn K (.ref C) (.type "BaseException") = some true
  tyC : typeIn K (.ref C) = some (.type "type")
  hdC : hasDictIn K C = true
  sup : ks_superIn K C C "__init__" = some (some (.builtin "ValueError.__init__"))
  veC : subIn K (.ref C) (.type "ValueError") = some true
  slf : mroIn K C (.ref C) = some true
  third : nsIn K cStatics "thirdparty.any" = some none
  nosup : mg "super" = none
  top : (prog.main.scope.names.lookup ("super" : Str)).isSome = false
  fn : ∃ (oc : Value) (od : Option Addr) (doc pm ct : Value) (an : Option Addr) (cda cc : Addr) (osl : Array (Option Value)) (q : Str) (p1 p2 q0 q1 q2 q3 q4 q5 q6 q7 q8 q9 : Pos),
    K.lookup fI = some ⟨oc, od, .func (ksFn "__init__" q (iA f p1 p2) (iB f msg q0 q1 q2 q3 q4 q5 q6 q7 q8 q9) (iS f) .none .none doc pm an (.ref cda) ct cc), osl⟩ ∧ codeIn K (.ref cda) q = true ∧
    (∀ env : Env, ∃ pl : Sem Bool, eval (.Call (.Attribute (.Call (.Name "super" q0) [] [] q1) "__init__" q2) [.Constant (.str msg) 0 q3] [] q4) env = (do
      let ov ← attributeBase (.Call (.Name "super" q0) [] [] q1) "__init__" env (eval (.Call (.Name "super" q0) [] [] q1) env)
      standAt q2.atName
      let (g, first) ← holding [ov] (getMethod ov "__init__" pl)
      callWith q4 g first (backTo q4 (starEach [.Constant (.str msg) 0 q3] env)) [])) ∧
    (∃ cl cld csl, K.lookup cc = some ⟨cl, cld, .cell (some (.ref C)), csl⟩) ∧
    ∃ ccl cdd vs ccs file tf, K.lookup cda = some ⟨ccl, cdd, .fields vs, ccs⟩ ∧ vs[2]? = some (.str file tf) ∧ ((prog.main.file : Str) == file) = true
theorem one_size (v : Value) : [v].length ≤ sizeLine := by
  rw [sizeLine_eq]
  exact (by decide : 1 ≤ 16777216)
/-- what __init__ leaves of a fresh exception at x -/
structure InitEnd (f : Str) (h h' : Heap) (x C dx t1 : Addr) (v : Value) : Prop where
  keep : ∀ b o, b ≠ x → h.get? b = some o → h'.get? b = some o
  obj : h'.get? x = some { cls := .ref C, dict := some dx, data := .fields #[.ref t1, .none, .none, .none, .bool false, .none] }
  dbig : h.objs.size ≤ dx
  dne : dx ≠ x
  ns : h'.Ns1 dx (fun y => if y = f then some v else none)
/-- a made error -/
structure OwnMade (f : Str) (h h' : Heap) (e C d : Addr) (v : Value) : Prop where
  keep : ∀ b o, h.get? b = some o → h'.get? b = some o
  new : h.objs.size ≤ e
  obj : ∃ oe vs, h'.get? e = some oe ∧ oe.cls = .ref C ∧ oe.dict = some d ∧ oe.data = .fields vs ∧ vs[1]? = some .none
  dbig : h.objs.size ≤ d
  dne : d ≠ e
  ns : h'.Ns1 d (fun y => if y = f then some v else none)
section
variable {prog : Program} {w : World} {A : Around} {E : Value → Shared → Prop} {R : Result → Shared → Prop} {s : Shared} {K : Frag} {mg : Str → Option Value} {x : Str} {f msg : Str} {C fI : Addr}
theorem call_mw {h : Heap} {g : Array GenState} {d : Drawn} {t : Nat} {os : OsState} {nm q : Str} {N : Addr} {bs bm : List Value} {hdct : Bool} {sn : List Str} {sub : List Value} {ab : Bool} {col : Option Bool} {dd : Option Addr} {k0 k1 k2 k3 k5 : Option Value} {u e t0 : Addr} {rest : List Value} {Q : Value → Shared → Prop}
    (hC : h.get? C = some (excClassObj nm q C N bs bm hdct sn sub ab col dd k0 k1 k2 k3 k5 "ValueError.__new__")) (he : h.get? e = some (HandSPX.excO C t0)) (hu : h.get? u = some (kxs_mw "ValueError.__init__" e)) (hrest : rest.length ≤ sizeLine)
    (hq : ∀ h' t1, (∀ b o, b ≠ e → h.get? b = some o → h'.get? b = some o) → h'.get? e = some (HandSPX.excO C t1) → Q .none ⟨h', g, d, t, os⟩) :
    wpAny (model prog w) A (call (.ref u) rest) Q E ⟨h, g, d, t, os⟩ := by
  refine wpAny_call (codeAny_of_tree ?_)
  show wpAny _ A.in1 (callAny (.ref u) ⟨rest, []⟩) _ _ _
  simp only [callAny]
  refine wpAny_bind (wpAny_load hu ?_)
  simp only [kxs_mw, show (Value.type "method-wrapper" == Value.type "method" || Value.type "method-wrapper" == Value.type "builtin_function_or_method" || Value.type "method-wrapper" == Value.type "method-wrapper") = true by decide, if_true]
  refine KFB.if_so (by decide) ?_
  refine wpAny_bind (check_bound_init F.excBase_ValueError.toExcCallFacts hC he rfl ?_)
  refine wpAny_bind (wpAny_pure (wpAny_pure ?_))
  refine ⟨plainId_quiet F.excBase_ValueError.init.plain _, codeAny_builtin F.excBase_ValueError.initEntry ?_⟩
  wp_walk
  refine hq _ h.objs.size (fun b o hb ho => ?_) ?_
  · rw [Heap.get?_update_other _ _ (Ne.symm hb)]
    exact Heap.get?_push_of_some _ ho
  · rw [Heap.get?_update_self _ (Heap.get?_push_of_some _ he) rfl]
    rfl
theorem sup_initG (T : SupTxt prog K mg x f msg C fI) {e t0 : Addr} {v : Value} (X : K.In s.heap) (G : s.heap.Ns mainGlobals mg) (B : ∃ mb, s.heap.Ns builtinsNs mb ∧ mb "super" = some (.type "super")) (hlim : s.heap.NoLimit) (hx : s.heap.get? e = some (excO C t0)) (hnx : K.lookup e = none) (hroom : A.depth < recursionLimit)
    (hl1 : (iS f).names.lookup ("super" : Str) = some .globalImplicit) (hl2 : (iS f).names.lookup ("__class__" : Str) = some .free) (hl3 : (iS f).names.lookup ("self" : Str) = some .local) (hl4 : (iS f).names.lookup f = some .local) (hl5 : ∀ y ∈ (iS f).names, y.2 ≠ .cell) (hb1 : ([((f : Str), v), (("self" : Str), Value.ref e)] : List (Str × Value)).lookup ("self" : Str) = some (.ref e)) (hb2 : ([((f : Str), v), (("self" : Str), Value.ref e)] : List (Str × Value)).lookup f = some v) (hdb : (f == ("__debug__" : Str)) = false)
    (hbt : ∀ (q : Str) (body : List Stmt) (doc pm ct : Value) (an : Option Addr) (cda cc : Addr) (p1 p2 : Pos), BindsTo s (ksFn "__init__" q (iA f p1 p2) body (iS f) .none .none doc pm an (.ref cda) ct cc) ⟨[.ref e, v], []⟩ [("self", .ref e), (f, v)])
    (hq : ∀ h' tk dx t1, InitEnd f s.heap h' e C dx t1 v → R (.ok (.ret .none)) { s with heap := h', toks := tk }) :
    codeAny (model prog w) A (.call (.ref fI) ⟨[.ref e, v], []⟩) R s := by
  obtain ⟨oc, od, doc, pm, ct, an, cda, cc, osl, q, p1, p2, q0, q1, q2, q3, q4, q5, q6, q7, q8, q9, ho, hcd, hev, ⟨cl, cld, csl, hcell⟩, ccl, cdd, vs, ccs, file, tf, hcode, hvs, hfile⟩ := T.fn
  obtain ⟨nm, qn, N, bs, bm, sn, sub, ab, col, dd, k0, k1, k2, k3, k5, hC, hbm⟩ := T.cls
  have hcl : clsIn K C = some { name := nm, bases := bs, mro := .ref C :: bm, ns := N, qualname := qn, hasDict := true, slotNames := sn, subclasses := sub, abstract := ab, collection := col, hasDel := false } := by unfold clsIn; rw [hC] <;> rfl
  obtain ⟨mb, hB, hBs⟩ := B
  have hsuper : alongIn K "__init__" ((((Value.ref C :: bm : List Value)).dropWhile (· != .ref C)).drop 1) = some (some (.builtin "ValueError.__init__")) := by
    have := T.sup
    unfold ks_superIn at this
    rw [hcl] at this
    exact this
  refine ks_codeAny_call_defAt (fd := ksFn "__init__" q (iA f p1 p2) (iB f msg q0 q1 q2 q3 q4 q5 q6 q7 q8 q9) (iS f) .none .none doc pm an (.ref cda) ct cc) (body := iB f msg q0 q1 q2 q3 q4 q5 q6 q7 q8 q9) (binds := [("self", .ref e), (f, v)]) hroom (X _ _ ho) rfl hlim (codeRec_of X hcd) rfl (hbt _ _ _ _ _ _ _ _ p1 p2) hl5 (fun y hy => by
      rcases List.mem_cons.mp hy with rfl | hy
      · exact hl3
      · rcases List.mem_cons.mp hy with rfl | hy
        · exact hl4
        · cases hy) (fun h₁ hns k => ?_)
  have hxL : s.heap.objs.size ≠ e := Nat.ne_of_gt (Heap.lt_size hx)
  have X₁ : K.In h₁ := X.keeps k
  have hx₁ := k _ _ hx
  have hns' : h₁.Ns s.heap.objs.size (fun y => ([((f : Str), v), (("self" : Str), Value.ref e)] : List (Str × Value)).lookup y) := hns
  change PySem.wpAt (model prog w) _ (.func (iB f msg q0 q1 q2 q3 q4 q5 q6 q7 q8 q9) (ksEnv q (iS f) s.heap.objs.size fI (.ref cda) cc)) (execs (iB f msg q0 q1 q2 q3 q4 q5 q6 q7 q8 q9) (ksEnv q (iS f) s.heap.objs.size fI (.ref cda) cc)) _ _ _
  obtain ⟨pl, hev⟩ := hev (ksEnv q (iS f) s.heap.objs.size fI (.ref cda) cc)
  refine ks_wpAt_execs_cons (ks_wpAt_Expr_any (ks_wpAt_MethodCall (pl := pl) ?_ hev))
  refine ks_wpAt_super_base (env := ksEnv q (iS f) s.heap.objs.size fI (.ref cda) cc) hl1 hl2 rfl rfl (X₁ _ _ ho) rfl rfl rfl (X₁ _ _ hcode) rfl hvs hfile T.top ?_
  refine ks_loadName_global rfl hl1 (loadGlobal_builtin (env := ksEnv q (iS f) s.heap.objs.size fI (.ref cda) cc) (G.keeps k) T.nosup (hB.keeps k) hBs ⟨rfl, ?_⟩)
  refine wpAny_loadName_free rfl hl2 rfl ⟨_, X₁ _ _ hcell, rfl⟩ ?_
  refine wpAny_loadName_local rfl hl3 hns' hb1 ?_
  obtain ⟨oD, hD1, hD2⟩ : ∃ oD, h₁.get? C = some oD ∧ oD.data = .cls { name := nm, bases := bs, mro := .ref C :: bm, ns := N, qualname := qn, hasDict := true, slotNames := sn, subclasses := sub, abstract := ab, collection := col, hasDel := false } := ⟨_, X₁ _ _ hC, rfl⟩
  refine ks_wpAny_isType_cls hD1 hD2 ⟨rfl, ?_⟩
  refine ks_wpAny_call_super hD1 hD2 hx₁ rfl (fun c z => by cases z) (looks_mroIn X₁ T.slf) (fun h₂ e₂ k₂ => ?_)
  have X₂ : K.In h₂ := X₁.keeps k₂
  have hx₂ := k₂ _ _ hx₁
  have I : InstAt h₂ e (excO C t0) C none := ⟨hx₂, rfl, rfl, trivial⟩
  have hI : Looks (model prog w) h₂ (isInstance (.ref e) (.type "ValueError")) true := I.type.andThen (looks_subIn X₂ T.veC)
  refine kxs_getMethod kxs_ValueError e₂ (looks_opaque X₂ T.third) (l₀ := .ref C :: bm) (fun A Q E s k q => wpAny_bind ((looks_clsIn X₂ hcl) A _ E s k (wpAny_pure q))) rfl X₂ hsuper hI (ks_ne X₂ I hcl) rfl ?_
  refine kxs_callWith (i := "ValueError.__init__") (x := e) rfl ?_
  refine evalArgs_plain (x := eval (.Constant (.str msg) 0 q3) (ksEnv q (iS f) s.heap.objs.size fI (.ref cda) cc)) (rest := []) ?_
  refine Calls.spliced_cons (Calls.Constant_str ?_)
  refine Calls.spliced_nil ?_
  have hp2 : ∀ b o, h₂.get? b = some o → (h₂.push (kxs_mw "ValueError.__init__" e)).get? b = some o := fun b o z => Heap.get?_push_of_some _ z
  have hu : (h₂.push (kxs_mw "ValueError.__init__" e)).get? h₂.objs.size = some (kxs_mw "ValueError.__init__" e) := Heap.get?_push_at rfl rfl
  refine ⟨hu, ?_⟩
  refine call_mw (hp2 _ _ (X₂ _ _ hC)) (hp2 _ _ hx₂) hu (one_size _) (fun h₃ t1 k₃ hx₃ => ?_)
  have kk : ∀ b o, b ≠ e → h₁.get? b = some o → h₃.get? b = some o := fun b o z hb => k₃ b o z (hp2 b o (k₂ b o hb))
  have X₃ : K.In h₃ := fun a o z => kk a o (fun y => by rw [y, hnx] at z; cases z) (X₁ a o z)
  have hns₃ : h₃.Ns s.heap.objs.size (fun y => ([((f : Str), v), (("self" : Str), Value.ref e)] : List (Str × Value)).lookup y) := by
    obtain ⟨oL, es, ep, hL, r⟩ := hns'
    exact ⟨oL, es, ep, kk _ _ hxL hL, r⟩
  refine wpAt_of_wpAny ?_
  -- self.f = f
  refine wpAny_execs_cons (plainObj_wpAny_Assign_Attribute ?_)
  refine wpAny_Name (wpAny_loadName_local rfl hl4 hns₃ hb2 ?_) hdb
  refine wpAny_Name (wpAny_loadName_local rfl hl3 hns₃ hb1 ?_) (by decide)
  refine set_plain X₃ (ox := excO C t1) (od := none) ⟨hx₃, rfl, rfl, trivial⟩ T.sa ?_
  refine exc_osa X₃ hx₃ hcl (show refsVE (.ref C :: bm) = true from hbm) rfl T.noN (fun h₄ tk₄ dx k₄ dn dne hx₄ hn₄ => ?_)
  have z : s.heap.objs.size < h₃.objs.size := hns₃.lt
  exact wpAny_execs_nil (hq h₄ tk₄ dx t1 ⟨fun b o hb y => k₄ b o hb (kk b o hb (k b o y)), hx₄, Nat.le_of_lt (Nat.lt_of_lt_of_le z dn), dne, hn₄⟩)
theorem sup_init (T : SupTxt prog K mg x f msg C fI) {e t0 : Addr} {v : Value} (X : K.In s.heap) (G : s.heap.Ns mainGlobals mg) (B : ∃ mb, s.heap.Ns builtinsNs mb ∧ mb "super" = some (.type "super")) (hlim : s.heap.NoLimit) (hx : s.heap.get? e = some (excO C t0)) (hnx : K.lookup e = none) (hroom : A.depth < recursionLimit)
    (hq : ∀ h' tk dx t1, InitEnd f s.heap h' e C dx t1 v → R (.ok (.ret .none)) { s with heap := h', toks := tk }) :
    codeAny (model prog w) A (.call (.ref fI) ⟨[.ref e, v], []⟩) R s := by
  rcases T.fok with hf | hf
  · subst hf
    exact sup_initG T X G B hlim hx hnx hroom rfl rfl rfl rfl (by decide) rfl rfl (by decide) (fun _ _ _ _ _ _ _ _ _ _ => .of_eq (by first | rfl | with_unfolding_all rfl)) hq
  · subst hf
    exact sup_initG T X G B hlim hx hnx hroom rfl rfl rfl rfl (by decide) rfl rfl (by decide) (fun _ _ _ _ _ _ _ _ _ _ => .of_eq (by first | rfl | with_unfolding_all rfl)) hq
theorem sup_made (T : SupTxt prog K mg x f msg C fI) {v : Value} (X : K.In s.heap) (G : s.heap.Ns mainGlobals mg) (B : ∃ mb, s.heap.Ns builtinsNs mb ∧ mb "super" = some (.type "super")) (hlim : s.heap.NoLimit) (hroom : A.depth + 1 < recursionLimit)
    (hq : ∀ h' tk e d, OwnMade f s.heap h' e C d v → R (.ok (.ret (.ref e))) { s with heap := h', toks := tk }) :
    codeAny (model prog w) A (.call (.ref C) ⟨[v], []⟩) R s := by
  obtain ⟨nm, q, N, bs, bm, sn, sub, ab, col, dd, k0, k1, k2, k3, k5, hC, hbm⟩ := T.cls
  obtain ⟨mb, hB, hBs⟩ := B
  obtain ⟨hp, g, dr, tk, os⟩ := s
  have k : ∀ b o, hp.get? b = some o → ((hp.push (kdv_tup [v])).push (excO C hp.objs.size)).get? b = some o := fun b o e => Heap.get?_push_of_some _ (Heap.get?_push_of_some _ e)
  have hget : ((hp.push (kdv_tup [v])).push (excO C hp.objs.size)).get? (hp.objs.size + 1) = some (excO C hp.objs.size) := by heap_get
  have hnx : K.lookup (hp.objs.size + 1) = none := by
    cases e : K.lookup (hp.objs.size + 1) with
    | none => rfl
    | some o =>
      have z : hp.get? (hp.objs.size + 1) = some o := X _ _ e
      exact absurd (Nat.lt_of_succ_lt (Heap.lt_size z)) (Nat.lt_irrefl _)
  refine call_own F.excBase_ValueError (fun X => refsVE_contains X bm hbm) (X _ _ hC) (looks_findIn X T.iC) (fun self => bind_fn X self T.tC) (one_size v) ?_
  refine sup_init (s := ⟨(hp.push (kdv_tup [v])).push (excO C hp.objs.size), g, dr, tk, os⟩) T (X.keeps k) (G.keeps k) ⟨mb, hB.keeps k, hBs⟩ (hlim.keeps k) hget hnx ?_ fun h' tk' dx t1 ⟨k', hx, dn, dne, hns⟩ => ?_
  · show A.depth + 1 < recursionLimit
    exact hroom
  · have old : ∀ b o, hp.get? b = some o → h'.get? b = some o := fun b o e => k' b o (Nat.ne_of_lt (Nat.lt_succ_of_lt (Heap.lt_size e))) (k b o e)
    have z : hp.objs.size + 1 + 1 ≤ dx := by
      first
        | (simpa only [Heap.size_push] using dn)
        | exact dn
        | (have q := dn; rw [Heap.size_push, Heap.size_push] at q; exact q)
    exact ⟨rfl, hq h' tk' (hp.objs.size + 1) dx ⟨old, Nat.le_succ _, ⟨_, _, hx, rfl, rfl, rfl, rfl⟩, Nat.le_trans (Nat.le_trans (Nat.le_succ _) (Nat.le_succ _)) z, dne, hns⟩⟩
end
end SupX
end PySem
namespace L2
open PySem PySem.Spec PyProof.Rows
theorem relO_fld {f : Str} {v : V} {v' : Value} (r : RelV v v') (g : Str) : RelO (List.lookup g [(f, v)]) (if g = f then some v' else none) := by
  by_cases hw : g = f
  · subst hw
    rw [if_pos rfl]
    have q : List.lookup g [(g, v)] = some v := by simp [List.lookup]
    rw [q]
    exact r
  · rw [if_neg hw]
    have qw : (g == f) = false := by simpa using hw
    have q2 : List.lookup g [(f, v)] = none := by simp [List.lookup, qw]
    rw [q2]
    trivial
section
variable {X : Cx} {C fI : Addr} {x f msg : Str}
/-- X(e) -/
def tMkS (f : Str) (C : Addr) (ta : TA) : St → Hp → XK → Prop := fun σ H Q => ta σ H fun vs H1 => ∃ v, vs = [v] ∧ ∀ d, H1 d = none → Q (.ref C) (some d) (upd H1 d (.xd [(f, v)]))
theorem pmk_sup {a : Expr} {ta : TA} {p pos : Pos} {k : Nat} (T : PySem.SupX.SupTxt X.prog X.K X.mg x f msg C fI) (hr : Room k X.A) (ha : PA X [a] ta) (hg : Gl X x) (hdb : (x == ("__debug__" : Str)) = false)
    (he : starEach (a :: []) X.env = (false, eval a X.env) :: starEach [] X.env := by rfl) (hpl : (backTo pos (starEach [] X.env)).any (·.1) = false := by rfl) :
    PMk X (.Call (.Name x p) [a] [] pos) (tMkS f C ta) := by
  intro pins s σ H Q I h
  refine wpAny_Call_Name_kw (ld_glob I hg T.gC ?_ hdb)
  refine PySem.W.callWith_K (h₀ := X.base) I.ok.mod.kin T.kC (thn (ha.run pos pins s σ H _ I h) fun us s1 hh => ?_) he hpl
  obtain ⟨vs, H1, I1, r1, v, ev, q1⟩ := hh
  subst ev
  refine ⟨I1.kIn, ?_⟩
  cases r1 with
  | cons rv rn =>
    rename_i v' us'
    cases rn
    show wpAny _ _ (call (.ref C) [v']) _ _ _
    have hlim := I1.nolimit
    have hG : s1.heap.Ns mainGlobals X.mg := I1.mod.glob.keeps I1.bk
    obtain ⟨mb, b1, b2⟩ := I1.mod.blt
    have hB : s1.heap.Ns builtinsNs mb := b1.keeps I1.bk
    have hS : mb "super" = some (.type "super") := (b2 "super" (by decide)).trans (by decide +kernel)
    obtain ⟨hp, g, dr, tk, os⟩ := s1
    refine wpAny_call (PySem.SupX.sup_made T I1.kIn hG ⟨mb, hB, hS⟩ hlim (by have := hr.dp; omega) fun h' tk' e d M => ?_)
    show MkP X pins σ Q (.ref e) ⟨h', g, dr, tk', os⟩
    obtain ⟨oe, fv, hoe, hc, hd, hdat, h1⟩ := M.obj
    have hns := M.ns
    obtain ⟨G', g1, g2⟩ := restrict h' fun b => decide (b ≠ e)
    have gk : ∀ b, b ≠ e → G'.get? b = h'.get? b := fun b hb => g1 b (decide_eq_true hb)
    have ge : G'.get? e = none := g2 e (by simp)
    have old : ∀ b o, hp.get? b = some o → G'.get? b = some o := fun b o q => (gk b (Nat.ne_of_lt (Nat.lt_of_lt_of_le (Heap.lt_size q) M.new))).trans (M.keep b o q)
    have ob : ObjOk X.prog X.w (upd H1 d (.xd [(f, v)])) G' d (.xd [(f, v)]) :=
      ⟨_, hns.at (fun o q => (gk d M.dne).trans q), fun g => relO_fld rv g⟩
    have J : Inv X pins σ (upd H1 d (.xd [(f, v)])) ⟨G', g, dr, tk', os⟩ := I1.laid (t' := tk') old M.dbig ob
    refine ⟨e, oe, fv, ⟨G', g, dr, tk', os⟩, _, .ref C, some d, rfl, J, fun b o q => ?_, ge, hoe, ⟨hc, hd⟩, hdat, h1, ?_, rfl, I1.bare, raises_own T.exC T.tyC, q1 d (I1.hok.fresh M.dbig)⟩
    · by_cases hb : b = e
      · have q' : G'.get? b = some o := q
        rw [hb, ge] at q'; cases q'
      · exact (gk b hb).symm.trans q
    · rw [upd_ne (Ne.symm M.dne)]
      exact I1.hok.fresh M.new
end
end L2
namespace ML
open PySem PySem.Spec L2
section
variable {X : Cx} {W : WX} {a : Expr} {ma : MX} {pos : Pos}
/-- raise X(e) -/
def mRaise (x f : Str) (ma : MX) : MS := fun ρ st => (ma ρ st).toS ρ fun d st1 => .er ⟨x, [(f, d)]⟩ ρ st1
theorem ms_raise {x f msg : Str} {C fI : Addr} {k : Nat} {p pos2 : Pos} (T : PySem.SupX.SupTxt X.prog X.K X.mg x f msg C fI) (hr : Room k X.A) (tk : Takes X W) (ha : PE X a (tE X W ma)) (hc : X.calm = true := by rfl) (hg : Gl X x := by rfl) (hdb : (x == ("__debug__" : Str)) = false := by decide)
    (he : starEach (a :: []) X.env = (false, eval a X.env) :: starEach [] X.env := by rfl) (hpl : (backTo pos (starEach [] X.env)).any (·.1) = false := by rfl) :
    PS X (.Raise (some (.Call (.Name x p) [a] [] pos)) none pos2) (tS X W (mRaise x f ma)) := (ps_raise hc tk (pmk_sup T hr (pa_cons ha pa_nil he) hg hdb he hpl)).imp fun D σ H ⟨φ, ρ, st, rs, re, h⟩ => by
  refine ⟨φ, ρ, st, rs, re, ?_⟩
  refine h.exp re fun φ1 d v H1 st1 e1 rs1 rv1 h1 => ?_
  refine ⟨v, rfl, fun dx hd => ?_⟩
  have e2 := ext_new (φ := φ1) (o := .xd [(f, v)]) hd
  refine h1 φ1 _ _ σ _ e2 (rs1.new hd) ((re.ext e1).ext e2) ⟨T.gC, .inr ⟨dx, _, rfl, upd_same, rs1.notin hd, rfl, .cons (rv1.ext e2) .nil⟩⟩
/-- raise X('..'), X without an own __init__ -/
def mRaise0 (x : Str) : MS := fun ρ st => .er ⟨x, []⟩ ρ st
theorem ms_raise0 {x m : Str} {C : Addr} {j : Nat} {p p2 pos2 : Pos} (gC : X.mg x = some (.ref C)) (q : PySem.W.excIn X.K C [.type "ValueError", .type "Exception", .type "BaseException", .type "object"] "ValueError.__new__" = true) (kC : PySem.W.keepIn X.K (.ref C) = true) (r1 : PySem.W.subIn X.K (.ref C) (.type "BaseException") = some true) (r2 : PySem.W.typeIn X.K (.ref C) = some (.type "type")) (tk : Takes X W) (hc : X.calm = true := by rfl) (hg : Gl X x := by rfl) (hdb : (x == ("__debug__" : Str)) = false := by decide) :
    PS X (.Raise (some (.Call (.Name x p) [.Constant (.str m) j p2] [] pos)) none pos2) (tS X W (mRaise0 x)) := (ps_raise hc tk (pmk_own PySem.F.excBase_ValueError q gC kC (raises_own r1 r2) hg hdb)).imp fun D σ H ⟨φ, ρ, st, rs, re, h⟩ =>
  h φ _ _ σ H .refl rs re ⟨gC, .inl ⟨rfl, rfl⟩⟩
/-- never reached -/
def mNever : MS := fun _ _ => .bad
theorem ms_never {s : Stmt} : PS X s (tS X W mNever) := ⟨fun _ _ _ _ _ _ ⟨_, _, _, _, _, h⟩ => h.elim⟩
end
/-! ### the suite of an except clause: what it gives, as a function of the error -/
def tV (X : Cx) (i : Nat) (a : Addr) (cls : Value) (C : Addr) (d : Option Addr) (x : Str) (fl : List Str) (g : Er → A) : TE := fun σ H Q => cls = .ref C ∧ σ[i]? = some (some (.ref a)) ∧ ∃ er φ st, RS X.K X.w X.mg φ H st ∧ RErr X.K X.mg φ H cls d er ∧ er.cls = x ∧ er.fs.map (·.1) = fl ∧ ∀ φ' H' u, Ext φ H φ' H' → RS X.K X.w X.mg φ' H' st → RV X.K φ' H' u (g er) → Q u H'
def tVs (X : Cx) (i : Nat) (a : Addr) (cls : Value) (C : Addr) (d : Option Addr) (x : Str) (fl : List Str) (g : Er → List A) : TA := fun σ H Q => cls = .ref C ∧ σ[i]? = some (some (.ref a)) ∧ ∃ er φ st, RS X.K X.w X.mg φ H st ∧ RErr X.K X.mg φ H cls d er ∧ er.cls = x ∧ er.fs.map (·.1) = fl ∧ ∀ φ' H' us, Ext φ H φ' H' → RS X.K X.w X.mg φ' H' st → RVs X.K φ' H' us (g er) → Q us H'
/-- what the class C says of its instances -/
structure ClsX (K : PySem.W.Frag) (C : Addr) : Prop where
  hcl : (PySem.W.clsIn K C).isSome = true
  ga : PySem.W.findIn K (.ref C) "__getattribute__" = some (some (.builtin "BaseException.__getattribute__"))
  gg : PySem.W.findIn K (.ref C) "__getattr__" = some none
  exC : PySem.W.subIn K (.ref C) (.type "BaseException") = some true
  hdC : PySem.W.hasDictIn K C = true
  ha : PySem.W.findIn K (.ref C) "__class__" = some (some (.builtin "object.__class__"))
  hn : PySem.W.specialIn K (.builtin "object.__class__") "__get__" = some (some (.builtin "getset_descriptor.__get__"))
  ht : PySem.W.takesIn K (.builtin "object.__class__") = some true
  hm : PySem.W.mroIn K C (.type "object") = some true
section
variable {X : Cx} {i : Nat} {ad C : Addr} {cls : Value} {d : Option Addr} {x : Str} {fl : List Str} {oe : Obj} {pn : List (Addr × Obj)} {e e' : Expr} {es : List Expr} {pos : Pos} {g g' : Er → A} {gs : Er → List A}
theorem xv_str {z : Str} {j pos} : PE X (.Constant (.str z) j pos) (tV X i ad cls C d x fl fun _ => .str z) := pe_str.imp fun _ _ _ ⟨_, _, _, _, _, rs, _, _, _, h⟩ => h _ _ _ .refl rs (.str z)
theorem xv_bl {b : Bool} {j pos} : PE X (.Constant (.bool b) j pos) (tV X i ad cls C d x fl fun _ => .bl b) := pe_bl.imp fun _ _ _ ⟨_, _, _, _, _, rs, _, _, _, h⟩ => h _ _ _ .refl rs (.bl b)
theorem xv_non {j pos} : PE X (.Constant .none j pos) (tV X i ad cls C d x fl fun _ => .non) := pe_non.imp fun _ _ _ ⟨_, _, _, _, _, rs, _, _, _, h⟩ => h _ _ _ .refl rs .non
/-- the field f of the error -/
def fldE (f : Str) (er : Er) : A := match er.fs with
  | [(_, v)] => v
  | _ => .non
theorem xv_fld {f n : Str} {p : Pos} (T : ClsX X.K C) (hno : PySem.W.findIn X.K (.ref C) f = some none) (hz : Zc cls d oe) (hf : ∃ vs, oe.data = .fields vs) (hn : PE (X.suite ad ((ad, oe) :: pn)) (.Name n p) (tVar i))
    (hb : attributeBase (.Name n p) f X.env (eval (.Name n p) X.env) = eval (.Name n p) X.env := by rfl) : PE (X.suite ad ((ad, oe) :: pn)) (.Attribute (.Name n p) f pos) (tV X i ad cls C d x [f] (fldE f)) :=
  (pe_xf ⟨T.ga, T.gg, T.exC, T.hdC⟩ hno hz hf hn hb).imp fun σ H Q ⟨hcl, hs, er, φ, st, rs, r, ex, ef, h⟩ => by
    refine ⟨_, hs, rfl, hcl, ?_⟩
    obtain ⟨_, ⟨q, _⟩ | ⟨dx, xs, q1, q2, q3, q4, q5⟩⟩ := r
    · rw [q] at ef
      cases ef
    · obtain ⟨c, fs⟩ := er
      simp only at ef q4 q5 h
      match fs, ef with
      | [(f', v)], ef =>
        simp at ef
        subst ef
        match xs, q4, q5 with
        | [(f2, u)], q4, q5 =>
          simp at q4
          subst q4
          obtain ⟨w, hw, rv⟩ := one_rv q5
          simp at hw
          subst hw
          exact ⟨dx, _, u, q1, q2, by simp [List.lookup], h _ _ _ .refl rs rv⟩
theorem xv_isi {n t : Str} {p p1 p2 : Pos} {c : V} {cv : Value} {b : Bool} (T : ClsX X.K C) (hz : Zc cls d oe) (hf : ∃ vs, oe.data = .fields vs) (hn : PE (X.suite ad ((ad, oe) :: pn)) (.Name n p1) (tVar i)) (ht : PE (X.suite ad ((ad, oe) :: pn)) (.Name t p2) (tC c)) (hcv : ∀ u, RelV c u → u = cv) (ek : PySem.W.kitOne X.K (.ref C) cv = some b)
    (hm : X.mg "isinstance" = none) (hg : Gl X "isinstance" := by rfl) (he2 : starEach [.Name t p2] X.env = (false, eval (.Name t p2) X.env) :: starEach [] X.env := by rfl) (he : starEach (.Name n p1 :: [.Name t p2]) X.env = (false, eval (.Name n p1) X.env) :: starEach [.Name t p2] X.env := by rfl) (hpl : (backTo pos (starEach [.Name t p2] X.env)).any (·.1) = false := by rfl) :
    PE (X.suite ad ((ad, oe) :: pn)) (.Call (.Name "isinstance" p) [.Name n p1, .Name t p2] [] pos) (tV X i ad cls C d x fl fun _ => .bl b) := by
  have hcall : CallR (X.suite ad ((ad, oe) :: pn)) (.builtin "isinstance") (fun xs H Q => xs = [.ref ad, c] ∧ cls = .ref C ∧ (d = none ∨ ∃ dx fs, d = some dx ∧ H dx = some (.xd fs)) ∧ Q (.bl b) H) := by
    intro pins s σ H xs us Q I r h
    obtain ⟨rfl, hcl, hd, q⟩ := h
    cases r with
    | cons rx rr =>
      cases rr with
      | cons rt rr =>
        cases rr
        cases rx
        have ec := hcv _ rt
        subst ec
        obtain ⟨hget, _⟩ := I.pin (ad, oe) (List.mem_append.mpr (.inl List.mem_cons_self))
        obtain ⟨vs, hv⟩ := hf
        have hno : PySem.W.notCls oe = true := by
          unfold PySem.W.notCls
          rw [hv]
        have J : ∃ od, PySem.W.InstAt s.heap ad oe C od := by
          rcases hd with hd | ⟨dx, fs, hd, hx⟩
          · exact ⟨none, hget, hz.1.trans hcl, hno, by rw [hz.2, hd]; trivial⟩
          · have hok : ObjOk X.prog X.w H s.heap dx (.xd fs) := I.hok dx _ hx
            obtain ⟨mA, hns, _⟩ := hok
            obtain ⟨od, ho, _⟩ := lookIn_ns hns
            exact ⟨some od, hget, hz.1.trans hcl, hno, by rw [hz.2, hd]; exact ho⟩
        obtain ⟨od, J⟩ := J
        exact PySem.W.kia_one (PySem.W.kitx_exc T.hcl T.ga T.gg T.exC T.ha T.hn T.ht T.hm) I.kIn J ek (fun z => nomatch z) fun tk => ⟨.bl b, H, I.kept (t' := tk) fun _ _ z => z, rfl, q⟩
  refine (pe_callB hcall hg hm PyProof.Rows.boot_isinstance (pa_cons hn (pa_cons ht pa_nil he2) he) (by decide) (by decide) he hpl).imp fun σ H Q ⟨hcl, hs, er, φ, st, rs, r, ex, ef, h⟩ => ?_
  refine ⟨_, hs, rfl, hcl, ?_, h _ _ _ .refl rs (.bl b)⟩
  obtain ⟨_, ⟨_, q⟩ | ⟨dx, xs, q1, q2, q3, q4, q5⟩⟩ := r
  · exact .inl q
  · exact .inr ⟨dx, xs, q1, q2⟩
theorem xvs_nil : PA X [] (tVs X i ad cls C d x fl fun _ => []) := pa_nil.imp fun _ _ _ ⟨_, _, _, _, _, rs, _, _, _, h⟩ => h _ _ _ .refl rs .nil
theorem xvs_cons (ha : PE X e (tV X i ad cls C d x fl g)) (hr : PA X es (tVs X i ad cls C d x fl gs)) (hs : starEach (e :: es) X.env = (false, eval e X.env) :: starEach es X.env := by rfl) : PA X (e :: es) (tVs X i ad cls C d x fl fun er => g er :: gs er) :=
  (pa_cons ha hr hs).imp fun σ H Q ⟨hcl, hs, er, φ, st, rs, r, ex, ef, h⟩ =>
    ⟨hcl, hs, er, φ, st, rs, r, ex, ef, fun φ1 H1 u e1 rs1 rv1 => ⟨hcl, hs, er, φ1, st, rs1, r.ext e1, ex, ef, fun φ2 H2 us e2 rs2 rv2 => h φ2 H2 _ (e1.trans e2) rs2 (.cons (rv1.ext e2) rv2)⟩⟩
theorem xv_tup {x1} (h : PA X es (tVs X i ad cls C d x fl gs)) (hl : ∀ er, (gs er).length ≤ 1000) : PE X (.Tuple es x1 pos) (tV X i ad cls C d x fl fun er => .tup (gs er)) :=
  (pe_tupP h).imp fun σ H Q ⟨hcl, hs, er, φ, st, rs, r, ex, ef, h⟩ =>
    ⟨hcl, hs, er, φ, st, rs, r, ex, ef, fun φ1 H1 us e1 rs1 rv1 => ⟨by
      have := hl er
      rw [rv1.length, sizeLine_eq]
      omega, fun p o hd hp => h φ1 _ _ (e1.trans (ext_new hp)) (rs1.new hp) (.newTup rs1 hd hp rv1)⟩⟩
theorem xv_one {op} (ha : PE X e (tV X i ad cls C d x fl g)) : PE X (.BoolOp op [e] pos) (tV X i ad cls C d x fl g) := pe_one ha
theorem xv_and {b1 b2 : Bool} {rest : List Expr} (ha : PE X e (tV X i ad cls C d x fl fun _ => .bl b1)) (hb : PE X (.BoolOp .And (e' :: rest) pos) (tV X i ad cls C d x fl fun _ => .bl b2)) : PE X (.BoolOp .And (e :: e' :: rest) pos) (tV X i ad cls C d x fl fun _ => .bl (b1 && b2)) :=
  (pe_and ha hb).imp fun σ H Q ⟨hcl, hs, er, φ, st, rs, r, ex, ef, h⟩ => by
    refine ⟨hcl, hs, er, φ, st, rs, r, ex, ef, fun φ1 H1 u e1 rs1 rv1 => ?_⟩
    cases rv1
    refine ⟨b1, rfl, ?_⟩
    cases b1 with
    | true => exact iteT ⟨hcl, hs, er, φ1, st, rs1, r.ext e1, ex, ef, fun φ2 H2 u e2 rs2 rv2 => h φ2 H2 u (e1.trans e2) rs2 rv2⟩
    | false => exact iteF (h φ1 H1 _ e1 rs1 (.bl _))
theorem xv_not {b1 : Bool} (ha : PE X e (tV X i ad cls C d x fl fun _ => .bl b1)) : PE X (.UnaryOp .Not e pos) (tV X i ad cls C d x fl fun _ => .bl (!b1)) :=
  (pe_not ha).imp fun σ H Q ⟨hcl, hs, er, φ, st, rs, r, ex, ef, h⟩ => by
    refine ⟨hcl, hs, er, φ, st, rs, r, ex, ef, fun φ1 H1 u e1 rs1 rv1 => ?_⟩
    cases rv1
    exact ⟨b1, rfl, h φ1 H1 _ e1 rs1 (.bl _)⟩
end
/-! ### try: .. except X as n: return .. -/
def tSu (X : Cx) (i : Nat) (a : Addr) (cls : Value) (C : Addr) (d : Option Addr) (x : Str) (fl : List Str) (g : Er → A) : TS := fun D σ H => tV X i a cls C d x fl g σ H D.rt
def mTry (i : Nat) (x : Str) (fl : List Str) (g : Er → A) (m : MS) : MS := fun ρ st => match m ρ st with
  | .er e ρ1 st1 => if e.cls = x ∧ e.fs.map (·.1) = fl ∧ i < ρ1.length then .rt (g e) st1 else .bad
  | r => r
section
variable {X : Cx} {W : WX} {i : Nat} {n x : Str} {C : Addr} {fl : List Str} {g : Er → A} {m : MS} {body : List Stmt} {e : Expr} {np pos pos' rp : Pos}
theorem ms_tryAs (hs : X.stack = X.env :: X.outer) (hf : X.env.frame = some X.env.locals) (hN : X.N.Nodup) (hi : X.N[i]? = some n) (hln : X.env.kindOf n = some .local) (hgx : Gl X x) (hgC : X.mg x = some (.ref C)) (hx : PySem.W.exmOne X.K (.ref C) (.ref C) = some true) (tk : Takes X W)
    (hb : ∀ (W : WX) (pn : List (Addr × Obj)) (xe : Value → Shared → Prop), Takes (X.tr pn xe) W → PassesOwn (model X.prog X.w) X.A X.env xe → PSs (X.tr pn xe) body (tS X W m))
    (hsu : ∀ (a : Addr) (oe : Obj) (cls : Value) (d : Option Addr) (pn : List (Addr × Obj)), Zc cls d oe → (∃ vs, oe.data = .fields vs) → PE (X.suite a ((a, oe) :: pn)) e (tV X i a cls C d x fl g))
    (hdb : (x == ("__debug__" : Str)) = false := by decide) :
    PS X (.Try body [.ExceptHandler (some (.Name x np)) (some n) [.Return (some e) rp] pos'] [] [] pos) (tS X W (mTry i x fl g m)) :=
  (ps_try_as (tb := fun W => tS X W m) (ts := fun a cls d => tSu X i a cls C d x fl g) hs hf hN hi hln ⟨hgx, hdb, .inl hgC⟩ tk hb (fun a oe cls d pn hz hfv => pss_one ((ps_ret (hsu a oe cls d pn hz hfv)).imp fun D σ H h => h))).imp fun D σ H ⟨φ, ρ, st, rs, re, h⟩ => by
    refine ⟨φ, ρ, st, rs, re, ?_⟩
    unfold mTry at h
    cases q : m ρ st with
    | er er ρ1 st1 =>
      rw [q] at h
      simp only at h
      by_cases hc : er.cls = x ∧ er.fs.map (·.1) = fl ∧ i < ρ1.length
      · rw [if_pos hc] at h
        intro φ' c d σ' H' e1 rs1 re1 r1
        obtain ⟨c1, c2, c3⟩ := hc
        have hcc : c = .ref C := by
          have := r1.1
          rw [c1, hgC] at this
          exact (Option.some.inj this).symm
        subst hcc
        refine ⟨true, hx, fun _ a ha => ⟨rfl, ?_, er, φ', st1, rs1, r1, c1, c2, fun φ2 H2 u e2 rs2 rv2 => h φ2 u H2 (e1.trans e2) rs2 rv2⟩, fun z => by cases z⟩
        rw [List.getElem?_set_self (by rw [re1.len]; exact c3)]
      · rw [if_neg hc] at h
        exact h.elim
    | nx ρ1 st1 => rw [q] at h; exact h
    | bk ρ1 st1 => rw [q] at h; exact h
    | ct ρ1 st1 => rw [q] at h; exact h
    | rt v st1 => rw [q] at h; exact h
    | bad => rw [q] at h; exact h.elim
end
end ML
namespace ML
open PySem PySem.Spec L2
section
variable {X : Cx} {W : WX} {a b : Expr} {ma mb : MX} {pos pos2 p p2 : Pos}
/-! ### tuple(range(..)), tuple(reversed(..)) -/
def rgA (i j : Int) : List A := (List.range (j - i).toNat).map fun (k : Nat) => A.int (i + (k : Int))
theorem rvs_rg {K : PySem.W.Frag} {φ : List Addr} {H : Hp} {i : Int} : ∀ ks : List Nat, RVs K φ H (ks.map fun (k : Nat) => V.int (i + (k : Int))) (ks.map fun (k : Nat) => A.int (i + (k : Int)))
  | [] => .nil
  | k :: ks => .cons (.int _) (rvs_rg ks)
theorem rg_rv {K : PySem.W.Frag} {φ : List Addr} {H : Hp} (i j : Int) : RVs K φ H (rgV i j) (rgA i j) := rvs_rg _
def tupRg (i j : Int) (st : Store) : R A := if (-1000000 ≤ i ∧ i ≤ 1000000) ∧ -1000000 ≤ j ∧ j ≤ 1000000 then .ok (.tup (rgA i j)) st else .bad
def mTupRg1 (ma : MX) : MX := fun ρ st => (ma ρ st).bind fun x st1 => (getI x st1).bind fun n st2 => tupRg 0 n st2
def mTupRg2 (ma mb : MX) : MX := fun ρ st => (ma ρ st).bind fun x st1 => (getI x st1).bind fun i st2 => (mb ρ st2).bind fun y st3 => (getI y st3).bind fun j st4 => tupRg i j st4
theorem getI_seq {K : PySem.W.Frag} {mg : Str → Option Value} {W : WH} {φ : List Addr} {H : Hp} {st : Store} {x : V} {a : A} {f : Int → Store → R A} {Q : VK} (r : RV K φ H x a) (h : Pst K w mg (RV K) W φ H ((getI a st).bind f) Q) : ∃ k, x = .int k ∧ Pst K w mg (RV K) W φ H (f k st) Q := by
  cases r with
  | int b => exact ⟨b, rfl, h⟩
  | _ => exact (show False from h).elim
open PyProof.Rows in
theorem pe_tupRgP {X : Cx} {e : Expr} {te : L2.St → Hp → (Int → Int → Hp → Prop) → Prop} {p pos : Pos} (hc : X.calm = true) (hg : Gl X "tuple") (hm : X.mg "tuple" = none) (he : PRg X e te) (na : starEach [e] X.env = (false, eval e X.env) :: starEach [] X.env := by rfl) :
    PE X (.Call (.Name "tuple" p) [e] [] pos) (fun σ H Q => te σ H fun i j H1 => RgOk i j ∧ NewT H1 (rgV i j) Q) := by
  refine ⟨fun pins s σ H Q I h => Call_ (ld_blt I hg hm boot_tuple (PyProof.Rows.callWith_type1 (args_cons (thn (he pins s σ H _ I h) fun x s1 ⟨r, i, j, t, u, v, H1, ex, hr, I1, ok, q⟩ => args_nil ?_) na) na))⟩
  subst ex
  obtain ⟨b1, b2, b3, b4, b5⟩ := ok
  refine call_tuple_range (n := (j - i).toNat) (I1.ok.hd hc) hr (small_one b1 b2 b3 b4) (rangeSize_nat i j) b5 fun h' tk acc hk hi => ?_
  have := new_tup (its := acc.toList) (s := { s1 with heap := h', toks := tk }) (I1.kept hk) (vals_rg hi) (by rw [rgV_length, sizeLine_eq]; omega) q
  rw [Array.toArray_toList] at this
  exact this
open PyProof.Rows in
theorem pe_tupRevP {X : Cx} {e : Expr} {te : TE} {p p2 pos pos2 : Pos} (hc : X.calm = true) (hg : Gl X "tuple") (hm : X.mg "tuple" = none) (hg2 : Gl X "reversed") (hm2 : X.mg "reversed" = none) (he : PE X e te)
    (hs : starEach [e] X.env = (false, eval e X.env) :: starEach [] X.env := by rfl)
    (hs2 : starEach [.Call (.Name "reversed" p2) [e] [] pos2] X.env = (false, eval (.Call (.Name "reversed" p2) [e] [] pos2) X.env) :: starEach [] X.env := by rfl) :
    PE X (.Call (.Name "tuple" p) [.Call (.Name "reversed" p2) [e] [] pos2] [] pos) (fun σ H Q => te σ H fun v H1 => ∃ (a : Addr) (xs : List V), v = .ref a ∧ SqL X.K H1 a xs ∧ NewT H1 xs.reverse Q) := by
  refine ⟨fun pins s σ H Q I h => Call_ (ld_blt I hg hm boot_tuple (PyProof.Rows.callWith_type1 (args_cons (Call_ (ld_blt I hg2 hm2 PyProof.Rows.boot_reversed (PyProof.Rows.callWith_type1 (args_cons (thn (he.run pins s σ H _ I h) fun u s1 ⟨v, H1, I1, r1, q1⟩ => args_nil ?_) hs) hs rfl))) hs2) hs2 rfl))⟩
  obtain ⟨a, xs, ev, hq, q⟩ := q1
  subst ev
  obtain rfl : u = Value.ref a := r1
  obtain ⟨its, rv, pl, hz⟩ := I1.list hq
  refine PySem.call_reversed_list pl.isList (args_nil ?_)
  have I2 : Inv X pins σ H1 { s1 with heap := s1.heap.push (PySem.revObj a ((its.toArray.size : Int) - 1)) } := I1.kept (t' := s1.toks) fun b o e => Heap.get?_push_of_some _ e
  obtain ⟨f0, f1, f2, f3, f4, f5⟩ := I1.fpOk (H' := H1) (b := s1.heap.objs.size) (Nat.le_refl _) (I1.hok.fresh (Nat.le_refl _))
  obtain ⟨ol, hol, _⟩ := id pl.isList
  refine RT.call_tuple_rev (s := { s1 with heap := s1.heap.push (PySem.revObj a ((its.toArray.size : Int) - 1)) }) (I1.ok.hd hc) ⟨_, Heap.get?_push_size _ rfl, rfl, rfl⟩ (Heap.IsList.push pl.isList _) (Nat.ne_of_lt (Heap.lt_size hol)) (by rw [List.size_toArray, ← rv.length]; exact hz) fun h' tk acc hk hi => ?_
  have := new_tup (its := acc.toList) (s := { s1 with heap := h', toks := tk }) (I2.turned (t' := tk) (fun b o hb e => hk b o hb e) f0 f1 f3 f4 f5) (RT.vals_rev rv hi) (by rw [List.length_reverse]; exact hz) q
  rw [Array.toArray_toList] at this
  exact this
theorem tupRg_ok {K : PySem.W.Frag} {mg : Str → Option Value} {W : WH} {φ : List Addr} {H : Hp} {st : Store} {i j : Int} {Q : VK} (rs : RS K w mg φ H st) (h : Pst K w mg (RV K) W φ H (tupRg i j st) Q) : RgOk i j ∧ NewT H (rgV i j) Q := by
  unfold tupRg at h
  split at h
  · rename_i hz
    refine ⟨⟨by omega, by omega, by omega, by omega, by omega⟩, fun q o hd hq => ?_⟩
    exact h φ _ _ (ext_new hq) (rs.new hq) (.newTup rs hd hq (rg_rv i j))
  · exact h.elim
theorem me_tupRg1 (hm : X.mg "tuple" = none) (hm2 : X.mg "range" = none) (ha : PE X a (tE X W ma)) (hc : X.calm = true := by rfl) (hg : Gl X "tuple" := by rfl) (hg2 : Gl X "range" := by rfl) (hs : starEach [a] X.env = (false, eval a X.env) :: starEach [] X.env := by rfl)
    (hs2 : starEach [.Call (.Name "range" p2) [a] [] pos2] X.env = (false, eval (.Call (.Name "range" p2) [a] [] pos2) X.env) :: starEach [] X.env := by rfl) :
    PE X (.Call (.Name "tuple" p) [.Call (.Name "range" p2) [a] [] pos2] [] pos) (tE X W (mTupRg1 ma)) := (pe_tupRgP hc hg hm (prg_1 hg2 hm2 ha hs) hs2).imp fun σ H Q ⟨φ, ρ, st, rs, re, h⟩ => by
  refine ⟨φ, ρ, st, rs, re, h.seq fun φ1 d v H1 st1 e1 rs1 rv1 h1 => ?_⟩
  obtain ⟨n, hn, h2⟩ := getI_seq rv1 h1
  exact ⟨n, hn, tupRg_ok rs1 h2⟩
def mTupRev (ma : MX) : MX := fun ρ st => (ma ρ st).bind fun x st1 => match itemsL x st1 with
  | some xs => .ok (.tup xs.reverse) st1
  | none => .bad
theorem me_tupRev (hm : X.mg "tuple" = none) (hm2 : X.mg "reversed" = none) (ha : PE X a (tE X W ma)) (hc : X.calm = true := by rfl) (hg : Gl X "tuple" := by rfl) (hg2 : Gl X "reversed" := by rfl) (hs : starEach [a] X.env = (false, eval a X.env) :: starEach [] X.env := by rfl)
    (hs2 : starEach [.Call (.Name "reversed" p2) [a] [] pos2] X.env = (false, eval (.Call (.Name "reversed" p2) [a] [] pos2) X.env) :: starEach [] X.env := by rfl) :
    PE X (.Call (.Name "tuple" p) [.Call (.Name "reversed" p2) [a] [] pos2] [] pos) (tE X W (mTupRev ma)) := (pe_tupRevP hc hg hm hg2 hm2 ha hs hs2).imp fun σ H Q ⟨φ, ρ, st, rs, re, h⟩ => by
  refine ⟨φ, ρ, st, rs, re, h.seq fun φ1 d v H1 st1 e1 rs1 rv1 h1 => ?_⟩
  cases e : itemsL d st1 with
  | none => simp only [e] at h1; exact h1.elim
  | some xs =>
    simp only [e] at h1
    obtain ⟨pp, vs, q1, q2, q3⟩ := itemsL_ok rs1 rv1 e
    exact ⟨pp, vs, q1, q2, fun q o hd hq => h1 φ1 _ _ (ext_new hq) (rs1.new hq) (.newTup rs1 hd hq q3.rev)⟩
end
end ML

/-! try with several clauses `except X as e`, each of which returns -/
namespace L2
open PySem PySem.Spec PyProof.Rows
/-- a clause: its class, what its suite does -/
abbrev Claus := Value × (Addr → Value → Option Addr → TS)
/-- only the return counts -/
def onlyRt (D : Ends) : Ends := { nx := fun _ _ => False, rt := D.rt }
inductive Clauses (X : Cx) (n : Str) : List ExceptHandler → List Claus → Prop
  | nil : Clauses X n [] []
  | cons {x : Str} {c : Value} {ts : Addr → Value → Option Addr → TS} {b₀ : Stmt} {suite : List Stmt} {np pos' : Pos} {hds : List ExceptHandler} {l : List Claus} (hc : Names X x c)
      (hsu : ∀ (a : Addr) (oe : Obj) (cls : Value) (d : Option Addr) (pn : List (Addr × Obj)), Zc cls d oe → (∃ vs, oe.data = .fields vs) → PSs (X.suite a ((a, oe) :: pn)) (b₀ :: suite) (ts a cls d)) (r : Clauses X n hds l) :
      Clauses X n (.ExceptHandler (some (.Name x np)) (some n) (b₀ :: suite) pos' :: hds) ((c, ts) :: l)
/-- what the clauses wish of the error: the first that fits takes it, one must -/
def wCls (K : PySem.W.Frag) (i : Nat) (D : Ends) : List Claus → WX
  | [], _, _, _, _ => False
  | (c, ts) :: l, cls, d, σ, H => ∃ b, PySem.W.exmOne K cls c = some b ∧ (b = true → ∀ a, H a = none → ts a cls d (onlyRt D) (σ.set i (some (.ref a))) H) ∧ (b = false → wCls K i D l cls d σ H)
section
variable {X : Cx} {n : Str} {i : Nat} {D : Ends} {pins : List (Addr × Obj)}
/-- the clauses, tried one by one while the error is held -/
theorem clauses_ok (ok : X.Ok) (hf : X.env.frame = some X.env.locals) (hN : X.N.Nodup) (hi : X.N[i]? = some n) (hln : X.env.kindOf n = some .local) {a : Addr} {cls : Value} {d : Option Addr} {B : Heap} {s' : Shared} {h3 : Heap} {σ' : St} {H' : Hp}
    (fl3 : HandSPX.FlyingZ B (X.env :: X.outer) a (Zc cls d) h3) (J3 : ∀ h4, HandSPX.FlyingZ B (X.env :: X.outer) a (Zc cls d) h4 → h3.UpToSlots h4 → Inv X pins σ' H' { s' with heap := h4 }) (na : H' a = none) (nL : a ≠ X.env.locals) (nF : a ∉ X.fs) :
    ∀ {hds : List ExceptHandler} {l : List Claus}, Clauses X n hds l → wCls X.K i D l cls d σ' H' → wpAny (model X.prog X.w) X.A (handleBy (.ref a) X.env hds) (SP X pins D) X.xe { s' with heap := h3 } := by
  intro hds l hk
  induction hk with
  | nil => exact fun w => w.elim
  | @cons x c ts b₀ suite np pos' hds2 l2 hc hsu r ih =>
    rintro ⟨b, hb, hyes, hno⟩
    have I3 := J3 h3 fl3 (Heap.UpToSlots.refl _)
    obtain ⟨oe, vs, he, hz, hd⟩ := fl3.there
    have S := I3.suite he hd na nL nF
    refine wpAny_handleBy_cons (codeAny_handlers_test ?_) (by intro q; cases q)
    have look : PySem.W.Looks (model X.prog X.w) h3 (typeOf (.ref a)) cls := fun A Q E s k q => wpAny_typeOf_ref (k _ _ he) (by rw [hz.1]; exact q)
    have goes := PySem.W.exm_one (M := model X.prog X.w) I3.kIn look hb
    have name : ∀ {Q : Value → Shared → Prop} {E : Value → Shared → Prop}, Q c { s' with heap := h3 } → wpAny (model X.prog X.w) (X.A.mark (some (.ref a))) (eval (.Name x np) X.env) Q E { s' with heap := h3 } := fun q => by
      obtain ⟨g, db, m | ⟨m, v, nn⟩⟩ := hc
      · exact ld_glob (X := X.suite a ((a, oe) :: (X.pn ++ pins))) S g m q db
      · exact ld_blt (X := X.suite a ((a, oe) :: (X.pn ++ pins))) S g m v q nn db
    refine name (goes.here ?_)
    cases b with
    | false => exact ih (hno rfl)
    | true =>
      refine codeAny_handlers_suite_as (HandSPX.lands_againZ fl3 fun h4 fl4 up4 => ?_)
      have I4 := J3 h4 fl4 up4
      obtain ⟨oe4, vs4, he4, hz4, hd4⟩ := fl4.there
      refine store_ok (X := X.suite a ((a, oe4) :: (X.pn ++ pins))) (v := .ref a) (I4.suite he4 hd4 na nL nF) hN hi (.inl hln) rfl (fun s5 S5 => ?_) (.inr hln)
      refine wpAny_mono ((hsu a oe4 cls d (X.pn ++ pins) hz4 ⟨_, hd4⟩).run [] s5 _ H' _ S5 (hyes rfl a na)) (fun f s6 out => ?_) (fun _ _ z => False.elim z)
      cases f with
      | ret u =>
        obtain ⟨v6, σ6, H6, S6, r6, q6⟩ := out
        exact gone_ok (S6.unsuite ok) hN hi hln fun s7 J7 => ⟨_, _, _, J7, r6, q6⟩
      | _ =>
        obtain ⟨_, _, _, q⟩ := out
        exact q.elim
theorem ps_try_cls {body : List Stmt} {h₀ : ExceptHandler} {hds : List ExceptHandler} {l : List Claus} {pos : Pos} {tb : WX → TS} {Wout : WX} (hs : X.stack = X.env :: X.outer) (hf : X.env.frame = some X.env.locals) (hN : X.N.Nodup) (hi : X.N[i]? = some n) (hln : X.env.kindOf n = some .local)
    (hb : ∀ (W : WX) (pn : List (Addr × Obj)) (xe : Value → Shared → Prop), Takes (X.tr pn xe) W → PassesOwn (model X.prog X.w) X.A X.env xe → PSs (X.tr pn xe) body (tb W))
    (hh : Clauses X n (h₀ :: hds) l) : PS X (.Try body (h₀ :: hds) [] [] pos) (fun D σ H => tb (wCls X.K i D l) D σ H) := by
  refine ⟨fun pins s σ H D I h => ?_⟩
  have ok := I.ok
  have hfr : X.A.frames = some (X.env :: X.outer) := by rw [ok.frames, hs]
  let xe' : Value → Shared → Prop := fun e s₁ => wpAny (model X.prog X.w) X.A (noteFrame e X.env) (fun _ s₂ => wpAny (model X.prog X.w) X.A (setFlight e none) (fun _ s₃ =>
    wpAny (model X.prog X.w) X.A (handleBy e X.env (h₀ :: hds)) (SP X pins D) X.xe s₃) X.xe s₂) X.xe s₁
  have tk : Takes (X.tr (X.pn ++ pins) xe') (wCls X.K i D l) := fun u s' xx => by
    obtain ⟨a, B, sI, pins', σ', H', cls, d, rfl, J', nb, up, sky, na, os, ag, w⟩ := xx
    have J : Inv X pins σ' H' sI := J'.ofTry ok
    have sky' : Sky B (X.env :: X.outer) a (Zc cls d) X.env.locals s'.heap := by rw [← hs]; exact sky
    refine Sky.land Zc.steady hfr hf sky' fun h3 fl3 up3 => ?_
    obtain ⟨oe, vs, he, hz, hd⟩ := fl3.there
    have nfr : a ∉ frs (X.env :: X.outer) := fun hm => by
      obtain ⟨_, o', e', hnf⟩ := fl3.2.2.1.mem hm
      rw [he] at e'
      cases e'
      exact hnf _ hd
    refine clauses_ok ok hf hN hi hln fl3 (fun h4 fl4 up4 => J.landed nb fl4.1 ((up.trans up3).trans up4) os ag) na (fun z => nfr (List.mem_filterMap.mpr ⟨X.env, List.mem_cons_self, by rw [hf, z]⟩)) (fun hm => ?_) hh w
    obtain ⟨e, he, q⟩ := List.mem_filterMap.mp hm
    exact nfr (List.mem_filterMap.mpr ⟨e, List.mem_cons_of_mem _ he, q⟩)
  refine wpAny_Try_except ?_
  refine wpAny_mono ((hb (wCls X.K i D l) (X.pn ++ pins) xe' tk PassesOwn.looking).run [] s σ H D (I.toTry _) h) (fun f s1 out => ?_) (fun e s1 he => he)
  cases f with
  | next =>
    obtain ⟨σ1, H1, J1, q⟩ := out
    exact wpAny_execs_nil ⟨σ1, H1, J1.ofTry ok, q⟩
  | brk =>
    obtain ⟨σ1, H1, J1, q⟩ := out
    exact ⟨σ1, H1, J1.ofTry ok, q⟩
  | cont =>
    obtain ⟨σ1, H1, J1, q⟩ := out
    exact ⟨σ1, H1, J1.ofTry ok, q⟩
  | ret u =>
    obtain ⟨v, σ1, H1, J1, r, q⟩ := out
    exact ⟨v, σ1, H1, J1.ofTry ok, r, q⟩
end
end L2
namespace ML
open PySem PySem.Spec L2
/-- two clauses -/
def mTry2 (i : Nat) (x1 : Str) (fl1 : List Str) (g1 : Er → A) (x2 : Str) (fl2 : List Str) (g2 : Er → A) (m : MS) : MS := fun ρ st => match m ρ st with
  | .er e ρ1 st1 => if e.cls = x1 ∧ e.fs.map (·.1) = fl1 ∧ i < ρ1.length then .rt (g1 e) st1 else if e.cls = x2 ∧ e.fs.map (·.1) = fl2 ∧ i < ρ1.length then .rt (g2 e) st1 else .bad
  | r => r
section
variable {X : Cx} {W : WX} {i : Nat} {n x1 x2 : Str} {C1 C2 : Addr} {fl1 fl2 : List Str} {g1 g2 : Er → A} {m : MS} {body s1 s2 : List Stmt} {b1 b2 : Stmt} {np1 np2 pos pos1 pos2 : Pos}
theorem pss_retE {e : Expr} {rp : Pos} {a : Addr} {cls : Value} {d : Option Addr} {C : Addr} {x : Str} {fl : List Str} {g : Er → A} {oe : Obj} {pn : List (Addr × Obj)} (h : PE (X.suite a ((a, oe) :: pn)) e (tV X i a cls C d x fl g)) : PSs (X.suite a ((a, oe) :: pn)) [.Return (some e) rp] (tSu X i a cls C d x fl g) :=
  pss_one ((ps_ret h).imp fun D σ H h => h)
theorem ms_try2 (hs : X.stack = X.env :: X.outer) (hf : X.env.frame = some X.env.locals) (hN : X.N.Nodup) (hi : X.N[i]? = some n) (hln : X.env.kindOf n = some .local)
    (hg1 : Gl X x1) (hC1 : X.mg x1 = some (.ref C1)) (h11 : PySem.W.exmOne X.K (.ref C1) (.ref C1) = some true)
    (hg2 : Gl X x2) (hC2 : X.mg x2 = some (.ref C2)) (h22 : PySem.W.exmOne X.K (.ref C2) (.ref C2) = some true) (h21 : PySem.W.exmOne X.K (.ref C2) (.ref C1) = some false)
    (hb : ∀ (W : WX) (pn : List (Addr × Obj)) (xe : Value → Shared → Prop), Takes (X.tr pn xe) W → PassesOwn (model X.prog X.w) X.A X.env xe → PSs (X.tr pn xe) body (tS X W m))
    (u1 : ∀ (a : Addr) (oe : Obj) (cls : Value) (d : Option Addr) (pn : List (Addr × Obj)), Zc cls d oe → (∃ vs, oe.data = .fields vs) → PSs (X.suite a ((a, oe) :: pn)) (b1 :: s1) (tSu X i a cls C1 d x1 fl1 g1))
    (u2 : ∀ (a : Addr) (oe : Obj) (cls : Value) (d : Option Addr) (pn : List (Addr × Obj)), Zc cls d oe → (∃ vs, oe.data = .fields vs) → PSs (X.suite a ((a, oe) :: pn)) (b2 :: s2) (tSu X i a cls C2 d x2 fl2 g2))
    (hd1 : (x1 == ("__debug__" : Str)) = false := by decide) (hd2 : (x2 == ("__debug__" : Str)) = false := by decide) :
    PS X (.Try body [.ExceptHandler (some (.Name x1 np1)) (some n) (b1 :: s1) pos1, .ExceptHandler (some (.Name x2 np2)) (some n) (b2 :: s2) pos2] [] [] pos) (tS X W (mTry2 i x1 fl1 g1 x2 fl2 g2 m)) :=
  (ps_try_cls (i := i) (l := [(.ref C1, fun a cls d => tSu X i a cls C1 d x1 fl1 g1), (.ref C2, fun a cls d => tSu X i a cls C2 d x2 fl2 g2)]) (tb := fun W => tS X W m) (Wout := W) hs hf hN hi hln hb
    (.cons ⟨hg1, hd1, .inl hC1⟩ u1 (.cons ⟨hg2, hd2, .inl hC2⟩ u2 .nil))).imp fun D σ H ⟨φ, ρ, st, rs, re, h⟩ => by
    refine ⟨φ, ρ, st, rs, re, ?_⟩
    unfold mTry2 at h
    cases q : m ρ st with
    | er er ρ1 st1 =>
      rw [q] at h
      simp only at h
      have cl : ∀ {C : Addr} {x : Str} {φ' : List Addr} {c : Value} {d : Option Addr} {H' : Hp}, X.mg x = some (.ref C) → er.cls = x → RErr X.K X.mg φ' H' c d er → c = .ref C := fun hC hx r => by
        have := r.1
        rw [hx, hC] at this
        exact (Option.some.inj this).symm
      by_cases hc : er.cls = x1 ∧ er.fs.map (·.1) = fl1 ∧ i < ρ1.length
      · rw [if_pos hc] at h
        intro φ' c d σ' H' e1 rs1 re1 r1
        obtain ⟨c1, c2, c3⟩ := hc
        have hcc := cl hC1 c1 r1
        subst hcc
        refine ⟨true, h11, fun _ a ha => ⟨rfl, ?_, er, φ', st1, rs1, r1, c1, c2, fun φ2 H2 u e2 rs2 rv2 => h φ2 u H2 (e1.trans e2) rs2 rv2⟩, fun z => by cases z⟩
        rw [List.getElem?_set_self (by rw [re1.len]; exact c3)]
      · rw [if_neg hc] at h
        by_cases hc : er.cls = x2 ∧ er.fs.map (·.1) = fl2 ∧ i < ρ1.length
        · rw [if_pos hc] at h
          intro φ' c d σ' H' e1 rs1 re1 r1
          obtain ⟨c1, c2, c3⟩ := hc
          have hcc := cl hC2 c1 r1
          subst hcc
          refine ⟨false, h21, (fun z => by cases z), fun _ => ⟨true, h22, fun _ a ha => ⟨rfl, ?_, er, φ', st1, rs1, r1, c1, c2, fun φ2 H2 u e2 rs2 rv2 => h φ2 u H2 (e1.trans e2) rs2 rv2⟩, fun z => by cases z⟩⟩
          rw [List.getElem?_set_self (by rw [re1.len]; exact c3)]
        · rw [if_neg hc] at h
          exact h.elim
    | nx ρ1 st1 => rw [q] at h; exact h
    | bk ρ1 st1 => rw [q] at h; exact h
    | ct ρ1 st1 => rw [q] at h; exact h
    | rt v st1 => rw [q] at h; exact h
    | bad => rw [q] at h; exact h.elim
end
end ML

/-! x in a list of ints -/
namespace ML
open PySem L2
section
variable {X : Cx}
theorem rvs_ints {K : PySem.W.Frag} {φ : List Addr} {H : Hp} : ∀ {ns : List Int} {vs : List V}, RVs K φ H vs (ns.map A.int) → vs = ns.map V.int
  | [], vs, h => by cases h; rfl
  | n :: ns, vs, h => by
    rw [List.map_cons] at h
    cases h with
    | cons a b =>
      cases a
      rw [rvs_ints b]
      rfl
def inA : A → A → Store → R A
  | .int i, .ref r, st => match st[r]? with
    | some (.lst xs) => match intsOf xs with
      | some ns => .ok (.bl (decide (i ∈ ns))) st
      | none => .bad
    | _ => .bad
  | _, _, _ => .bad
theorem inV_ints (i : Int) : ∀ ns : List Int, inV (.int i) (ns.map V.int) = decide (i ∈ ns)
  | [] => by simp [inV]
  | n :: ns => by
    have ih := inV_ints i ns
    unfold inV at ih ⊢
    rw [List.map_cons, List.any_cons, ih]
    show (n == i || decide (i ∈ ns)) = _
    by_cases c : n = i
    · simp [c]
    · have c' : ¬ i = n := fun e => c e.symm
      simp [c, c']
theorem flat_ints (ns : List Int) : (ns.map V.int).all flatV = true := by
  rw [List.all_eq_true]
  intro x hx
  obtain ⟨n, _, rfl⟩ := List.mem_map.mp hx
  rfl
theorem os_in : OpS X (rIn X.K false) inA := fun W φ H st x y a b Q rs ra rb h => by
  cases ra with
  | int i =>
    cases rb with
    | @ref p r q =>
      unfold inA at h
      simp only at h
      cases e1 : st[r]? with
      | none => rw [e1] at h; exact h.elim
      | some o1 =>
        cases o1 with
        | oth u => rw [e1] at h; exact h.elim
        | lst xs =>
          rw [e1] at h
          simp only at h
          cases e2 : intsOf xs with
          | none => rw [e2] at h; exact h.elim
          | some ns =>
            rw [e2] at h
            simp only at h
            obtain ⟨vs, h1, h1'⟩ := rs.lst q e1
            rw [intsOf_eq e2] at h1'
            have e3 := rvs_ints h1'
            subst e3
            refine ⟨p, _, rfl, .inl (.inl (.inl h1)), rfl, flat_ints ns, ?_⟩
            rw [inV_ints]
            exact h.ok rs (.bl _)
    | _ => exact (show False from h).elim
  | _ => exact (show False from h).elim
end
end ML

/-! enumerate over a tuple -/
namespace PySem
open PyProof.Rows
theorem meets_enum_one {v : Value} {o : Obj} {H : Heap → Prop} (B : Begins v o H) :
    Meets (Builtin.«enumerate.__new__» ⟨[.type "enumerate", v], []⟩) (fun _ R s => H s.heap ∧
      R (.ok (.ret (.ref (s.heap.push o).objs.size))) { s with heap := (s.heap.push o).push { cls := .type "enumerate", data := .fields #[.none, .bool false, .ref s.heap.objs.size, rawInt 0, .none, .none] } }) :=
  .of_wp fun prog w A R s h => by
    obtain ⟨hp, g, d, tk, os⟩ := s
    obtain ⟨h1, h⟩ := h
    have hsub := sub_enumerate
    have begin : ∀ {A' : Around} {E : Value → Shared → Prop} {Q : Value → Shared → Prop}, Q (.ref hp.objs.size) ⟨hp.push o, g, d, tk, os⟩ → wpAny (model prog w) A' (pyIter v) Q E ⟨hp, g, d, tk, os⟩ :=
      fun q => B.iter prog w _ _ ⟨hp, g, d, tk, os⟩ _ h1 q
    wp_walk using begin
    refine wpAny_stack_any fun st => wpAny_pure ?_
    split
    · rename_i c _ _ _ _ _
      cases (c == Value.type "enumerate")
      · wp_walk using begin
        exact ⟨_, rfl, h⟩
      · wp_walk using begin
        exact ⟨_, rfl, h⟩
    · wp_walk using begin
      exact ⟨_, rfl, h⟩
section
variable {prog : Program} {w : World} {A : Around} {E : Value → Shared → Prop} {s : Shared}
theorem enum_one {v : Value} {o : Obj} {H : Heap → Prop} {Q : Value → Shared → Prop} (B : Begins v o H) (h1 : H s.heap)
    (h : ∀ h', IsEnum h' (s.heap.objs.size + 1) s.heap.objs.size 0 .none → h'.get? s.heap.objs.size = some o → h'.objs.size = s.heap.objs.size + 2 →
      (∀ b o, s.heap.get? b = some o → h'.get? b = some o) → Q (.ref (s.heap.objs.size + 1)) { s with heap := h' }) :
    wpAny (model prog w) A (call (.type "enumerate") [v]) Q E s := by
  refine callType_new F.called_enumerate (by decide) (F.typeCall_enumerate_1 _) (F.newCall_enumerate_1 _) (fun obj => F.args_object_init_2 obj _) F.entry_enumerate_new (meets_enum_one B) ⟨h1, ?_⟩
  have hz : (s.heap.push o).objs.size = s.heap.objs.size + 1 := Heap.size_push ..
  show _ ∧ _
  rw [hz]
  have he : IsEnum ((s.heap.push o).push { cls := .type "enumerate", data := .fields #[.none, .bool false, .ref s.heap.objs.size, rawInt 0, .none, .none] }) (s.heap.objs.size + 1) s.heap.objs.size 0 .none := by
    have := Heap.get?_push_size (s.heap.push o) (o := { cls := .type "enumerate", data := .fields #[.none, .bool false, .ref s.heap.objs.size, rawInt 0, .none, .none] }) rfl
    rw [hz] at this
    exact this
  exact ⟨⟨_, he, rfl⟩, h _ he (Heap.get?_push_of_some _ (Heap.get?_push_size _ B.free)) (by rw [Heap.size_push, hz]) fun b o x => Heap.get?_push_of_some _ (Heap.get?_push_of_some _ x)⟩
end
end PySem
namespace L2
open PySem PySem.Spec PyProof.Rows
def IteT (K : PySem.W.Frag) (a : Addr) : It :=
  ⟨fun i H => ∃ (xs : List V) (x : V), SqT K H a xs ∧ xs[i]? = some x, fun i H v H' => ∃ T x, v = .ref T ∧ H T = none ∧ H' = upd H T (.tup [.int (i : Nat), x]) ∧ ∀ xs, SqT K H a xs → xs[i]? = some x, fun i H => ∃ xs : List V, SqT K H a xs ∧ xs.length ≤ i⟩
theorem turn_enumT {P : Program} {w : World} {K : PySem.W.Frag} {elts : List Expr} {kk : Nat} {tpos : Pos} (a e it : Addr) :
    Turn P w K (.Tuple elts kk tpos) (IteT K a) [e, it] e (fun i h => (∃ old, IsEnum h e it ((i : Nat) : Int) old) ∧ h.IsTupleIter it a i ∧ e ≠ it) where
  mem := by simp
  obj := fun i h st b hb => by
    obtain ⟨⟨old, he⟩, ⟨o, ho, hc, hd⟩, _⟩ := st
    have e' : b = e ∨ b = it := by simpa using hb
    rcases e' with z | z
    · rw [z]; exact ⟨_, he, fun v q => nomatch q⟩
    · rw [z]; exact ⟨o, ho, fun v q => by rw [hd] at q; cases q⟩
  keep := fun i h h' st k => let ⟨⟨old, he⟩, hi, hne⟩ := st; ⟨⟨old, k e (by simp) _ he⟩, hi.at fun o q => k it (by simp) o q, hne⟩
  item := by
    intro X hP hw hK hc i pins s σ H E I hf st hg
    subst hP hw hK
    obtain ⟨⟨old, he⟩, hit, hne⟩ := st
    obtain ⟨xs, x, hq, hx⟩ := hg
    obtain ⟨its, rv, p, hz⟩ := I.tuple hq
    obtain ⟨u, hu, ru⟩ := rv.get hx
    have hel : e < s.heap.objs.size := Heap.lt_size he
    have hil : it < s.heap.objs.size := by obtain ⟨_, q, _⟩ := hit; exact Heap.lt_size q
    have pt : s.heap.IsTuple a its.toArray := p
    have hta : a ≠ it := fun z => by
      obtain ⟨o, ho, hc', _⟩ := hit
      obtain ⟨o2, ho2, hc2, _⟩ := pt
      rw [z, ho] at ho2
      cases ho2
      have z2 : Value.type "tuple_iterator" = .type "tuple" := hc'.symm.trans hc2
      exact absurd (Value.type.inj z2) (by decide)
    have hea : e ≠ a := fun z => by
      obtain ⟨o2, ho2, hc2, _⟩ := pt
      rw [← z] at ho2
      have he' : s.heap.get? e = some _ := he
      rw [he'] at ho2
      cases ho2
      have z2 : Value.type "enumerate" = .type "tuple" := hc2
      exact absurd (Value.type.inj z2) (by decide)
    have hi : i < its.toArray.size := by
      have := (List.getElem?_eq_some_iff.mp hu).1
      simpa using this
    refine wpAny_pyNext_enum_itemD (Draws.tuple (prog := X.prog) (w := X.w) (A := X.A.in1) (I.ok.hd hc) it a hta its.toArray) he ⟨hit, pt⟩ hi hne (by simp [hne, hea]) fun x1 h' tk hP ho hst hT hsz hk => ?_
    have ex : x1 = u := by
      have h1 : its.toArray[i]? = some x1 := hP
      have h2 : its.toArray[i]? = some u := by simpa using hu
      rw [h1] at h2
      exact Option.some.inj h2
    subst ex
    refine ⟨_, rfl, wpAny_letOwnedTupleGo_enum (s := { s with heap := h', toks := tk + 1 }) ho fun h'' he' sb => ?_⟩
    have hT2 : h''.get? s.heap.objs.size = some { cls := .type "tuple", data := .seq #[.int i tk, x1] } := (sb.2 _ (Nat.ne_of_gt hel)).trans hT
    have new : ObjOk X.prog X.w (upd H s.heap.objs.size (.tup [.int (i : Nat), x])) h'' s.heap.objs.size (.tup [.int (i : Nat), x]) :=
      ⟨by show 2 ≤ sizeLine; decide, [.int i tk, x1], .cons ⟨_, rfl⟩ (.cons ru .nil), ⟨_, hT2, rfl, _, rfl⟩⟩
    have I1 : Inv X pins σ (upd H s.heap.objs.size (.tup [.int (i : Nat), x])) { s with heap := h'', toks := tk + 1 } :=
      I.turnedNew (ch := [e, it]) (fun b ob hb q => (sb.2 b (fun z => hb (by simp [z]))).trans (hk b ob (fun z => hb (by simp [z])) (fun z => hb (by simp [z])) q)) hf (Nat.le_refl _) new
    refine ⟨.ref s.heap.objs.size, _, I1, rfl, ⟨_, x, rfl, I.hok.fresh (Nat.le_refl _), rfl, fun ys hy => by rw [I.tuple_inj hy hq]; exact hx⟩, ⟨⟨x1, ?_⟩, hst.1.at fun o q => (sb.2 it (Ne.symm hne)).trans q, hne⟩, fun b hb => ?_⟩
    · have e1 : ((i + 1 : Nat) : Int) = (i : Int) + 1 := by omega
      rw [e1]
      exact he'
    · have hb' : b < s.heap.objs.size := by
        have e' : b = e ∨ b = it := by simpa using hb
        rcases e' with z | z
        · rw [z]; exact hel
        · rw [z]; exact hil
      rw [upd_ne (Nat.ne_of_lt hb')]
      exact (hf b hb).1
  done := by
    intro X hP hw hK hc i pins s σ H E I hf st hg
    subst hP hw hK
    obtain ⟨⟨old, he⟩, hit, hne⟩ := st
    obtain ⟨xs, hq, hx⟩ := hg
    obtain ⟨its, rv, p, hz⟩ := I.tuple hq
    obtain ⟨f0, f1, f2, f3, f4, f5⟩ := hf it (by simp)
    have hl := rv.length
    have pt : s.heap.IsTuple a its.toArray := p
    have D : Draws X.prog X.w X.A.in1 it [it, a] i (fun _ _ => False) (fun j h => j = i ∧ h.IsTupleIter it a i ∧ h.IsTuple a its.toArray) :=
      { live := fun _ _ st => let ⟨o, ho, _⟩ := st.2.1; ⟨o, ho⟩
        frame := fun _ _ _ st k => ⟨st.1, st.2.1.at fun o q => k it (by simp) o q, st.2.2.at fun o q => k a (by simp) o q⟩
        item := fun j s Q E hj st _ => absurd hj (by have := st.1; omega)
        done := fun s Q E st hE => wpAny_nextOf_tuple_end (I.ok.hd hc) st.2.1 st.2.2 (by simp; omega) hE }
    exact wpAny_pyNext_enum_endD D he ⟨rfl, hit, pt⟩ fun h' eb => ⟨rfl, I.turned (t' := s.toks) (fun b o hb q => eb b o hb q) f0 f1 f3 f4 f5⟩
  self := fun A i s Q E st h => let ⟨⟨_, he⟩, _⟩ := st; wpAny_pyIter_enum he h
def iEnumT (K : PySem.W.Frag) (ta : TA) : TI := fun σ H R => ta σ H fun vs H1 => ∃ a xs, vs = [.ref a] ∧ SqT K H1 a xs ∧ R (IteT K a) H1
theorem pi_enumT {X : Cx} {e : Expr} {ta : TA} {p pos tpos : Pos} {elts : List Expr} {kk : Nat} (hg : Gl X "enumerate") (hm : X.mg "enumerate" = none) (ha : PA X [e] ta) (hs : starEach [e] X.env = [(false, eval e X.env)] := by rfl) :
    PI X (.Tuple elts kk tpos) (.Call (.Name "enumerate" p) [e] [] pos) (iEnumT X.K ta) := by
  refine ⟨fun pins s σ H R I h => ?_⟩
  refine Call_ (ld_blt I hg hm boot_enumerate (PyProof.Rows.callWith_type1 (thn (ha.run pos pins s σ H _ I h) fun us s1 ⟨vs, H1, I1, r1, q1⟩ => ?_) hs rfl))
  obtain ⟨a, xs, ex, hq, q⟩ := q1
  subst ex
  cases r1 with
  | cons r rr =>
    cases rr
    cases r
    obtain ⟨its, rv, p', hz⟩ := I1.tuple hq
    refine enum_one (begins_tuple a its.toArray) (show s1.heap.IsTuple a its.toArray from p') fun h' he hit hsz hk => wpAny_pyIter_enum he ?_
    have I2 : Inv X pins σ H1 { s1 with heap := h' } := I1.kept (t' := s1.toks) hk
    refine ⟨s1.heap.objs.size + 1, [s1.heap.objs.size + 1, s1.heap.objs.size], _, _, H1, rfl, I2, turn_enumT a (s1.heap.objs.size + 1) s1.heap.objs.size, ⟨⟨.none, he⟩, ⟨_, hit, rfl, rfl⟩, Nat.succ_ne_self _⟩, fun b hb => ?_, q⟩
    have e' : b = s1.heap.objs.size + 1 ∨ b = s1.heap.objs.size := by simpa using hb
    have hle : s1.heap.objs.size ≤ b := by
      rcases e' with z | z
      · rw [z]; exact Nat.le_add_right _ _
      · rw [z]; exact Nat.le_refl _
    exact I1.fpOk hle (I1.hok.fresh hle)
end L2
namespace ML
open PySem L2
/-- the pairs of enumerate over a tuple -/
def cntA (n : Nat) : List A := (List.range n).map fun (i : Nat) => A.int (i : Int)
section
variable {K : PySem.W.Frag} {w : World} {mg : Str → Option Value} {φ0 : List Addr} {H0 : Hp}
theorem sim_enut {a : Addr} {xs : List V} {ds : List A} (q : StT K φ0 H0 a xs) (qs : RVs K φ0 H0 xs ds) : SimB K w mg true φ0 H0 (IteT K a) (.zipv (cntA ds.length) ds) where
  stop := fun i φ H st e rs h => by
    refine ⟨xs, (q.ext e).sq, ?_⟩
    rw [qs.length]
    unfold Src.at at h
    simp only [Option.some.injEq] at h
    rcases Nat.lt_or_ge i ds.length with c | c
    · have h1 : (cntA ds.length)[i]? = some (.int (i : Int)) := by simp [cntA, c]
      have h2 : ds[i]? = some ds[i] := List.getElem?_eq_getElem c
      rw [h1, h2] at h
      cases h
    · exact c
  go := fun i φ H st d e rs h => by
    unfold Src.at at h
    simp only [Option.some.injEq] at h
    rcases Nat.lt_or_ge i ds.length with c | c
    · have h1 : (cntA ds.length)[i]? = some (.int (i : Int)) := by simp [cntA, c]
      have h2 : ds[i]? = some ds[i] := List.getElem?_eq_getElem c
      rw [h1, h2] at h
      cases h
      obtain ⟨v, g2, g3⟩ := qs.get h2
      refine ⟨⟨xs, v, (q.ext e).sq, g2⟩, fun x H' y => ?_⟩
      obtain ⟨T, x', rfl, hT, rfl, f1⟩ := y
      have z1 := (f1 xs (q.ext e).sq).symm.trans g2
      cases z1
      exact ⟨ext_new hT, rs.new hT, T, _, _, rfl, rfl, .inl (.inl upd_same), RVs.ext (ext_new hT) (.cons (.int _) (.cons (g3.ext e) .nil))⟩
    · have h2 : ds[i]? = none := List.getElem?_eq_none c
      rw [h2] at h
      split at h <;> simp_all
end
section
variable {X : Cx} {W : WX} {a : Expr} {ms : MA} {pos : Pos}
def enumT : List A → Store → R Src
  | [.tup xs], st => .ok (.zipv (cntA xs.length) xs) st
  | _, _ => .bad
def mEnumT (ms : MA) : Env → Store → R Src := fun ρ st => (ms ρ st).bind enumT
theorem mi_enumT {p tpos : Pos} {elts : List Expr} {kk : Nat} (hm : X.mg "enumerate" = none) (ha : PA X [a] (tA X W ms)) (hg : Gl X "enumerate" := by rfl) (hs : starEach [a] X.env = [(false, eval a X.env)] := by rfl) :
    PI X (.Tuple elts kk tpos) (.Call (.Name "enumerate" p) [a] [] pos) (tIW X W (mEnumT ms)) := PIimp (pi_enumT hg hm ha hs) fun σ H Q ⟨φ, ρ, st, rs, re, h⟩ => by
  refine ⟨φ, ρ, st, rs, re, h.seq fun φ1 ds vs H1 st1 e1 rs1 rv1 h1 => ?_⟩
  unfold enumT at h1
  split at h1
  · rename_i xs
    obtain ⟨v, rfl, rr⟩ := one_rv rv1
    cases rr with
    | tup q qs => exact ⟨_, _, rfl, q.sq, h1.ok rs1 (sim_enut q qs)⟩
  · exact h1.elim
end
end ML

/-! a clause of try that sets a local ahead of its return -/
namespace ML
open PySem PySem.Spec L2
def tVg (X : Cx) (i j : Nat) (b : Bool) (a : Addr) (cls : Value) (C : Addr) (d : Option Addr) (x : Str) (fl : List Str) (g : Er → A) : TE := fun σ H Q => σ[j]? = some (some (.bl b)) ∧ tV X i a cls C d x fl g σ H Q
def tVgs (X : Cx) (i j : Nat) (b : Bool) (a : Addr) (cls : Value) (C : Addr) (d : Option Addr) (x : Str) (fl : List Str) (g : Er → List A) : TA := fun σ H Q => σ[j]? = some (some (.bl b)) ∧ tVs X i a cls C d x fl g σ H Q
def tSuJ (X : Cx) (i j : Nat) (a : Addr) (cls : Value) (C : Addr) (d : Option Addr) (x : Str) (fl : List Str) (g : Er → A) : TS := fun D σ H => j < σ.length ∧ tV X i a cls C d x fl g σ H D.rt
section
variable {X Y : Cx} {i j : Nat} {b0 : Bool} {ad C : Addr} {cls : Value} {d : Option Addr} {x : Str} {fl : List Str} {e e' : Expr} {es : List Expr} {pos : Pos} {g g' : Er → A} {gs : Er → List A}
theorem xg_of (h : PE Y e (tV X i ad cls C d x fl g)) : PE Y e (tVg X i j b0 ad cls C d x fl g) := h.imp fun _ _ _ q => q.2
theorem xg_var {n : Str} {p : Pos} (h : PE Y (.Name n p) (tVar j)) : PE Y (.Name n p) (tVg X i j b0 ad cls C d x fl fun _ => .bl b0) := h.imp fun σ H Q ⟨hp, hcl, hs, er, φ, st, rs, r, ex, ef, h⟩ => ⟨_, hp, h _ _ _ .refl rs (.bl _)⟩
theorem xgs_nil : PA Y [] (tVgs X i j b0 ad cls C d x fl fun _ => []) := pa_nil.imp fun _ _ _ ⟨_, _, _, _, _, _, rs, _, _, _, h⟩ => h _ _ _ .refl rs .nil
theorem xgs_cons (ha : PE Y e (tVg X i j b0 ad cls C d x fl g)) (hr : PA Y es (tVgs X i j b0 ad cls C d x fl gs)) (hs : starEach (e :: es) Y.env = (false, eval e Y.env) :: starEach es Y.env := by rfl) : PA Y (e :: es) (tVgs X i j b0 ad cls C d x fl fun er => g er :: gs er) :=
  (pa_cons ha hr hs).imp fun σ H Q ⟨hp, hcl, hs, er, φ, st, rs, r, ex, ef, h⟩ =>
    ⟨hp, hcl, hs, er, φ, st, rs, r, ex, ef, fun φ1 H1 u e1 rs1 rv1 => ⟨hp, hcl, hs, er, φ1, st, rs1, r.ext e1, ex, ef, fun φ2 H2 us e2 rs2 rv2 => h φ2 H2 _ (e1.trans e2) rs2 (.cons (rv1.ext e2) rv2)⟩⟩
theorem xg_tup {x1} (h : PA Y es (tVgs X i j b0 ad cls C d x fl gs)) (hl : ∀ er, (gs er).length ≤ 1000) : PE Y (.Tuple es x1 pos) (tVg X i j b0 ad cls C d x fl fun er => .tup (gs er)) :=
  (pe_tupP h).imp fun σ H Q ⟨hp, hcl, hs, er, φ, st, rs, r, ex, ef, h⟩ =>
    ⟨hp, hcl, hs, er, φ, st, rs, r, ex, ef, fun φ1 H1 us e1 rs1 rv1 => ⟨by
      have := hl er
      rw [rv1.length, sizeLine_eq]
      omega, fun p o hd hp => h φ1 _ _ (e1.trans (ext_new hp)) (rs1.new hp) (.newTup rs1 hd hp rv1)⟩⟩
theorem xg_one {op} (ha : PE Y e (tVg X i j b0 ad cls C d x fl g)) : PE Y (.BoolOp op [e] pos) (tVg X i j b0 ad cls C d x fl g) := pe_one ha
theorem xg_and {b1 b2 : Bool} {rest : List Expr} (ha : PE Y e (tVg X i j b0 ad cls C d x fl fun _ => .bl b1)) (hb : PE Y (.BoolOp .And (e' :: rest) pos) (tVg X i j b0 ad cls C d x fl fun _ => .bl b2)) : PE Y (.BoolOp .And (e :: e' :: rest) pos) (tVg X i j b0 ad cls C d x fl fun _ => .bl (b1 && b2)) :=
  (pe_and ha hb).imp fun σ H Q ⟨hp, hcl, hs, er, φ, st, rs, r, ex, ef, h⟩ => by
    refine ⟨hp, hcl, hs, er, φ, st, rs, r, ex, ef, fun φ1 H1 u e1 rs1 rv1 => ?_⟩
    cases rv1
    refine ⟨b1, rfl, ?_⟩
    cases b1 with
    | true => exact iteT ⟨hp, hcl, hs, er, φ1, st, rs1, r.ext e1, ex, ef, fun φ2 H2 u e2 rs2 rv2 => h φ2 H2 u (e1.trans e2) rs2 rv2⟩
    | false => exact iteF (h φ1 H1 _ e1 rs1 (.bl _))
theorem pss_setRet {nm : Str} {e1 e2 : Expr} {p1 p2 p3 : Pos} (hij : i ≠ j) (hN : Y.N.Nodup) (hi : Y.N[j]? = some nm) (hx : Loc Y.env.scope nm) (h1 : PE Y e1 (tV X i ad cls C d x fl fun _ => .bl b0)) (h2 : PE Y e2 (tVg X i j b0 ad cls C d x fl g))
    (hs : swapsWith e1 (some (.Name nm p1)) p2.line Y.env = pure false := by rfl) (hf : Y.fn nm = true ∨ Y.env.scope.names.lookup nm = some .local := by first | exact .inl rfl | exact .inr rfl | assumption) :
    PSs Y [.Assign [.Name nm p1] e1 p2, .Return (some e2) p3] (tSuJ X i j ad cls C d x fl g) :=
  (pss_cons (ps_set hN hi hx h1 hs hf) (pss_one (ps_ret h2))).imp fun D σ H ⟨hl, hcl, hs, er, φ, st, rs, r, ex, ef, h⟩ => by
    refine ⟨hcl, hs, er, φ, st, rs, r, ex, ef, fun φ1 H1 u e1 rs1 rv1 => ?_⟩
    cases rv1
    refine ⟨?_, hcl, ?_, er, φ1, st, rs1, r.ext e1, ex, ef, fun φ2 H2 u e2 rs2 rv2 => h φ2 H2 u (e1.trans e2) rs2 rv2⟩
    · rw [List.getElem?_set_self hl]
    · rw [List.getElem?_set_ne (fun z => hij z.symm)]
      exact hs
end
/-- two clauses, the first sets slot j -/
def mTry2J (i j : Nat) (x1 : Str) (fl1 : List Str) (g1 : Er → A) (x2 : Str) (fl2 : List Str) (g2 : Er → A) (m : MS) : MS := fun ρ st => match m ρ st with
  | .er e ρ1 st1 => if e.cls = x1 ∧ e.fs.map (·.1) = fl1 ∧ i < ρ1.length ∧ j < ρ1.length then .rt (g1 e) st1 else if e.cls = x2 ∧ e.fs.map (·.1) = fl2 ∧ i < ρ1.length then .rt (g2 e) st1 else .bad
  | r => r
section
variable {X : Cx} {W : WX} {i : Nat} {n x1 x2 : Str} {C1 C2 : Addr} {fl1 fl2 : List Str} {g1 g2 : Er → A} {m : MS} {body s1 s2 : List Stmt} {b1 b2 : Stmt} {np1 np2 pos pos1 pos2 : Pos}
theorem ms_try2J {j : Nat} (hs : X.stack = X.env :: X.outer) (hf : X.env.frame = some X.env.locals) (hN : X.N.Nodup) (hi : X.N[i]? = some n) (hln : X.env.kindOf n = some .local)
    (hg1 : Gl X x1) (hC1 : X.mg x1 = some (.ref C1)) (h11 : PySem.W.exmOne X.K (.ref C1) (.ref C1) = some true)
    (hg2 : Gl X x2) (hC2 : X.mg x2 = some (.ref C2)) (h22 : PySem.W.exmOne X.K (.ref C2) (.ref C2) = some true) (h21 : PySem.W.exmOne X.K (.ref C2) (.ref C1) = some false)
    (hb : ∀ (W : WX) (pn : List (Addr × Obj)) (xe : Value → Shared → Prop), Takes (X.tr pn xe) W → PassesOwn (model X.prog X.w) X.A X.env xe → PSs (X.tr pn xe) body (tS X W m))
    (u1 : ∀ (a : Addr) (oe : Obj) (cls : Value) (d : Option Addr) (pn : List (Addr × Obj)), Zc cls d oe → (∃ vs, oe.data = .fields vs) → PSs (X.suite a ((a, oe) :: pn)) (b1 :: s1) (tSuJ X i j a cls C1 d x1 fl1 g1))
    (u2 : ∀ (a : Addr) (oe : Obj) (cls : Value) (d : Option Addr) (pn : List (Addr × Obj)), Zc cls d oe → (∃ vs, oe.data = .fields vs) → PSs (X.suite a ((a, oe) :: pn)) (b2 :: s2) (tSu X i a cls C2 d x2 fl2 g2))
    (hd1 : (x1 == ("__debug__" : Str)) = false := by decide) (hd2 : (x2 == ("__debug__" : Str)) = false := by decide) :
    PS X (.Try body [.ExceptHandler (some (.Name x1 np1)) (some n) (b1 :: s1) pos1, .ExceptHandler (some (.Name x2 np2)) (some n) (b2 :: s2) pos2] [] [] pos) (tS X W (mTry2J i j x1 fl1 g1 x2 fl2 g2 m)) :=
  (ps_try_cls (i := i) (l := [(.ref C1, fun a cls d => tSuJ X i j a cls C1 d x1 fl1 g1), (.ref C2, fun a cls d => tSu X i a cls C2 d x2 fl2 g2)]) (tb := fun W => tS X W m) (Wout := W) hs hf hN hi hln hb
    (.cons ⟨hg1, hd1, .inl hC1⟩ u1 (.cons ⟨hg2, hd2, .inl hC2⟩ u2 .nil))).imp fun D σ H ⟨φ, ρ, st, rs, re, h⟩ => by
    refine ⟨φ, ρ, st, rs, re, ?_⟩
    unfold mTry2J at h
    cases q : m ρ st with
    | er er ρ1 st1 =>
      rw [q] at h
      simp only at h
      have cl : ∀ {C : Addr} {x : Str} {φ' : List Addr} {c : Value} {d : Option Addr} {H' : Hp}, X.mg x = some (.ref C) → er.cls = x → RErr X.K X.mg φ' H' c d er → c = .ref C := fun hC hx r => by
        have := r.1
        rw [hx, hC] at this
        exact (Option.some.inj this).symm
      by_cases hc : er.cls = x1 ∧ er.fs.map (·.1) = fl1 ∧ i < ρ1.length ∧ j < ρ1.length
      · rw [if_pos hc] at h
        intro φ' c d σ' H' e1 rs1 re1 r1
        obtain ⟨c1, c2, c3, c4⟩ := hc
        have hcc := cl hC1 c1 r1
        subst hcc
        refine ⟨true, h11, fun _ a ha => ⟨by rw [List.length_set, re1.len]; exact c4, rfl, ?_, er, φ', st1, rs1, r1, c1, c2, fun φ2 H2 u e2 rs2 rv2 => h φ2 u H2 (e1.trans e2) rs2 rv2⟩, fun z => by cases z⟩
        rw [List.getElem?_set_self (by rw [re1.len]; exact c3)]
      · rw [if_neg hc] at h
        by_cases hc : er.cls = x2 ∧ er.fs.map (·.1) = fl2 ∧ i < ρ1.length
        · rw [if_pos hc] at h
          intro φ' c d σ' H' e1 rs1 re1 r1
          obtain ⟨c1, c2, c3⟩ := hc
          have hcc := cl hC2 c1 r1
          subst hcc
          refine ⟨false, h21, (fun z => by cases z), fun _ => ⟨true, h22, fun _ a ha => ⟨rfl, ?_, er, φ', st1, rs1, r1, c1, c2, fun φ2 H2 u e2 rs2 rv2 => h φ2 u H2 (e1.trans e2) rs2 rv2⟩, fun z => by cases z⟩⟩
          rw [List.getElem?_set_self (by rw [re1.len]; exact c3)]
        · rw [if_neg hc] at h
          exact h.elim
    | nx ρ1 st1 => rw [q] at h; exact h
    | bk ρ1 st1 => rw [q] at h; exact h
    | ct ρ1 st1 => rw [q] at h; exact h
    | rt v st1 => rw [q] at h; exact h
    | bad => rw [q] at h; exact h.elim
end
end ML
/-! ML13: dicts whose keys are ints and texts, or nested tuples. -/
namespace ML
open PySem PySem.Spec L2 PyProof.Rows
/-! ### plain -/
def atD {β : Type} (kvs : List (NestedKey × β)) (k : NestedKey) : Option β := (kvs.find? fun kv => decide (kv.1 = k)).map (·.2)
def putD {β : Type} (kvs : List (NestedKey × β)) (k : NestedKey) (v : β) : List (NestedKey × β) :=
  if (atD kvs k).isSome = true then kvs.map (fun kv => if kv.1 = k then (kv.1, v) else kv) else kvs ++ [(k, v)]
def stD (st : Store) (r : Nat) : Option (List (NestedKey × A)) := match st[r]? with
  | some (.oth (.dct kvs)) => some kvs
  | _ => none
def tupK : NestedKey → Bool
  | .tup _ => true
  | _ => false
/-- the key may be asked of the dict -/
def fitD (kvs : List (NestedKey × A)) (k : NestedKey) : Bool := decide (k.depth ≤ 8) && (decide (k ≠ .none) && kvs.all fun kv => tupK kv.1 == tupK k)
def stF (st : Store) (r : Nat) : Option (List (NestedKey × A)) := match st[r]? with
  | some (.oth (.frd kvs)) => some kvs
  | _ => none
def askD (d y : A) (st : Store) : Option (Option A) := match d with
  | .ref r => match keyOf y with
    | some k => match stD st r with
      | some kvs => if fitD kvs k = true then some (atD kvs k) else none
      | none => match stF st r with
        | some kvs => if fitD kvs k = true ∧ tupK k = false then some (atD kvs k) else none
        | none => none
    | none => none
  | _ => none
theorem stF_eq {st : Store} {r : Nat} {kvs : List (NestedKey × A)} (h : stF st r = some kvs) : st[r]? = some (.oth (.frd kvs)) := by
  unfold stF at h
  split at h
  · cases h
    assumption
  · cases h
theorem stD_eq {st : Store} {r : Nat} {kvs : List (NestedKey × A)} (h : stD st r = some kvs) : st[r]? = some (.oth (.dct kvs)) := by
  unfold stD at h
  split at h
  · cases h
    assumption
  · cases h
theorem atD_nil {β : Type} {k : NestedKey} : atD ([] : List (NestedKey × β)) k = none := rfl
theorem atD_pos {β : Type} {p : NestedKey × β} {r : List (NestedKey × β)} {k : NestedKey} (e : p.1 = k) : atD (p :: r) k = some p.2 := by simp [atD, List.find?_cons, e]
theorem atD_neg {β : Type} {p : NestedKey × β} {r : List (NestedKey × β)} {k : NestedKey} (e : ¬ p.1 = k) : atD (p :: r) k = atD r k := by simp [atD, List.find?_cons, e]
mutual
theorem keyOf_aOf : ∀ {a : A} {k : NestedKey}, keyOf a = some k → aOf k = a
  | .non, k, h => by cases h; rfl
  | .int i, k, h => by cases h; rfl
  | .str x, k, h => by cases h; rfl
  | .bl b, k, h => by cases h
  | .scr b, k, h => by cases h
  | .ref b, k, h => by cases h
  | .tup xs, k, h => by
    unfold keyOf at h
    split at h
    · rename_i ks e
      cases h
      unfold aOf
      rw [keysOf_aOfs e]
    · cases h
theorem keysOf_aOfs : ∀ {xs : List A} {ks : List NestedKey}, keysOf xs = some ks → aOfs ks = xs
  | [], ks, h => by cases h; rfl
  | x :: xs, ks, h => by
    unfold keysOf at h
    split at h
    · rename_i k ks' e1 e2
      cases h
      unfold aOfs
      rw [keyOf_aOf e1, keysOf_aOfs e2]
    · cases h
end
/-! ### as it lies in the heap -/
section
variable {X : Cx} {pins : List (Addr × Obj)} {σ : L2.St} {H : Hp} {s : Shared} {φ : List Addr} {st : Store}
mutual
theorem RV.nested (I : Inv X pins σ H s) : ∀ {k : NestedKey} {v : V} {u : Value}, RV X.K φ H v (aOf k) → RelV v u → NestedIs s.heap k u
  | .none, v, u, h, r => by
    unfold aOf at h
    cases h
    obtain rfl : u = Value.none := r
    exact .none
  | .num i, v, u, h, r => by
    unfold aOf at h
    cases h
    obtain ⟨t, rfl⟩ := r
    exact .int i t
  | .text x, v, u, h, r => by
    unfold aOf at h
    cases h
    obtain ⟨t, rfl⟩ := r
    exact .text x t
  | .tup ks, v, u, h, r => by
    unfold aOf at h
    cases h with
    | @tup a xs _ q qs =>
      obtain rfl : u = Value.ref a := r
      obtain ⟨its, rv, ⟨ob, ho, hc, n, hd⟩, _⟩ := I.tuple q.sq
      exact .tup ho hc hd (by rw [List.toList_toArray]; exact RVs.nested I qs rv)
theorem RVs.nested (I : Inv X pins σ H s) : ∀ {ks : List NestedKey} {vs : List V} {us : List Value}, RVs X.K φ H vs (aOfs ks) → Vals vs us → NestedAll s.heap ks us
  | [], vs, us, h, r => by
    unfold aOfs at h
    cases h
    cases r
    exact .nil
  | k :: ks, vs, us, h, r => by
    unfold aOfs at h
    cases h with
    | cons h1 h2 =>
      cases r with
      | cons r1 r2 => exact .cons (RV.nested I h1 r1) (RVs.nested I h2 r2)
end
def RelOA (K : PySem.W.Frag) (φ : List Addr) (H : Hp) : Option V → Option A → Prop
  | some v, some d => RV K φ H v d
  | none, none => True
  | _, _ => False
theorem nk_inj {a b : Key} (h : nk a = nk b) : a = b := by
  cases a <;> cases b <;> simp [nk] at h <;> rw [h]
theorem val_k {k : Key} : ∀ {ks : List (Key × V)} {kvs : List (NestedKey × A)}, kvs.map (·.1) = ks.map (fun x => nk x.1) → RVs X.K φ H (ks.map (·.2)) (kvs.map (·.2)) → RelOA X.K φ H (valV ks k) (atD kvs (nk k))
  | [], [], _, _ => True.intro
  | [], _ :: _, h, _ => by simp at h
  | _ :: _, [], h, _ => by simp at h
  | p :: ks, q :: kvs, h, r => by
    simp only [List.map_cons, List.cons.injEq] at h
    cases r with
    | cons r1 r2 =>
      by_cases e : p.1 = k
      · rw [valV_pos e, atD_pos (by rw [h.1, e])]
        exact r1
      · rw [valV_neg e, atD_neg (by rw [h.1]; exact fun z => e (nk_inj z))]
        exact val_k h.2 r2
theorem putK_k {k : Key} {y : V} {d : A} {ks : List (Key × V)} {kvs : List (NestedKey × A)} (h : kvs.map (·.1) = ks.map (fun x => nk x.1)) (r : RVs X.K φ H (ks.map (·.2)) (kvs.map (·.2))) (rd : RV X.K φ H y d) :
    (putD kvs (nk k) d).map (·.1) = (putK ks k y).map (fun x => nk x.1) ∧ RVs X.K φ H ((putK ks k y).map (·.2)) ((putD kvs (nk k) d).map (·.2)) := by
  have hv := val_k (k := k) h r
  have hany : (ks.any fun kv => decide (kv.1 = k)) = (valV ks k).isSome := valV_any k ks
  have hs : (valV ks k).isSome = (atD kvs (nk k)).isSome := by
    cases e1 : valV ks k <;> cases e2 : atD kvs (nk k) <;> rw [e1, e2] at hv <;> first | rfl | exact hv.elim
  unfold putK putD
  rw [hany, hs]
  split
  · rename_i hh
    clear hh hv hany hs
    induction ks generalizing kvs with
    | nil =>
      cases kvs with
      | nil => exact ⟨rfl, .nil⟩
      | cons q kvs => simp at h
    | cons p ks ih =>
      cases kvs with
      | nil => simp at h
      | cons q kvs =>
        simp only [List.map_cons, List.cons.injEq] at h
        cases r with
        | cons r1 r2 =>
          obtain ⟨i1, i2⟩ := ih h.2 r2
          by_cases e : p.1 = k
          · have e' : q.1 = nk k := by rw [h.1, e]
            simp only [List.map_cons, if_pos e, if_pos e']
            exact ⟨by rw [i1, h.1], .cons rd i2⟩
          · have e' : ¬ q.1 = nk k := by rw [h.1]; exact fun z => e (nk_inj z)
            simp only [List.map_cons, if_neg e, if_neg e']
            exact ⟨by rw [i1, h.1], .cons r1 i2⟩
  · rw [List.map_append, List.map_append, List.map_append, List.map_append, h]
    exact ⟨rfl, r.app (.cons rd .nil)⟩
/-- a dict whose keys are tuples, seen in the heap -/
def NView (X : Cx) (φ : List Addr) (H : Hp) (h : Heap) (a : Addr) (kvs : List (NestedKey × A)) (xs : List (NestedKey × Addr × Value)) : Prop :=
  h.DictOfH (nestedKind X.prog X.w) a xs ∧ (a == sysModules) = false ∧ xs.length ≤ sizeLine ∧ xs.map (·.1) = kvs.map (·.1) ∧ (∀ x ∈ xs, RV X.K φ H (.ref x.2.1) (aOf x.1) ∧ x.1.depth ≤ 8) ∧ ∃ vs, Vals vs (xs.map (·.2.2)) ∧ RVs X.K φ H vs (kvs.map (·.2))
theorem nk_tup (k : Key) : tupK (nk k) = false := by cases k <;> rfl
theorem fit_depth {kvs : List (NestedKey × A)} {k : NestedKey} (h : fitD kvs k = true) : k.depth ≤ 8 ∧ k ≠ .none ∧ ∀ kv ∈ kvs, tupK kv.1 = tupK k := by
  unfold fitD at h
  rw [Bool.and_eq_true, Bool.and_eq_true, List.all_eq_true] at h
  obtain ⟨h1, h2, h3⟩ := h
  exact ⟨of_decide_eq_true h1, of_decide_eq_true h2, fun kv hm => by simpa using h3 kv hm⟩
theorem RS.dct (rs : RS X.K X.w X.mg φ H st) {r : Nat} {a : Addr} {kvs : List (NestedKey × A)} (hp : φ[r]? = some a) (hs : stD st r = some kvs) : RDk X.K φ H a kvs ∨ RDt X.K X.w φ H a kvs := rs.all r a _ hp (stD_eq hs)
/-- keys that are ints or texts: the kit's own form; tuples: as seen in the heap -/
theorem dview (rs : RS X.K X.w X.mg φ H st) {r : Nat} {a : Addr} {kvs : List (NestedKey × A)} {k : NestedKey} (hp : φ[r]? = some a) (hs : stD st r = some kvs) (hf : fitD kvs k = true) :
    (∃ (κ : Key) (ks : List (Key × V)), k = nk κ ∧ H a = some (.dK ks) ∧ kvs.map (·.1) = ks.map (fun x => nk x.1) ∧ RVs X.K φ H (ks.map (·.2)) (kvs.map (·.2))) ∨
    (tupK k = true ∧ Mut (H a) ∧ ∀ (pins : List (Addr × Obj)) (σ : L2.St) (s : Shared), Inv X pins σ H s → ∃ xs, NView X φ H s.heap a kvs xs) := by
  obtain ⟨f1, f2, f3⟩ := fit_depth hf
  rcases rs.dct hp hs with ⟨ks, h1, h2, h3⟩ | ⟨xs, vs, h0, h1, h2, h3, h4, h5, h6, h7⟩
  · cases k with
    | none => exact absurd rfl f2
    | num i => exact .inl ⟨.inl i, ks, rfl, h1, h2, h3⟩
    | text x => exact .inl ⟨.inr x, ks, rfl, h1, h2, h3⟩
    | tup l =>
      refine .inr ⟨rfl, by rw [h1]; exact True.intro, fun pins σ s I => ?_⟩
      have hk : kvs = [] := by
        cases kvs with
        | nil => rfl
        | cons p kvs =>
          cases ks with
          | nil => simp at h2
          | cons q ks =>
            simp only [List.map_cons, List.cons.injEq] at h2
            have := f3 p (by simp)
            rw [h2.1, nk_tup] at this
            cases this
      subst hk
      have hks : ks = [] := by
        cases ks with
        | nil => rfl
        | cons q ks => simp at h2
      subst hks
      obtain ⟨z, hd, ws, rel, ob, es, ep, g1, g2, g3, g4⟩ := dk_of I.hok h1
      cases rel
      refine ⟨[], ⟨ob, es, ep, g1, g2, g3, ?_, by simp, by simp⟩, hd, by simp, rfl, by simp, [], .nil, .nil⟩
      obtain ⟨_, g5, _⟩ := g4
      cases hl : es.toList with
      | nil => rfl
      | cons e es' =>
        rw [hl] at g5
        cases g5
  · have ht : tupK k = true := by
      cases kvs with
      | nil => exact absurd rfl h0
      | cons p kvs =>
        cases xs with
        | nil => simp at h4
        | cons x xs =>
          have h8 := (h5 x (by simp)).1
          simp only [List.map_cons, List.cons.injEq] at h4
          have := f3 p (by simp)
          rw [← h4.1] at this
          rw [← this]
          cases e : x.1 with
          | tup l => rfl
          | _ => rw [e] at h8; unfold aOf at h8; cases h8
    refine .inr ⟨ht, by rw [h1]; exact True.intro, fun pins σ s I => ⟨xs, ?_, h2, h3, h4, h5, vs, h6, h7⟩⟩
    obtain ⟨⟨ob, es, ep, g1, g2, g3, g4, g5⟩, _, _⟩ := I.hok a _ h1
    exact ⟨ob, es, ep, g1, g2, g3, g4, fun x hx => ⟨RV.nested I (h5 x hx).1 rfl, (h5 x hx).2⟩, g5⟩
theorem val_n {k : NestedKey} : ∀ {xs : List (NestedKey × Addr × Value)} {kvs : List (NestedKey × A)} {vs : List V}, xs.map (·.1) = kvs.map (·.1) → Vals vs (xs.map (·.2.2)) → RVs X.K φ H vs (kvs.map (·.2)) → ∃ ov, RelO ov ((atKey xs k).map (·.2)) ∧ RelOA X.K φ H ov (atD kvs k)
  | [], [], _, _, _, _ => ⟨none, True.intro, True.intro⟩
  | [], _ :: _, _, h, _, _ => by simp at h
  | _ :: _, [], _, h, _, _ => by simp at h
  | x :: xs, q :: kvs, vs, h, r1, r2 => by
    simp only [List.map_cons, List.cons.injEq] at h
    cases r1 with
    | cons a1 b1 =>
      cases r2 with
      | cons a2 b2 =>
        by_cases e : x.1 = k
        · refine ⟨some _, ?_, by rw [atD_pos (by rw [← h.1, e])]; exact a2⟩
          have : atKey (x :: xs) k = some x.2 := by simp [atKey, e]
          rw [this]
          exact a1
        · obtain ⟨ov, o1, o2⟩ := val_n (k := k) h.2 b1 b2
          refine ⟨ov, ?_, by rw [atD_neg (by rw [← h.1]; exact e)]; exact o2⟩
          have : atKey (x :: xs) k = atKey xs k := by simp [atKey, e]
          rw [this]
          exact o1
/-- a question to a dict, as the kit's lemmas want it -/
theorem ask_run {x y : V} {u r : Value} {d b : A} {o : Option A} (I : Inv X pins σ H s) (rs : RS X.K X.w X.mg φ H st) (rx : RV X.K φ H x d) (ry : RV X.K φ H y b) (h : askD d b st = some o) (ru : RelV x u) (rr : RelV y r) :
    ∃ a, u = .ref a ∧ ((∃ ov, DGet H a y ov ∧ RelOA X.K φ H ov o) ∨ (∃ (k : NestedKey) (c : Addr) (xs : List (NestedKey × Addr × Value)), r = .ref c ∧ (nestedKind X.prog X.w).is s.heap k c ∧ s.heap.DictOfH (nestedKind X.prog X.w) a xs ∧ (a == sysModules) = false ∧ ∃ ov, RelO ov ((atKey xs k).map (·.2)) ∧ RelOA X.K φ H ov o)) := by
  unfold askD at h
  cases rx with
  | @ref a i q =>
    obtain rfl : u = Value.ref a := ru
    refine ⟨a, rfl, ?_⟩
    simp only at h
    split at h
    · rename_i k e2
      have hb := keyOf_aOf e2
      subst hb
      split at h
      rotate_left
      · split at h
        · rename_i kvs e1
          split at h
          · rename_i hf
            cases h
            obtain ⟨od, ks, g1, g2, g3⟩ := rs.all i a _ q (stF_eq e1)
            obtain ⟨f1, f2, f3⟩ := fit_depth hf.1
            have fin : ∀ κ : Key, k = nk κ → ∃ ov, DGet H a y ov ∧ RelOA X.K φ H ov (atD kvs k) := fun κ hk => by
              subst hk
              have hy : y = kV κ := by
                cases κ with
                | inl i => unfold nk aOf at ry; cases ry; rfl
                | inr i => unfold nk aOf at ry; cases ry; rfl
              subst hy
              exact ⟨_, .inl ⟨ks, κ, .inr ⟨od, g1⟩, rfl, rfl⟩, val_k g2 g3⟩
            cases k with
            | none => exact absurd rfl f2
            | num i => exact .inl (fin (.inl i) rfl)
            | text x => exact .inl (fin (.inr x) rfl)
            | tup l => cases hf.2
          · cases h
        · cases h
      rename_i kvs e1
      split at h
      · rename_i hf
        cases h
        rcases dview rs q e1 hf with ⟨κ, ks, rfl, g1, g2, g3⟩ | ⟨g0, _, g⟩
        · have hy : y = kV κ := by
            cases κ with
            | inl i => unfold nk aOf at ry; cases ry; rfl
            | inr i => unfold nk aOf at ry; cases ry; rfl
          subst hy
          exact .inl ⟨_, .k g1, val_k g2 g3⟩
        · obtain ⟨xs, v1, v2, v3, v4, v5, vs, v6, v7⟩ := g pins σ s I
          have hn := RV.nested I ry rr
          cases k with
          | tup l =>
            cases hn with
            | @tup c ob its n _ h1 h2 h3 h4 =>
              exact .inr ⟨.tup l, c, xs, rfl, ⟨.tup h1 h2 h3 h4, (fit_depth hf).1⟩, v1, v2, val_n v4 v6 v7⟩
          | _ => cases g0
      · cases h
    · cases h
  | _ => cases h
/-! ### in, not in -/
def rDAsk (X : Cx) (g : Bool → Bool) : R2 := fun y x H Q => ∃ φ st d b o, RS X.K X.w X.mg φ H st ∧ RV X.K φ H x d ∧ RV X.K φ H y b ∧ askD d b st = some o ∧ Q (.bl (g o.isSome)) H
theorem relOA_isSome {ov : Option V} {o : Option A} (h : RelOA X.K φ H ov o) : ov.isSome = o.isSome := by
  cases ov <;> cases o <;> first | rfl | exact h.elim
theorem op_din (hu : X.A.units + 64 < cLine) : OpR X (compareOp .In) (rDAsk X id) := fun pins s σ H y x v u Q I ry rx ⟨φ, st, d, b, o, rs, rd, rb, h, q⟩ => by
  obtain ⟨a, rfl, ⟨ov, g, r⟩ | ⟨k, c, xs, rfl, g1, g2, g3, ov, r1, r2⟩⟩ := ask_run I rs rd rb h rx ry
  · refine d_in (by omega) I g ry fun s3 I3 => ⟨.bl ov.isSome, H, I3, rfl, ?_⟩
    rw [relOA_isSome r]
    exact q
  · refine wpAny_in_heap (by show X.A.units + 1 + 8 < _; omega) g1 g3 g2 ⟨.bl ov.isSome, H, I.tok _, ?_, ?_⟩
    · have z := r1.isSome_eq
      rw [Option.isSome_map] at z
      rw [z]
      rfl
    · rw [relOA_isSome r2]
      exact q
theorem op_dnotin (hu : X.A.units + 64 < cLine) : OpR X (compareOp .NotIn) (rDAsk X not) := fun pins s σ H y x v u Q I ry rx ⟨φ, st, d, b, o, rs, rd, rb, h, q⟩ => by
  obtain ⟨a, rfl, ⟨ov, g, r⟩ | ⟨k, c, xs, rfl, g1, g2, g3, ov, r1, r2⟩⟩ := ask_run I rs rd rb h rx ry
  · refine d_notIn (by omega) I g ry fun s3 I3 => ⟨.bl (!ov.isSome), H, I3, rfl, ?_⟩
    rw [relOA_isSome r]
    exact q
  · refine wpAny_notIn_heap (by show X.A.units + 1 + 8 < _; omega) g1 g3 g2 ⟨.bl (!ov.isSome), H, I.tok _, ?_, ?_⟩
    · have z := r1.isSome_eq
      rw [Option.isSome_map] at z
      rw [z]
      rfl
    · rw [relOA_isSome r2]
      exact q
def inD : A → A → Store → R A := fun b d st => match askD d b st with
  | some o => .ok (.bl o.isSome) st
  | none => .bad
def notInD : A → A → Store → R A := fun b d st => match askD d b st with
  | some o => .ok (.bl (!o.isSome)) st
  | none => .bad
theorem os_din : OpS X (rDAsk X id) inD := fun W φ H st x y a b Q rs ra rb h => by
  unfold inD at h
  cases e : askD b a st with
  | none => rw [e] at h; exact h.elim
  | some o => rw [e] at h; exact ⟨φ, st, b, a, o, rs, rb, ra, e, h.ok rs (.bl _)⟩
theorem os_dnotin : OpS X (rDAsk X not) notInD := fun W φ H st x y a b Q rs ra rb h => by
  unfold notInD at h
  cases e : askD b a st with
  | none => rw [e] at h; exact h.elim
  | some o => rw [e] at h; exact ⟨φ, st, b, a, o, rs, rb, ra, e, h.ok rs (.bl _)⟩
/-! ### d[k] -/
def getD' : A → A → Store → R A := fun d b st => match askD d b st with
  | some (some v) => .ok v st
  | _ => .bad
theorem ask_type {a : Addr} {x y : V} {u r : Value} {d b : A} {o : Option A} (I : Inv X pins σ H s) (rs : RS X.K X.w X.mg φ H st) (rx : RV X.K φ H x d) (ry : RV X.K φ H y b) (h : askD d b st = some o) (ru : RelV x u) (rr : RelV y r) : s.TypeIs u "dict" := by
  obtain ⟨a, rfl, ⟨ov, g, _⟩ | ⟨k, c, xs, rfl, g1, g2, g3, ov, r1, r2⟩⟩ := ask_run I rs rx ry h ru rr
  · exact dict_typeIs I g
  · exact g2.typeIs
theorem me_dget {o i : Expr} {pos : Pos} {W : WX} {mo mi : MX} (hu : X.A.units + 64 < cLine) (ho : PE X o (tE X W mo)) (hi : PE X i (tE X W mi)) (hs : NoSl i := by intro _ _; rfl) : PE X (.Subscript o i pos) (tE X W (mBin getD' mo mi)) := by
  refine ⟨fun pins s σ H Q I ⟨φ, ρ, st, rs, re, h⟩ => ?_⟩
  refine subD_of PySem.F.slot_dict_getitem.lookup hs (thn (ho.run pins s σ H (fun x H1 => tE X W mi σ H1 fun y H2 => ∃ φ st d b v, RS X.K X.w X.mg φ H2 st ∧ RV X.K φ H2 x d ∧ RV X.K φ H2 y b ∧ askD d b st = some (some v) ∧ ∀ w, RV X.K φ H2 w v → Q w H2) I ⟨φ, ρ, st, rs, re, h.seq fun φ1 d x H1 st1 e1 rs1 rv1 h1 => ⟨φ1, ρ, st1, rs1, re.ext e1, h1.seq fun φ2 b y H2 st2 e2 rs2 rv2 h2 => ?_⟩⟩) fun u s1 ⟨x, H1, I1, rx, q1⟩ => thn (hi.run pins s1 σ H1 _ I1 q1) fun iv s2 ⟨y, H2, I2, ry, φ2, st2, d, b, v, rs2, rd, rb, hv, q2⟩ => ?_)
  · unfold getD' at h2
    cases e : askD d b st2 with
    | none => rw [e] at h2; exact h2.elim
    | some o =>
      cases o with
      | none => rw [e] at h2; exact h2.elim
      | some v =>
        rw [e] at h2
        exact ⟨φ2, st2, d, b, v, rs2, rv1.ext e2, rv2, e, fun w rw' => h2.ok rs2 rw'⟩
  · refine ⟨ask_type (a := 0) I2 rs2 rd rb hv rx ry, ?_⟩
    obtain ⟨a, rfl, ⟨ov, g, r⟩ | ⟨k, c, xs, rfl, g1, g2, g3, ov, r1, r2⟩⟩ := ask_run I2 rs2 rd rb hv rx ry
    · cases ov with
      | none => exact r.elim
      | some w =>
        exact d_getItem (by omega) I2 g ry fun w' s3 I3 rw' => ⟨w, H2, I3, rw', q2 w r⟩
    · cases ov with
      | none => exact r2.elim
      | some w =>
        cases e : atKey xs k with
        | none => rw [e] at r1; exact r1.elim
        | some p =>
          rw [e] at r1
          exact wpAny_getItem_heap (by show X.A.units + 1 + 8 < _; omega) g1 g2 e ⟨w, H2, I2.tok _, r1, q2 w r2⟩
/-! ### new objects, objects written -/
theorem RS.allocO (r : RS X.K X.w X.mg φ H st) {p : Addr} {o : HO} {u : Ob2} (h : H p = none) (q : RO2 X.K X.w X.mg (φ ++ [p]) (upd H p o) p u) : RS X.K X.w X.mg (φ ++ [p]) (upd H p o) (st ++ [.oth u]) := by
  have e := ext_alloc (o := o) r h
  refine ⟨by simp [r.len], ?_, fun i a o h1 h2 => ?_⟩
  · rw [List.nodup_append]
    refine ⟨r.nd, by simp, fun a ha b hb z => ?_⟩
    have : b = p := by simpa using hb
    subst this
    subst z
    exact r.notin h ha
  · by_cases hi : i < φ.length
    · rw [List.getElem?_append_left hi] at h1
      rw [List.getElem?_append_left (by rw [← r.len]; exact hi)] at h2
      have h3 := r.all i a o h1 h2
      have na : a ≠ p := fun z => r.notin h (z ▸ List.mem_of_getElem? h1)
      cases o with
      | lst ds' =>
        obtain ⟨ys, y1, y2⟩ := h3
        exact ⟨ys, by rw [upd_ne na]; exact y1, y2.ext e⟩
      | oth u => exact RO2.ext e (upd_ne na) h3
    · have hi2 : i = φ.length := by
        have := (List.getElem?_eq_some_iff.mp h1).1
        rw [List.length_append, List.length_singleton] at this
        omega
      subst hi2
      rw [List.getElem?_append_right (Nat.le_refl _)] at h1
      rw [List.getElem?_append_right (by rw [r.len]; exact Nat.le_refl _)] at h2
      simp at h1
      rw [r.len] at h2
      simp at h2
      subst h1
      subst h2
      exact q
theorem ext_write {p : Addr} {i : Nat} {o' : HO} (hp : φ[i]? = some p) (hn : ∀ od u, H p ≠ some (.frz od u)) : Ext φ H φ (upd H p o') := ⟨⟨[], by simp⟩, fun a u n q => ⟨by rw [upd_ne (show a ≠ p from fun z => n (by rw [z]; exact List.mem_of_getElem? hp))]; exact q, n⟩, fun a o u q => by
  rw [upd_ne (show a ≠ p from fun z => hn o u (by rw [← z]; exact q))]
  exact q⟩
theorem RS.writeO (r : RS X.K X.w X.mg φ H st) {i : Nat} {p : Addr} {o : Ob} {o' : HO} {u : Ob2} (hp : φ[i]? = some p) (ho : st[i]? = some o) (hn : ∀ od u, H p ≠ some (.frz od u)) (q : RO2 X.K X.w X.mg φ (upd H p o') p u) : RS X.K X.w X.mg φ (upd H p o') (st.set i (.oth u)) := by
  have hm : p ∈ φ := List.mem_of_getElem? hp
  have e : Ext φ H φ (upd H p o') := ext_write hp hn
  refine ⟨by rw [List.length_set]; exact r.len, r.nd, fun j a v h1 h2 => ?_⟩
  by_cases hj : i = j
  · subst hj
    rw [hp] at h1
    cases h1
    rw [List.getElem?_set_self (List.getElem?_eq_some_iff.mp ho).1] at h2
    cases h2
    exact q
  · rw [List.getElem?_set_ne hj] at h2
    have h3 := r.all j a v h1 h2
    have na : a ≠ p := fun z => by
      subst z
      obtain ⟨l1, e1⟩ := List.getElem?_eq_some_iff.mp hp
      obtain ⟨l2, e2⟩ := List.getElem?_eq_some_iff.mp h1
      exact hj ((List.getElem_inj r.nd).mp (e1.trans e2.symm))
    cases v with
    | lst ds' =>
      obtain ⟨zs, y1, y2⟩ := h3
      exact ⟨zs, by rw [upd_ne na]; exact y1, y2.ext e⟩
    | oth u => exact RO2.ext e (upd_ne na) h3
/-! ### {} -/
def mDNew : MX := fun _ st => .ok (.ref st.length) (st ++ [.oth (.dct [])])
theorem me_dnew {pos : Pos} {W : WX} : PE X (.Dict [] [] pos) (tE X W mDNew) := pe_dnewK.imp fun σ H Q ⟨φ, ρ, st, rs, re, h⟩ => fun p hp => by
  exact h _ _ _ (ext_alloc rs hp) (rs.allocO hp (.inl ⟨[], upd_same, rfl, .nil⟩)) (.newLst rs)
/-! ### len(d) -/
def lenD : List A → Store → R A
  | [.ref r], st => match stD st r with
    | some kvs => if kvs.length ≤ sizeLine then .ok (.int kvs.length) st else .bad
    | none => .bad
  | _, _ => .bad
def rLenD (X : Cx) : List V → Hp → VK → Prop := fun xs H Q => ∃ φ st a r kvs, RS X.K X.w X.mg φ H st ∧ xs = [.ref a] ∧ φ[r]? = some a ∧ stD st r = some kvs ∧ kvs.length ≤ sizeLine ∧ Q (.int kvs.length) H
theorem call_lenD : CallR X (.builtin "len") (rLenD X) := by
  intro pins s σ H xs us Q I r h
  obtain ⟨φ, st, a, i, kvs, rs, rfl, hp, hs, hl, q⟩ := h
  rw [Vals.ref1 r]
  have hn := line63
  rcases rs.dct hp hs with ⟨ks, h1, h2, h3⟩ | ⟨xs, vs, h0, h1, h2, h3, h4, h5, h6, h7⟩
  · have hlen : kvs.length = ks.length := by
      have := congrArg List.length h2
      simpa using this
    refine d_len I (.inl h1) fun t s' I' => ⟨.int kvs.length, H, I', ?_, q⟩
    rw [hlen]
    exact ⟨t, rfl⟩
  · have hlen : xs.length = kvs.length := by
      have := congrArg List.length h4
      simpa using this
    obtain ⟨⟨ob, es, ep, g1, g2, g3, g4, g5⟩, _, _⟩ := I.hok a _ h1
    have hd : s.heap.DictOfH (nestedKind X.prog X.w) a xs := ⟨ob, es, ep, g1, g2, g3, g4, fun x hx => ⟨RV.nested I (h5 x hx).1 rfl, (h5 x hx).2⟩, g5⟩
    have hz : sizeLine = 16777216 := sizeLine_eq
    refine call_len_dictH h2 hd (by omega) ⟨.int kvs.length, H, I.tok _, ?_, q⟩
    rw [hlen]
    exact ⟨_, rfl⟩
theorem cs_lenD : CaS X (rLenD X) lenD := fun W φ H st vs as Q rs rv h => by
  cases rv with
  | nil => exact h.elim
  | cons a b =>
    cases b with
    | cons _ _ => cases a <;> exact h.elim
    | nil =>
      cases a with
      | @ref p r q =>
        unfold lenD at h
        simp only at h
        cases e : stD st r with
        | none => rw [e] at h; exact h.elim
        | some kvs =>
          rw [e] at h
          simp only at h
          split at h
          · rename_i hl
            exact ⟨φ, st, p, r, kvs, rs, rfl, q, e, hl, h.ok rs (.int _)⟩
          · exact h.elim
      | _ => exact h.elim
/-! ### d[k] = v -/
def putS (d b v : A) (st : Store) : Option Store := match d with
  | .ref r => match stD st r, keyOf b with
    | some kvs, some k => if fitD kvs k = true ∧ kvs.length < sizeLine then some (st.set r (.oth (.dct (putD kvs k v)))) else none
    | _, _ => none
  | _ => none
def mDPut (mo mi ma : MX) : MS := fun ρ st => (ma ρ st).toS ρ fun v st1 => (mo ρ st1).toS ρ fun d st2 => (mi ρ st2).toS ρ fun b st3 => match putS d b v st3 with
  | some st4 => .nx ρ st4
  | none => .bad
theorem putD_len {kvs : List (NestedKey × A)} {k : NestedKey} {v : A} : (putD kvs k v).length ≤ kvs.length + 1 := by
  unfold putD
  split <;> simp
theorem putD_ne {kvs : List (NestedKey × A)} {k : NestedKey} {v : A} : putD kvs k v ≠ [] := by
  unfold putD
  split
  · rename_i h
    cases kvs with
    | nil => simp [atD] at h
    | cons p r => simp
  · simp
theorem atKey_atD : ∀ {xs : List (NestedKey × Addr × Value)} {kvs : List (NestedKey × A)} {k : NestedKey}, xs.map (·.1) = kvs.map (·.1) → (atKey xs k).isSome = (atD kvs k).isSome
  | [], [], _, _ => rfl
  | [], _ :: _, _, h => by simp at h
  | _ :: _, [], _, h => by simp at h
  | x :: xs, q :: kvs, k, h => by
    simp only [List.map_cons, List.cons.injEq] at h
    have ih := atKey_atD (k := k) h.2
    by_cases e : x.1 = k
    · rw [atD_pos (by rw [← h.1, e])]
      simp [atKey, e]
    · rw [atD_neg (by rw [← h.1]; exact e)]
      have : atKey (x :: xs) k = atKey xs k := by simp [atKey, e]
      rw [this]
      exact ih
theorem put_n {k : NestedKey} {c : Addr} {y : V} {d : A} {r : Value} {xs : List (NestedKey × Addr × Value)} {kvs : List (NestedKey × A)} {vs : List V} (h : xs.map (·.1) = kvs.map (·.1)) (hv : Vals vs (xs.map (·.2.2))) (rv : RVs X.K φ H vs (kvs.map (·.2))) (ry : RelV y r) (rd : RV X.K φ H y d) :
    (storedH xs k c r).map (·.1) = (putD kvs k d).map (·.1) ∧ ∃ vs', Vals vs' ((storedH xs k c r).map (·.2.2)) ∧ RVs X.K φ H vs' ((putD kvs k d).map (·.2)) := by
  unfold storedH putD
  rw [atKey_atD h]
  split
  · rename_i hh
    clear hh
    induction xs generalizing kvs vs with
    | nil =>
      cases kvs with
      | nil => exact ⟨rfl, vs, hv, rv⟩
      | cons q kvs => simp at h
    | cons x xs ih =>
      cases kvs with
      | nil => simp at h
      | cons q kvs =>
        simp only [List.map_cons, List.cons.injEq] at h
        cases hv with
        | @cons v0 _ vs0 _ a1 b1 =>
          cases rv with
          | cons a2 b2 =>
            obtain ⟨i1, vs', i2, i3⟩ := ih h.2 b1 b2
            by_cases e : x.1 = k
            · have e' : q.1 = k := by rw [← h.1, e]
              simp only [List.map_cons, if_pos e', putAt, if_pos e]
              exact ⟨by rw [← h.1]; exact congrArg _ i1, y :: vs', .cons ry i2, .cons rd i3⟩
            · have e' : ¬ q.1 = k := by rw [← h.1]; exact e
              simp only [List.map_cons, if_neg e', putAt, if_neg e]
              exact ⟨by rw [h.1]; exact congrArg _ i1, v0 :: vs', .cons a1 i2, .cons a2 i3⟩
  · refine ⟨by rw [List.map_append, List.map_append, h]; rfl, vs ++ [y], ?_, ?_⟩
    · rw [List.map_append]
      exact Vals.append hv (.cons ry .nil)
    · rw [List.map_append]
      exact rv.app (.cons rd .nil)
theorem me_dput {o i e : Expr} {mo mi ma : MX} {p2 pos : Pos} {W : WX} (hu : X.A.units + 64 < cLine) (ho : PE X o (tE X W mo)) (hi : PE X i (tE X W mi)) (he : PE X e (tE X W ma)) (hs : swapsWith e (some (.Subscript o i p2)) pos.line X.env = pure false := by rfl) :
    PS X (.Assign [.Subscript o i p2] e pos) (tS X W (mDPut mo mi ma)) := by
  refine ⟨fun pins s σ H D I ⟨φ, ρ, st, rs, re, h⟩ => ?_⟩
  refine wpAny_Assign_Subscript (thn (he.run pins s σ H (fun v H1 => tE X W mo σ H1 fun x H2 => tE X W mi σ H2 fun y H3 => ∃ φ st d b z st4 ρ, RS X.K X.w X.mg φ H3 st ∧ RE X.K φ H3 σ ρ ∧ RV X.K φ H3 x d ∧ RV X.K φ H3 y b ∧ RV X.K φ H3 v z ∧ putS d b z st = some st4 ∧ ∀ H', Ext φ H3 φ H' → RS X.K X.w X.mg φ H' st4 → D.nx σ H') I ⟨φ, ρ, st, rs, re, h.exp re fun φ1 z v H1 st1 e1 rs1 rv1 h1 => ⟨φ1, ρ, st1, rs1, re.ext e1, h1.exp (re.ext e1) fun φ2 d x H2 st2 e2 rs2 rv2 h2 => ⟨φ2, ρ, st2, rs2, (re.ext e1).ext e2, h2.exp ((re.ext e1).ext e2) fun φ3 b y H3 st3 e3 rs3 rv3 h3 => ?_⟩⟩⟩) fun r s1 ⟨v, H1, I1, rv, q1⟩ => thn (ho.run pins s1 σ H1 _ I1 q1) fun u s2 ⟨x, H2, I2, rx, q2⟩ => thn (hi.run pins s2 σ H2 _ I2 q2) fun iv s3 ⟨y, H3, I3, ry, φ3, st3, d, b, z, st4, ρ3, rs3, re3, rd, rb, rz, hp, q3⟩ => ?_) hs
  · cases q : putS d b z st3 with
    | none => simp only [q] at h3; exact h3.elim
    | some st4 =>
      simp only [q] at h3
      exact ⟨φ3, st3, d, b, z, st4, ρ, rs3, ((re.ext e1).ext e2).ext e3, rv2.ext e3, rv3, (rv1.ext e2).ext e3, q, fun H' ex rs' => h3 φ3 σ H' ex rs' ((((re.ext e1).ext e2).ext e3).ext ex)⟩
  · unfold putS at hp
    cases rd with
    | @ref a j qa =>
      obtain rfl : u = Value.ref a := rx
      simp only at hp
      split at hp
      · rename_i kvs k e1 e2
        split at hp
        · rename_i hf
          cases hp
          have hb := keyOf_aOf e2
          subst hb
          rcases dview rs3 qa e1 hf.1 with ⟨κ, ks, rfl, g1, g2, g3⟩ | ⟨g0, gm, g⟩
          · have hy : y = kV κ := by
              cases κ with
              | inl i => unfold nk aOf at rb; cases rb; rfl
              | inr i => unfold nk aOf at rb; cases rb; rfl
            subst hy
            have hlen : kvs.length = ks.length := by
              have := congrArg List.length g2
              simpa using this
            have hnf : ∀ od u, H3 a ≠ some (.frz od u) := fun od u z => by rw [g1] at z; cases z
            refine d_setItem (by omega) I3 (.k g1 (by omega)) ry rv fun s' I' => ⟨σ, _, I', q3 _ (ext_write qa hnf) ?_⟩
            have ex : Ext φ3 H3 φ3 (upd H3 a (.dK (putK ks κ v))) := ext_write qa hnf
            obtain ⟨p1, p2⟩ := putK_k (k := κ) (g2) (g3.ext ex) (rz.ext ex)
            exact rs3.writeO qa (stD_eq e1) hnf (.inl ⟨_, upd_same, p1, p2⟩)
          · obtain ⟨xs, v1, v2, v3, v4, v5, vs, v6, v7⟩ := g pins σ s3 I3
            have hn := RV.nested I3 rb ry
            have hdep := (fit_depth hf.1).1
            cases k with
            | tup l =>
              cases hn with
              | @tup c ob its n _ h1 h2 h3 h4 =>
                have hlen : xs.length = kvs.length := by
                  have := congrArg List.length v4
                  simpa using this
                refine wpAny_setItem_heap (knd := nestedKind X.prog X.w) (k := .tup l) (hsz := v3) (by show X.A.units + 1 + 8 < _; omega) ⟨.tup h1 h2 h3 h4, hdep⟩ v1 fun h' dd' hsb => ?_
                obtain ⟨q, es, ep, hq, w2, w3, w4, _, w5⟩ := dd'
                obtain ⟨p1, vs', p2, p3⟩ := put_n (k := .tup l) (c := c) v4 v6 v7 rv rz
                have ex : Ext φ3 H3 φ3 (upd H3 a (.ext (DRaw X.w a (storedH xs (.tup l) c r)))) := ext_write qa (fun od u z => by rw [z] at gm; exact gm)
                refine ⟨σ, upd H3 a (.ext (DRaw X.w a (storedH xs (.tup l) c r))), d_write I3 gm hsb ⟨q, hq⟩ ⟨⟨q, es, ep, hq, w2, w3, w4, w5⟩, ⟨q, hq⟩, fun h1 h2 ⟨o1, es1, ep1, c1, c2⟩ k1 => ⟨o1, es1, ep1, k1 _ c1, c2⟩⟩, q3 _ ex (rs3.writeO qa (stD_eq e1) (fun od u z => by rw [z] at gm; exact gm) (.inr ⟨_, vs', putD_ne, upd_same, v2, ?_, p1, ?_, p2, p3.ext ex⟩))⟩
                · have e5 := congrArg List.length p1
                  rw [List.length_map, List.length_map] at e5
                  have := putD_len (kvs := kvs) (k := .tup l) (v := z)
                  omega
                · intro x hx
                  unfold storedH at hx
                  split at hx
                  · rw [List.mem_map] at hx
                    obtain ⟨x0, m0, rfl⟩ := hx
                    have v5' := v5 x0 m0
                    unfold putAt
                    split <;> exact ⟨v5'.1.ext ex, v5'.2⟩
                  · rcases List.mem_append.mp hx with hx | hx
                    · exact ⟨(v5 x hx).1.ext ex, (v5 x hx).2⟩
                    · simp at hx
                      subst hx
                      obtain rfl : y = .ref c := by
                        unfold aOf at rb
                        cases rb with
                        | tup q1 q2 => cases ry; rfl
                      exact ⟨rb.ext ex, hdep⟩
            | _ => cases g0
        · cases hp
      · cases hp
    | _ => cases hp
/-! ### d.get(k) -/
def isDA (d : A) (st : Store) : Bool := match d with
  | .ref r => (stD st r).isSome
  | _ => false
def mDGet1 (mo mi : MX) : MX := fun ρ st => (mo ρ st).bind fun d st1 => if isDA d st1 = true then (mi ρ st1).bind fun b st2 => match askD d b st2 with
  | some o => .ok (o.getD .non) st2
  | none => .bad else .bad
theorem isDA_ok {d : A} {x : V} {u : Value} (I : Inv X pins σ H s) (rs : RS X.K X.w X.mg φ H st) (rx : RV X.K φ H x d) (h : isDA d st = true) (ru : RelV x u) : s.TypeIs u "dict" ∧ (∀ b, u = .ref b → ∃ ob, s.heap.get? b = some ob ∧ ob.dict = none) := by
  unfold isDA at h
  cases rx with
  | @ref a r q =>
    obtain rfl : u = Value.ref a := ru
    simp only at h
    obtain ⟨kvs, e⟩ := Option.isSome_iff_exists.mp h
    rcases rs.dct q e with ⟨ks, h1, h2, h3⟩ | ⟨xs, vs, h0, h1, h2, h3, h4, h5, h6, h7⟩
    · obtain ⟨t1, t2, _⟩ := isD_at I (.inl ⟨_, .inl h1⟩)
      exact ⟨t1, t2⟩
    · obtain ⟨⟨ob, es, ep, g1, g2, g3, g4, g5⟩, _, _⟩ := I.hok a _ h1
      exact ⟨⟨ob, g1, g2.1⟩, fun b e => by cases e; exact ⟨ob, g1, g2.2.1⟩⟩
  | _ => cases h
theorem me_dget1 {o e : Expr} {apos cpos : Pos} {mo mi : MX} {W : WX} (hu : X.A.units + 64 < cLine) (ho : PE X o (tE X W mo)) (he : PE X e (tE X W mi)) (m : M1 X o "get" apos e cpos) : PE X (.Call (.Attribute o "get" apos) [e] [] cpos) (tE X W (mDGet1 mo mi)) := by
  refine ⟨fun pins s σ H Q I ⟨φ, ρ, st, rs, re, h⟩ => ?_⟩
  refine wpAny_Call_method m.base m.few m.line PySem.F.plainAttrs_dict PySem.F.slot_dict_get PySem.F.type_dict_get (thn (ho.run pins s σ H (fun x H1 => (∃ φ st d, RS X.K X.w X.mg φ H1 st ∧ RV X.K φ H1 x d ∧ isDA d st = true) ∧ tE X W mi σ H1 fun y H2 => ∃ φ st d b o, RS X.K X.w X.mg φ H2 st ∧ RV X.K φ H2 x d ∧ RV X.K φ H2 y b ∧ askD d b st = some o ∧ ∀ w, RV X.K φ H2 w (o.getD .non) → Q w H2) I ⟨φ, ρ, st, rs, re, h.seq fun φ1 d x H1 st1 e1 rs1 rv1 h1 => ?_⟩) fun u s1 ⟨x, H1, I1, rx, ⟨φ1, st1, d1, rs1, rd1, hd1⟩, q1⟩ => ?_)
  · by_cases c : isDA d st1 = true
    · rw [if_pos c] at h1
      refine ⟨⟨φ1, st1, d, rs1, rv1, c⟩, φ1, ρ, st1, rs1, re.ext e1, h1.seq fun φ2 b y H2 st2 e2 rs2 rv2 h2 => ?_⟩
      cases e : askD d b st2 with
      | none => rw [e] at h2; exact h2.elim
      | some o =>
        rw [e] at h2
        exact ⟨φ2, st2, d, b, o, rs2, rv1.ext e2, rv2, e, fun w rw' => h2.ok rs2 rw'⟩
    · rw [if_neg c] at h1
      exact h1.elim
  · obtain ⟨t1, t2⟩ := isDA_ok I1 rs1 rd1 hd1 rx
    refine ⟨t1, t2, ?_⟩
    rw [m.trees]
    refine Calls.callWith_builtin rfl (Calls.evalArgs_plain (Calls.spliced_cons (thn (he.run pins s1 σ H1 _ I1 q1) fun iv s2 ⟨y, H2, I2, ry, φ2, st2, d, b, o, rs2, rd, rb, hv, q2⟩ => Calls.spliced_nil ?_)))
    obtain ⟨a, rfl, ⟨ov, g, r⟩ | ⟨k, c, xs, rfl, g1, g2, g3, ov, r1, r2⟩⟩ := ask_run I2 rs2 rd rb hv rx ry
    · refine d_get1 (by omega) I2 g ry fun w' s3 I3 rw' => ⟨_, H2, I3, rw', q2 _ ?_⟩
      cases ov <;> cases o <;> first | exact r.elim | exact .non | exact r
    · refine call_meetsIn PySem.F.slot_dict_get g2.typeIs PySem.F.entry_dict_get (PySem.F.args_dict_get_2 _ _) (meetsH_dict_get (nestedKind X.prog X.w) a c g3) ⟨by show X.A.in1.units + 8 < _; show X.A.units + 1 + 8 < _; omega, k, xs, g1, g2, ov.getD .non, H2, I2.tok _, r1.getD rfl, q2 _ ?_⟩
      cases ov <;> cases o <;> first | exact r2.elim | exact .non | exact r2
end
/-! ### x in a list of data -/
theorem units_in {k : Nat} {A : Around} (hr : Room k A) : A.units + 65 < cLine := by
  have := hr.un
  omega
section
variable {X : Cx}
def findL (a b : A) (st : Store) : Option Bool := match dataOf st a, dataOf st b with
  | some d, some (.list ds) => if SeqAt.shaped d = true ∧ SeqAt.shaped (.list ds) = true then some (ds.any fun z => PyData.eqv z d) else none
  | _, _ => none
def inL : A → A → Store → R A := fun a b st => match findL a b st with
  | some k => .ok (.bl k) st
  | none => .bad
def notInL : A → A → Store → R A := fun a b st => match findL a b st with
  | some k => .ok (.bl (!k)) st
  | none => .bad
theorem findL_ok {φ : List Addr} {H : Hp} {st : Store} {x y : V} {a b : A} {k : Bool} (rs : RS X.K X.w X.mg φ H st) (ra : RV X.K φ H x a) (rb : RV X.K φ H y b) (h : findL a b st = some k) :
    ∃ d ds, Dp X.K H x d ∧ Dp X.K H y (.list ds) ∧ SeqAt.shaped d = true ∧ SeqAt.shaped (.list ds) = true ∧ (ds.any fun z => PyData.eqv z d) = k := by
  unfold findL at h
  split at h
  · rename_i d ds e1 e2
    split at h
    · rename_i hs
      cases h
      exact ⟨d, ds, dataOf_ok rs ra e1, dataOf_ok rs rb e2, hs.1, hs.2, rfl⟩
    · cases h
  · cases h
theorem os_inL : OpS X (rInD X.K) inL := fun W φ H st x y a b Q rs ra rb h => by
  unfold inL at h
  cases e : findL a b st with
  | none => rw [e] at h; exact h.elim
  | some k =>
    rw [e] at h
    obtain ⟨d, ds, h1, h2, h3, h4, h5⟩ := findL_ok rs ra rb e
    exact ⟨d, ds, h1, h2, h3, h4, by rw [h5]; exact h.ok rs (.bl _)⟩
theorem os_notInL : OpS X (rNotInD X.K) notInL := fun W φ H st x y a b Q rs ra rb h => by
  unfold notInL at h
  cases e : findL a b st with
  | none => rw [e] at h; exact h.elim
  | some k =>
    rw [e] at h
    obtain ⟨d, ds, h1, h2, h3, h4, h5⟩ := findL_ok rs ra rb e
    exact ⟨d, ds, h1, h2, h3, h4, by rw [h5]; exact h.ok rs (.bl _)⟩
end
end ML
/-! ML14: instances of own classes: fields, methods, making. -/
namespace ML
open PySem PySem.Spec L2 PyProof.Rows
/-- a def within a class -/
def clsAt (s : Stmt) (j : Nat) : Stmt := match s with
  | .ClassDef _ _ _ body .. => body.getD j (.Pass ⟨0, 0, 0, 0⟩)
  | s => s
/-! ### plain -/
def insA (cls : Str) (x : A) (st : Store) : Option (List (Str × A)) := match x with
  | .ref r => match st[r]? with
    | some (.oth (.ins c fs)) => if c = cls then some fs else none
    | _ => none
  | _ => none
def putFA (f : Str) (v : A) : List (Str × A) → List (Str × A)
  | [] => [(f, v)]
  | (g, x) :: r => if g = f then (g, v) :: r else (g, x) :: putFA f v r
def setIA (cls : Str) (f : Str) (v : A) (x : A) (st : Store) : Option Store := match x with
  | .ref r => match insA cls (.ref r) st with
    | some fs => if fs.length < 1000 then some (st.set r (.oth (.ins cls (putFA f v fs)))) else none
    | none => none
  | _ => none
def mFld (cls f : Str) (ma : MX) : MX := fun ρ st => (ma ρ st).bind fun x st1 => match insA cls x st1 with
  | some fs => match fs.lookup f with
    | some v => .ok v st1
    | none => .bad
  | none => .bad
def mPutF (cls f : Str) (mo ma : MX) : MS := fun ρ st => (ma ρ st).toS ρ fun v st1 => (mo ρ st1).toS ρ fun x st2 => match setIA cls f v x st2 with
  | some st3 => .nx ρ st3
  | none => .bad
def mMeth (cls m : Str) (mf : MF) (mo : MX) (ms : MA) : MX := fun ρ st => (mo ρ st).bind fun x st1 => match insA cls x st1 with
  | some fs => if fs.lookup m = none then (ms ρ st1).bind fun vs st2 => mf (x :: vs) st2 else .bad
  | none => .bad
def mMake (cls : Str) (mf : MF) (ms : MA) : MX := fun ρ st => (ms ρ st).bind fun vs st1 => (mf (.ref st1.length :: vs) (st1 ++ [.oth (.ins cls [])])).bind fun v st2 => match v with
  | .non => .ok (.ref st1.length) st2
  | _ => .bad
/-! ### in the heap -/
section
variable {K : PySem.W.Frag} {w : World} {mg : Str → Option Value} {φ : List Addr} {H : Hp} {st : Store}
theorem insA_eq {cls : Str} {r : Nat} {fs : List (Str × A)} (h : insA cls (.ref r) st = some fs) : st[r]? = some (.oth (.ins cls fs)) := by
  unfold insA at h
  simp only at h
  split at h
  · split at h
    · rename_i e c
      cases h
      rw [← c]
      assumption
    · cases h
  · cases h
theorem ins_at {cls : Str} {x : V} {a : A} {fs : List (Str × A)} (rs : RS K w mg φ H st) (rx : RV K φ H x a) (h : insA cls a st = some fs) :
    ∃ (r : Nat) (p C dx : Addr) (vs : List V), a = .ref r ∧ x = .ref p ∧ φ[r]? = some p ∧ st[r]? = some (.oth (.ins cls fs)) ∧ mg cls = some (.ref C) ∧ H p = some (.ins C dx ((fs.map (·.1)).zip vs)) ∧ H dx = some (.own p) ∧ dx ∉ φ ∧ RVs K φ H vs (fs.map (·.2)) := by
  cases rx with
  | @ref p r q =>
    have e := insA_eq h
    obtain ⟨C, dx, vs, h1, h2, h3, h4, h5⟩ := rs.all r p _ q e
    exact ⟨r, p, C, dx, vs, rfl, rfl, q, e, h1, h2, h3, h4, h5⟩
  | _ => cases h
theorem look_z {f : Str} {v : A} : ∀ {fs : List (Str × A)} {vs : List V}, RVs K φ H vs (fs.map (·.2)) → fs.lookup f = some v → ∃ u, ((fs.map (·.1)).zip vs).lookup f = some u ∧ RV K φ H u v
  | [], _, _, h => by simp at h
  | (g, x) :: fs, vs, r, h => by
    cases r with
    | @cons u _ us _ r1 r2 =>
      simp only [List.map_cons, List.zip_cons_cons, List.lookup_cons] at h ⊢
      cases c : f == g with
      | true =>
        rw [c] at h
        simp only at h
        cases h
        exact ⟨u, rfl, r1⟩
      | false =>
        rw [c] at h
        exact look_z r2 h
theorem look_none {f : Str} : ∀ {fs : List (Str × A)} {vs : List V}, vs.length = fs.length → fs.lookup f = none → ((fs.map (·.1)).zip vs).lookup f = none
  | [], _, _, _ => by simp
  | (g, x) :: fs, [], h, _ => by simp at h
  | (g, x) :: fs, u :: us, h, h2 => by
    simp only [List.map_cons, List.zip_cons_cons, List.lookup_cons] at h2 ⊢
    cases c : f == g with
    | true =>
      rw [c] at h2
      cases h2
    | false =>
      rw [c] at h2
      exact look_none (by simpa using h) h2
theorem put_z {f : Str} {u : V} {v : A} (ru : RV K φ H u v) : ∀ {fs : List (Str × A)} {vs : List V}, RVs K φ H vs (fs.map (·.2)) → ∃ us, putF f u ((fs.map (·.1)).zip vs) = ((putFA f v fs).map (·.1)).zip us ∧ RVs K φ H us ((putFA f v fs).map (·.2))
  | [], vs, r => by
    cases r
    exact ⟨[u], rfl, .cons ru .nil⟩
  | (g, x) :: fs, vs, r => by
    cases r with
    | @cons y ys _ _ r1 r2 =>
      simp only [List.map_cons, List.zip_cons_cons, putF, putFA]
      by_cases c : g = f
      · rw [if_pos c, if_pos c]
        exact ⟨u :: ys, rfl, .cons ru r2⟩
      · rw [if_neg c, if_neg c]
        obtain ⟨us, e1, e2⟩ := put_z (f := f) ru r2
        exact ⟨y :: us, by rw [e1]; rfl, .cons r1 e2⟩
end
/-- a field of a class's instances -/
structure FldF (K : PySem.W.Frag) (mg : Str → Option Value) (cls f : Str) : Prop where
  ex : ∃ C, mg cls = some (.ref C) ∧ L2.Cls K C ∧ NoAttr K C f
section
variable {X : Cx} {W : WX} {o e : Expr} {f cls : Str} {pos pos' : Pos} {mo ma : MX}
theorem me_fld (F : FldF X.K X.mg cls f) (he : PE X e (tE X W ma)) (hb : attributeBase e f X.env (eval e X.env) = eval e X.env := by rfl) : PE X (.Attribute e f pos) (tE X W (mFld cls f ma)) := (pe_fld he hb).imp fun σ H Q ⟨φ, ρ, st, rs, re, h⟩ => by
  obtain ⟨C, hC, hc, hn⟩ := F.ex
  refine ⟨φ, ρ, st, rs, re, h.seq fun φ1 d x H1 st1 e1 rs1 rv1 h1 => ?_⟩
  cases q : insA cls d st1 with
  | none => rw [q] at h1; exact h1.elim
  | some fs =>
    rw [q] at h1
    simp only at h1
    cases q2 : fs.lookup f with
    | none => rw [q2] at h1; exact h1.elim
    | some v =>
      rw [q2] at h1
      simp only at h1
      obtain ⟨r, p, C', dx, vs, rfl, rfl, g1, g2, g3, g4, g5, g6, g7⟩ := ins_at rs1 rv1 q
      rw [hC] at g3
      cases g3
      obtain ⟨u, l1, l2⟩ := look_z g7 q2
      exact ⟨p, C, dx, _, u, rfl, g4, hc, hn, l1, h1.ok rs1 l2⟩
theorem ms_putf {value : Expr} (F : FldF X.K X.mg cls f) (ho : PE X o (tE X W mo)) (hv : PE X value (tE X W ma)) (hs : swapsWith value (some (.Attribute o f pos')) pos.line X.env = pure false := by rfl) : PS X (.Assign [.Attribute o f pos'] value pos) (tS X W (mPutF cls f mo ma)) := (ps_fld ho hv hs).imp fun D σ H ⟨φ, ρ, st, rs, re, h⟩ => by
  obtain ⟨C, hC, hc, hn⟩ := F.ex
  refine ⟨φ, ρ, st, rs, re, h.exp re fun φ1 d v H1 st1 e1 rs1 rv1 h1 => ?_⟩
  refine ⟨φ1, ρ, st1, rs1, re.ext e1, h1.exp (re.ext e1) fun φ2 a x H2 st2 e2 rs2 rv2 h2 => ?_⟩
  cases q : setIA cls f d a st2 with
  | none => rw [q] at h2; exact h2.elim
  | some st3 =>
    rw [q] at h2
    simp only at h2
    unfold setIA at q
    cases rv2 with
    | @ref p r qp =>
      simp only at q
      cases q2 : insA cls (.ref r) st2 with
      | none => rw [q2] at q; cases q
      | some fs =>
        rw [q2] at q
        simp only at q
        split at q
        · rename_i hl
          cases q
          obtain ⟨r', p', C', dx, vs, e3, e4, g1, g2, g3, g4, g5, g6, g7⟩ := ins_at rs2 (.ref qp) q2
          cases e3
          cases e4
          rw [hC] at g3
          cases g3
          have ex : Ext φ2 H2 φ2 (upd H2 p (.ins C dx (putF f v ((fs.map (·.1)).zip vs)))) := ext_write qp (fun od u z => by rw [g4] at z; cases z)
          obtain ⟨us, u1, u2⟩ := put_z (f := f) ((rv1.ext e2).ext ex) (fs := fs) (g7.ext ex)
          have hlen : ((fs.map (·.1)).zip vs).length < 1000 := by
            rw [List.length_zip, List.length_map]
            omega
          refine ⟨p, C, dx, _, rfl, g4, hc, hn, hlen, h2 φ2 σ _ ex (rs2.writeO qp g2 (fun od u z => by rw [g4] at z; cases z) ⟨C, dx, us, hC, ?_, ?_, g6, u2⟩) (((re.ext e1).ext e2).ext ex)⟩
          · rw [upd_same, u1]
          · rw [upd_ne (fun z => by rw [z, g4] at g5; cases g5)]
            exact g5
        · cases q
    | _ => cases q
end
/-! ### methods -/
structure GM (K : PySem.W.Frag) (mg : Str → Option Value) (cls m qual : Str) (st : Stmt) (ps : List Str) : Prop where
  ex : ∃ (C f : Addr) (fd : FuncData), mg cls = some (.ref C) ∧ L2.Cls K C ∧ Meth K C m f ∧ Fun K m qual st f fd ∧ Binds K fd ps []
structure CalM (P : Program) (w : World) (K : PySem.W.Frag) (mg : Str → Option Value) (base : Heap) (cls m : Str) (k : Nat) (mf : MF) : Prop where
  ex : ∃ (C f : Addr) (fd : FuncData) (ps : List Str), mg cls = some (.ref C) ∧ L2.Cls K C ∧ Meth K C m f ∧ Binds K fd ps [] ∧ FnOk P w K mg base (L2.CX P w) k f fd ps (spM K w mg mf)
theorem CalM.mono {P : Program} {w : World} {K : PySem.W.Frag} {mg : Str → Option Value} {base : Heap} {cls m : Str} {k j : Nat} {mf : MF} (C : CalM P w K mg base cls m j mf) (h : j ≤ k) : CalM P w K mg base cls m k mf := by
  obtain ⟨A, f, fd, ps, h1, h2, h3, h4, F⟩ := C.ex
  exact ⟨A, f, fd, ps, h1, h2, h3, h4, F.mono h⟩
theorem calm_of {P : Program} {w : World} {K : PySem.W.Frag} {mg : Str → Option Value} {base : Heap} {cls m qual : Str} {st : Stmt} {N ps : List Str} {k : Nat} {body : MS} (G : GM K mg cls m qual st ps) (S : FnScope N ps (defScope st))
    (hb : ∀ (f : Addr) (cdv : Value) (A : Around) (outer : List PySem.Env) (s : Shared) (H : Hp) (E : XK), Room k (A.deeper (PyProof.Rows.envOfC qual (defScope st) s.heap.objs.size f cdv)) →
      PSs (cxOf (L2.CX P w) P w K mg base N qual (defScope st) f cdv A outer s H E) (defBody st) (tS (cxOf (L2.CX P w) P w K mg base N qual (defScope st) f cdv A outer s H E) (fun c d _ H' => E c d H') body)) :
    CalM P w K mg base cls m (k + 1) (mFn N.length ps.length body) := by
  obtain ⟨C, f, fd, h1, h2, h3, F, b⟩ := G.ex
  exact ⟨C, f, fd, ps, h1, h2, h3, b, fn_ok F S (hb f)⟩
/-- __init__, as the top has left it -/
structure GI (K : PySem.W.Frag) (mg : Str → Option Value) (cls qual : Str) (st : Stmt) (ps : List Str) : Prop where
  ex : ∃ (C f : Addr) (fd : FuncData), mg cls = some (.ref C) ∧ Mk K C f ∧ Fun K "__init__" qual st f fd ∧ Binds K fd ps []
structure CalI (P : Program) (w : World) (K : PySem.W.Frag) (mg : Str → Option Value) (base : Heap) (cls : Str) (k : Nat) (mf : MF) : Prop where
  ex : ∃ (C f : Addr) (fd : FuncData) (ps : List Str), mg cls = some (.ref C) ∧ Mk K C f ∧ Binds K fd ps [] ∧ FnOk P w K mg base (L2.CX P w) k f fd ps (spM K w mg mf)
theorem CalI.mono {P : Program} {w : World} {K : PySem.W.Frag} {mg : Str → Option Value} {base : Heap} {cls : Str} {k j : Nat} {mf : MF} (C : CalI P w K mg base cls j mf) (h : j ≤ k) : CalI P w K mg base cls k mf := by
  obtain ⟨A, f, fd, ps, h1, h2, h3, F⟩ := C.ex
  exact ⟨A, f, fd, ps, h1, h2, h3, F.mono h⟩
theorem cali_of {P : Program} {w : World} {K : PySem.W.Frag} {mg : Str → Option Value} {base : Heap} {cls qual : Str} {st : Stmt} {N ps : List Str} {k : Nat} {body : MS} (G : GI K mg cls qual st ps) (S : FnScope N ps (defScope st))
    (hb : ∀ (f : Addr) (cdv : Value) (A : Around) (outer : List PySem.Env) (s : Shared) (H : Hp) (E : XK), Room k (A.deeper (PyProof.Rows.envOfC qual (defScope st) s.heap.objs.size f cdv)) →
      PSs (cxOf (L2.CX P w) P w K mg base N qual (defScope st) f cdv A outer s H E) (defBody st) (tS (cxOf (L2.CX P w) P w K mg base N qual (defScope st) f cdv A outer s H E) (fun c d _ H' => E c d H') body)) :
    CalI P w K mg base cls (k + 1) (mFn N.length ps.length body) := by
  obtain ⟨C, f, fd, h1, h2, F, b⟩ := G.ex
  exact ⟨C, f, fd, ps, h1, h2, b, fn_ok F S (hb f)⟩
section
variable {X : Cx} {E : XK} {o e : Expr} {es : List Expr} {m cls : Str} {pos apos p : Pos} {mo : MX} {ms : MA} {mf : MF} {k : Nat} {pl : Sem Bool}
theorem passX (tk : Takes X (fun c d _ H' => E c d H')) : Passes (L2.CX X.prog X.w) X E := fun pins σ H s e s' I c => passAt tk σ pins H s e s' I c
theorem meth_ok {C : Addr} {ta : TE} {σ : L2.St} {H : Hp} {Q : VK} (hC : X.mg cls = some (.ref C)) (h : tE X (fun c d _ H' => E c d H') (mMeth cls m mf mo ms) σ H Q) :
    tMeth C m (spM X.K X.w X.mg mf) [] E (tE X (fun c d _ H' => E c d H') mo) (tA X (fun c d _ H' => E c d H') ms) σ H Q := by
  obtain ⟨φ, ρ, st, rs, re, h⟩ := h
  refine ⟨φ, ρ, st, rs, re, h.seq fun φ1 a x H1 st1 e1 rs1 rv1 h1 => ?_⟩
  cases q : insA cls a st1 with
  | none => rw [q] at h1; exact h1.elim
  | some fs =>
    rw [q] at h1
    simp only at h1
    obtain ⟨r, p, C', dx, vs, rfl, rfl, g1, g2, g3, g4, g5, g6, g7⟩ := ins_at rs1 rv1 q
    rw [hC] at g3
    cases g3
    split at h1
    · rename_i hl
      refine ⟨p, dx, _, rfl, g4, look_none (by have := g7.length; simpa using this) hl, φ1, ρ, st1, rs1, re.ext e1, h1.seq fun φ2 ds us H2 st2 e2 rs2 rv2 h2 => ?_⟩
      rw [List.append_nil]
      exact ⟨φ2, .ref r :: ds, st2, rs2, .cons (rv1.ext e2) rv2, h2⟩
    · exact h1.elim
theorem me_meth (M : CalM X.prog X.w X.K X.mg X.base cls m k mf) (hr : Room k X.A) (tk : Takes X (fun c d _ H' => E c d H')) (ho : PE X o (tE X (fun c d _ H' => E c d H') mo)) (ha : PA X (e :: es) (tA X (fun c d _ H' => E c d H') ms))
    (hst : starEach (e :: es) X.env = (false, eval e X.env) :: starEach es X.env := by rfl) (hpl : (backTo pos (starEach es X.env)).any (·.1) = false := by rfl)
    (ht : eval (.Call (.Attribute o m apos) (e :: es) [] pos) X.env = (do
      let ov ← eval o X.env
      standAt apos.atName
      let (f, first) ← holding [ov] (getMethod ov m pl)
      callWith pos f first (backTo pos (starEach (e :: es) X.env)) (backToKw pos (keywordEach [] X.env))) := by rfl) :
    PE X (.Call (.Attribute o m apos) (e :: es) [] pos) (tE X (fun c d _ H' => E c d H') (mMeth cls m mf mo ms)) := by
  obtain ⟨C, f, fd, ps, hC, hc, hm, hb, F⟩ := M.ex
  exact (pe_meth ho hc hm F hr hb .nil (passX tk) ha hst hpl ht).imp fun σ H Q h => meth_ok (ta := tE X (fun c d _ H' => E c d H') mo) hC h
theorem me_meth0 (M : CalM X.prog X.w X.K X.mg X.base cls m k mf) (hr : Room k X.A) (tk : Takes X (fun c d _ H' => E c d H')) (ho : PE X o (tE X (fun c d _ H' => E c d H') mo))
    (ht : eval (.Call (.Attribute o m apos) [] [] pos) X.env = (do
      let ov ← eval o X.env
      standAt apos.atName
      let (f, first) ← holding [ov] (getMethod ov m pl)
      callWith pos f first (backTo pos (starEach [] X.env)) (backToKw pos (keywordEach [] X.env))) := by rfl) :
    PE X (.Call (.Attribute o m apos) [] [] pos) (tE X (fun c d _ H' => E c d H') (mMeth cls m mf mo mNil)) := by
  obtain ⟨C, f, fd, ps, hC, hc, hm, hb, F⟩ := M.ex
  refine (pe_meth0 ho hc hm F hr hb .nil (passX tk) ht).imp fun σ H Q h => ?_
  have h2 := meth_ok (ta := tE X (fun c d _ H' => E c d H') mo) hC h
  obtain ⟨φ, ρ, st, rs, re, h3⟩ := h2
  refine ⟨φ, ρ, st, rs, re, h3.imp fun x H1 ⟨a, dx, fs, q1, q2, q3, φ1, ρ1, st1, rs1, re1, q4⟩ => ⟨a, dx, fs, q1, q2, q3, ?_⟩⟩
  exact q4.ok rs1 .nil
theorem make_ok {C : Addr} {σ : L2.St} {H : Hp} {Q : VK} (hC : X.mg cls = some (.ref C)) (h : tE X (fun c d _ H' => E c d H') (mMake cls mf ms) σ H Q) : tMake C (spM X.K X.w X.mg mf) [] E (tA X (fun c d _ H' => E c d H') ms) σ H Q := by
  obtain ⟨φ, ρ, st, rs, re, h⟩ := h
  refine ⟨φ, ρ, st, rs, re, h.seq fun φ1 ds vs H1 st1 e1 rs1 rv1 h1 => fun x dx hx hdx ne => ?_⟩
  rw [List.append_nil]
  have ex : Ext φ1 H1 (φ1 ++ [x]) (upd (upd H1 dx (.own x)) x (.ins C dx [])) := ⟨⟨[x], rfl⟩, fun a u n q => by
    have n1 : a ≠ x := ne_of_none q hx
    have n2 : a ≠ dx := ne_of_none q hdx
    refine ⟨by rw [upd_ne n1, upd_ne n2]; exact q, fun z => ?_⟩
    rcases List.mem_append.mp z with z | z
    · exact n z
    · exact n1 (by simpa using z), fun a o u q => by rw [upd_ne (ne_of_none q hx), upd_ne (ne_of_none q hdx)]; exact q⟩
  have e0 : Ext φ1 H1 φ1 (upd H1 dx (.own x)) := ext_new hdx
  have rs2 : RS X.K X.w X.mg φ1 (upd H1 dx (.own x)) st1 := rs1.new hdx
  have hx2 : upd H1 dx (.own x) x = none := by
    rw [upd_ne (Ne.symm ne)]
    exact hx
  have nd : dx ∉ φ1 ++ [x] := fun z => by
    rcases List.mem_append.mp z with z | z
    · exact rs1.notin hdx z
    · exact ne (by simpa using z)
  have rs3 : RS X.K X.w X.mg (φ1 ++ [x]) (upd (upd H1 dx (.own x)) x (.ins C dx [])) (st1 ++ [.oth (.ins cls [])]) := rs2.allocO hx2 ⟨C, dx, [], hC, upd_same, by rw [upd_ne ne, upd_same], nd, .nil⟩
  refine ⟨φ1 ++ [x], .ref st1.length :: ds, st1 ++ [.oth (.ins cls [])], rs3, .cons (.newLst rs1) (rv1.ext ex), ?_⟩
  refine (h1.mono ex).seq fun φ2 a v H2 st2 e2 rs4 rv4 h4 => ?_
  cases rv4 with
  | non => exact ⟨rfl, h4.ok rs4 (RV.ext e2 (.newLst rs1 (H' := upd (upd H1 dx (.own x)) x (.ins C dx []))))⟩
  | _ => exact h4.elim
theorem me_make {x : Str} (M : CalI X.prog X.w X.K X.mg X.base x k mf) (hr : Room (k + 1) X.A) (tk : Takes X (fun c d _ H' => E c d H')) (ha : PA X (e :: es) (tA X (fun c d _ H' => E c d H') ms)) (hg : Gl X x := by rfl) (hdb : (x == ("__debug__" : Str)) = false := by decide)
    (he : starEach (e :: es) X.env = (false, eval e X.env) :: starEach es X.env := by rfl) (hpl : (backTo pos (starEach es X.env)).any (·.1) = false := by rfl) :
    PE X (.Call (.Name x p) (e :: es) [] pos) (tE X (fun c d _ H' => E c d H') (mMake x mf ms)) := by
  obtain ⟨C, f, fd, ps, hC, hm, hb, F⟩ := M.ex
  exact (pe_make hm F hr hg hC hb .nil (passX tk) ha hdb he hpl).imp fun σ H Q h => make_ok hC h
theorem me_make0 {x : Str} (M : CalI X.prog X.w X.K X.mg X.base x k mf) (hr : Room (k + 1) X.A) (tk : Takes X (fun c d _ H' => E c d H')) (hg : Gl X x := by rfl) (hdb : (x == ("__debug__" : Str)) = false := by decide) :
    PE X (.Call (.Name x p) [] [] pos) (tE X (fun c d _ H' => E c d H') (mMake x mf mNil)) := by
  obtain ⟨C, f, fd, ps, hC, hm, hb, F⟩ := M.ex
  refine (pe_make0 hm F hr hg hC hb .nil (passX tk) hdb).imp fun σ H Q h => ?_
  obtain ⟨φ, ρ, st, rs, re, h3⟩ := make_ok hC h
  exact h3.ok rs .nil
end
end ML
/-! ML15: list(d), sorted of ints. -/
namespace ML
open PySem PySem.Spec L2 PyProof.Rows
def noTup (kvs : List (NestedKey × A)) : Bool := kvs.all fun kv => !tupK kv.1
/-- list(x): of a dict its keys -/
def listU : List A → Store → R A
  | [.ref r], st => match stD st r with
    | some kvs => if noTup kvs = true then .ok (.ref st.length) (st ++ [.lst (kvs.map fun kv => aOf kv.1)]) else .bad
    | none => listA [.ref r] st
  | xs, st => listA xs st
def leB : Int → Int → Bool := fun a b => decide (a ≤ b)
def sortI (ns : List Int) : List Int := ns.mergeSort leB
def sortA : List A → Store → R A
  | [x], st => match itemsL x st with
    | some xs => match intsOf xs with
      | some ns => .ok (.ref st.length) (st ++ [.lst ((sortI ns).map .int)])
      | none => .bad
    | none => .bad
  | _, _ => .bad
theorem sorted_uniq : ∀ {xs ys : List Int}, xs.Perm ys → xs.Pairwise (· ≤ ·) → ys.Pairwise (· ≤ ·) → xs = ys
  | [], ys, p, _, _ => by
    have := p.length_eq
    cases ys with
    | nil => rfl
    | cons y ys => simp at this
  | x :: xs, [], p, _, _ => by
    have := p.length_eq
    simp at this
  | x :: xs, y :: ys, p, hx, hy => by
    rw [List.pairwise_cons] at hx hy
    have e : x = y := by
      have h1 : x ∈ y :: ys := p.mem_iff.mp (by simp)
      have h2 : y ∈ x :: xs := p.mem_iff.mpr (by simp)
      rcases List.mem_cons.mp h1 with h1 | h1
      · exact h1
      · rcases List.mem_cons.mp h2 with h2 | h2
        · exact h2.symm
        · have := hy.1 x h1
          have := hx.1 y h2
          omega
    subst e
    rw [sorted_uniq (List.Perm.cons_inv p) hx.2 hy.2]
theorem sortI_perm (ns : List Int) : (sortI ns).Perm ns := List.mergeSort_perm ns leB
theorem sortI_asc (ns : List Int) : (sortI ns).Pairwise (· ≤ ·) := by
  have h := List.pairwise_mergeSort (le := leB) (fun a b c h1 h2 => by
    simp only [leB, decide_eq_true_eq] at *
    omega) (fun a b => by
    simp only [leB, Bool.or_eq_true, decide_eq_true_eq]
    omega) ns
  exact h.imp fun {a b} h => by simpa [leB] using h
section
variable {X : Cx}
def rListU (K : PySem.W.Frag) : List V → Hp → VK → Prop := fun xs H Q => (∃ p ys, xs = [.ref p] ∧ (SqL K H p ys ∨ SqT K H p ys) ∧ ∀ l, H l = none → Q (.ref l) (upd H l (.lst ys))) ∨
  (∃ (a : Addr) (kvs : List (Key × V)), xs = [.ref a] ∧ Rd H a (.dK kvs) ∧ ∀ p, H p = none → Q (.ref p) (upd H p (.lst (kvs.map fun kv => kV kv.1))))
theorem call_listU (hcalm : X.calm = true) : CallR X (.type "list") (rListU X.K) := CallR.or call_list_of (call_listD hcalm)
theorem keysV {φ : List Addr} {H : Hp} : ∀ {ks : List (Key × V)} {kvs : List (NestedKey × A)}, kvs.map (·.1) = ks.map (fun x => nk x.1) → RVs X.K φ H (ks.map fun kv => kV kv.1) (kvs.map fun kv => aOf kv.1)
  | [], [], _ => .nil
  | [], _ :: _, h => by simp at h
  | _ :: _, [], h => by simp at h
  | p :: ks, q :: kvs, h => by
    simp only [List.map_cons, List.cons.injEq] at h
    refine .cons ?_ (keysV h.2)
    show RV X.K φ H (kV p.1) (aOf q.1)
    rw [h.1]
    obtain ⟨k, v⟩ := p
    cases k with
    | inl i => exact .int i
    | inr x => exact .str x
theorem cs_listU : CaS X (rListU X.K) listU := fun W φ H st vs as Q rs rv h => by
  cases rv with
  | nil => exact .inl (cs_list W φ H st _ _ Q rs .nil h)
  | cons a b =>
    cases b with
    | cons c d =>
      refine .inl (cs_list W φ H st _ _ Q rs (.cons a (.cons c d)) ?_)
      cases a <;> exact h
    | nil =>
      cases a with
      | @ref p r q =>
        unfold listU at h
        simp only at h
        cases e : stD st r with
        | none =>
          rw [e] at h
          exact .inl (cs_list W φ H st _ _ Q rs (.cons (.ref q) .nil) h)
        | some kvs =>
          rw [e] at h
          simp only at h
          split at h
          · rename_i hn
            rcases rs.dct q e with ⟨ks, h1, h2, h3⟩ | ⟨xs, vs, h0, h1, h2, h3, h4, h5, h6, h7⟩
            · exact .inr ⟨p, ks, rfl, .inl h1, fun l hl => h _ _ _ (ext_alloc rs hl) (rs.alloc hl (keysV h2)) (.newLst rs)⟩
            · exfalso
              cases kvs with
              | nil => exact h0 rfl
              | cons kv kvs =>
                cases xs with
                | nil => simp at h4
                | cons x xs =>
                  simp only [List.map_cons, List.cons.injEq] at h4
                  have hx := (h5 x (by simp)).1
                  unfold noTup at hn
                  rw [List.all_eq_true] at hn
                  have := hn kv (by simp)
                  rw [← h4.1] at this
                  cases ek : x.1 with
                  | tup l => rw [ek] at this; simp [tupK] at this
                  | _ => rw [ek] at hx; unfold aOf at hx; cases hx
          · exact h.elim
      | non => exact .inl (cs_list W φ H st _ _ Q rs (.cons .non .nil) h)
      | bl k => exact .inl (cs_list W φ H st _ _ Q rs (.cons (.bl k) .nil) h)
      | int k => exact .inl (cs_list W φ H st _ _ Q rs (.cons (.int k) .nil) h)
      | str k => exact .inl (cs_list W φ H st _ _ Q rs (.cons (.str k) .nil) h)
      | tup q1 q2 => exact .inl (cs_list W φ H st _ _ Q rs (.cons (.tup q1 q2) .nil) h)
      | scr q1 q2 => exact .inl (cs_list W φ H st _ _ Q rs (.cons (.scr q1 q2) .nil) h)
theorem cs_sorted : CaS X (rSortedI X.K) sortA := fun W φ H st vs as Q rs rv h => by
  cases rv with
  | nil => exact h.elim
  | cons a b =>
    cases b with
    | cons c d => cases a <;> exact h.elim
    | nil =>
      rename_i v x
      unfold sortA at h
      simp only at h
      cases e : itemsL x st with
      | none => rw [e] at h; exact h.elim
      | some xs =>
        rw [e] at h
        simp only at h
        cases e2 : intsOf xs with
        | none => rw [e2] at h; exact h.elim
        | some ns =>
          rw [e2] at h
          simp only at h
          obtain ⟨p, vs, rfl, h1, h2⟩ := itemsL_ok rs a e
          have e3 := intsOf_eq e2
          rw [e3] at h2
          have e4 := RVs.ints h2
          subst e4
          refine ⟨p, ns, rfl, h1, fun ns' q perm asc hq => ?_⟩
          have e5 : ns' = sortI ns := sorted_uniq (perm.trans (sortI_perm ns).symm) asc (sortI_asc ns)
          subst e5
          exact h _ _ _ (ext_alloc rs hq) (rs.alloc hq (RVs.mkInts _)) (.newLst rs)
end
end ML
/-! ML16: walks over a dict's keys (the dict is locked meanwhile). -/
namespace ML
open PySem PySem.Spec L2 PyProof.Rows
/-! ### plain -/
def flatD (kvs : List (NestedKey × A)) : Bool := kvs.all fun kv => !tupK kv.1
def mKeysF (i : Nat) : Env → Store → R Src := fun ρ st => match ρ[i]? with
  | some (some (.ref r)) => match stF st r with
    | some kvs => .ok (.vals (kvs.map fun kv => aOf kv.1)) st
    | none => .bad
  | _ => .bad
def unF (r : Nat) (st : Store) : Option Store := match stF st r with
  | some kvs => some (st.set r (.oth (.dct kvs)))
  | none => none
def unlockS (r : Nat) (q : SR) : SR := match q with
  | .nx ρ st => match unF r st with
    | some st1 => .nx ρ st1
    | none => .bad
  | .bk ρ st => match unF r st with
    | some st1 => .bk ρ st1
    | none => .bad
  | .ct ρ st => match unF r st with
    | some st1 => .ct ρ st1
    | none => .bad
  | .rt a st => match unF r st with
    | some st1 => .rt a st1
    | none => .bad
  | _ => .bad
def unlockX (r : Nat) (q : R A) : R A := match q with
  | .ok a st => match unF r st with
    | some st1 => .ok a st1
    | none => .bad
  | _ => .bad
def mForD (i : Nat) (tg : Tg) (body : MS) : MS := fun ρ st => match ρ[i]? with
  | some (some (.ref r)) => match stD st r with
    | some kvs => if flatD kvs = true then unlockS r (mFor (mKeysF i) tg body ρ (st.set r (.oth (.frd kvs)))) else .bad
    | none => .bad
  | _ => .bad
def mLcD (i : Nat) (tg : Tg) (own : List Nat) (tt : MT) (me : MX) : MX := fun ρ st => match ρ[i]? with
  | some (some (.ref r)) => match stD st r with
    | some kvs => if flatD kvs = true then unlockX r (mLc (mKeysF i) tg own tt me ρ (st.set r (.oth (.frd kvs)))) else .bad
    | none => .bad
  | _ => .bad
/-! ### in the heap -/
section
variable {K : PySem.W.Frag} {w : World} {mg : Str → Option Value} {φ φ' : List Addr} {H H' : Hp} {st : Store} {σ : L2.St} {ρ : Env}
theorem StT.up {p : Addr} {o : HO} (hp : p ∈ φ) {a : Addr} {xs : List V} (h : StT K φ H a xs) : StT K φ (upd H p o) a xs := by
  rcases h with ⟨⟨q, hd, h⟩, n⟩ | h
  · have ne : a ≠ p := fun z => n (z ▸ hp)
    exact .inl ⟨⟨q, hd, by rw [upd_ne ne]; exact h⟩, n⟩
  · exact .inr h
theorem StL.up {p : Addr} {o : HO} (hp : p ∈ φ) {a : Addr} {xs : List V} (h : StL K φ H a xs) : StL K φ (upd H p o) a xs := by
  rcases h with ⟨⟨q, h⟩, n⟩ | h
  · have ne : a ≠ p := fun z => n (z ▸ hp)
    exact .inl ⟨⟨q, by rw [upd_ne ne]; exact h⟩, n⟩
  · exact .inr h
mutual
theorem RV.up {p : Addr} {o : HO} (hp : p ∈ φ) : ∀ {v : V} {d : A}, RV K φ H v d → RV K φ (upd H p o) v d
  | _, _, .non => .non
  | _, _, .bl b => .bl b
  | _, _, .int i => .int i
  | _, _, .str x => .str x
  | _, _, .tup h q => .tup (h.up hp) (RVs.up hp q)
  | _, _, .scr h q => .scr (h.up hp) (RVs.up hp q)
  | _, _, .ref h => .ref h
theorem RVs.up {p : Addr} {o : HO} (hp : p ∈ φ) : ∀ {vs : List V} {ds : List A}, RVs K φ H vs ds → RVs K φ (upd H p o) vs ds
  | _, _, .nil => .nil
  | _, _, .cons h q => .cons (RV.up hp h) (RVs.up hp q)
end
/-- the lock is taken off -/
theorem RS.unlock (r : RS K w mg φ H st) {i : Nat} {p : Addr} {od : Obj} {ks : List (Key × V)} {st1 : Store} (hp : φ[i]? = some p) (hz : H p = some (.frz od (.dK ks))) (e : unF i st = some st1) : RS K w mg φ (upd H p (.dK ks)) st1 := by
  unfold unF at e
  cases q : stF st i with
  | none => rw [q] at e; cases e
  | some kvs =>
    rw [q] at e
    cases e
    have hm : p ∈ φ := List.mem_of_getElem? hp
    have ho := stF_eq q
    obtain ⟨od', ks', g1, g2, g3⟩ := r.all i p _ hp ho
    rw [hz] at g1
    cases g1
    refine ⟨by rw [List.length_set]; exact r.len, r.nd, fun j a v h1 h2 => ?_⟩
    by_cases hj : i = j
    · subst hj
      rw [hp] at h1
      cases h1
      rw [List.getElem?_set_self (List.getElem?_eq_some_iff.mp ho).1] at h2
      cases h2
      exact .inl ⟨ks, upd_same, g2, RVs.up hm g3⟩
    · rw [List.getElem?_set_ne hj] at h2
      have h3 := r.all j a v h1 h2
      have na : a ≠ p := fun z => by
        subst z
        obtain ⟨l1, e1⟩ := List.getElem?_eq_some_iff.mp hp
        obtain ⟨l2, e2⟩ := List.getElem?_eq_some_iff.mp h1
        exact hj ((List.getElem_inj r.nd).mp (e1.trans e2.symm))
      cases v with
      | lst ds' =>
        obtain ⟨zs, y1, y2⟩ := h3
        exact ⟨zs, by rw [upd_ne na]; exact y1, RVs.up hm y2⟩
      | oth u =>
        exact RO2.map (fun _ _ => RV.up hm) (fun _ _ => RVs.up hm) (upd_ne na) (fun dx o n q _ => ⟨by
          rw [upd_ne (show dx ≠ p from fun z => n (by rw [z]; exact hm))]
          exact q, n⟩) h3
theorem RE.up {p : Addr} {o : HO} (hp : p ∈ φ) (r : RE K φ H σ ρ) : RE K φ (upd H p o) σ ρ := ⟨r.len, fun i d h => by
  obtain ⟨v, h1, h2⟩ := r.all i d h
  exact ⟨v, h1, RV.up hp h2⟩⟩
theorem Ext.unlock {p : Addr} {od : Obj} {ks : List (Key × V)} (hm : p ∈ φ) (hk : H p = some (.dK ks)) (e : Ext φ (upd H p (.frz od (.dK ks))) φ' H') : Ext φ H φ' (upd H' p (.dK ks)) := ⟨e.pre, fun a o n q => by
    have ne : a ≠ p := fun z => n (z ▸ hm)
    obtain ⟨y1, y2⟩ := e.fr a o n (by rw [upd_ne ne]; exact q)
    exact ⟨by rw [upd_ne ne]; exact y1, y2⟩, fun a o u q => by
    have ne : a ≠ p := fun z => by rw [z, hk] at q; cases q
    rw [upd_ne ne]
    exact e.fz a o u (by rw [upd_ne ne]; exact q)⟩
end
section
variable {X : Cx} {W : WX} {i : Nat} {tg e : Expr} {pos : Pos}
theorem rv_key {K : PySem.W.Frag} {φ : List Addr} {H : Hp} (k : Key) : RV K φ H (kV k) (aOf (nk k)) := by
  cases k with
  | inl i => exact .int i
  | inr x => exact .str x
theorem mi_keysF (he : PE X e (tE X W (mVar i))) : PI X tg e (tI X W (mKeysF i)) := PIimp (pi_keys he) fun σ H R ⟨φ, ρ, st, rs, re, h⟩ => by
  refine ⟨φ, ρ, st, rs, re, ?_⟩
  unfold mKeysF at h
  unfold mVar
  cases q : ρ[i]? with
  | none => rw [q] at h; exact h.elim
  | some o =>
    cases o with
    | none => rw [q] at h; exact h.elim
    | some a =>
      rw [q] at h
      cases a with
      | ref r =>
        simp only at h ⊢
        cases e1 : stF st r with
        | none => rw [e1] at h; exact h.elim
        | some kvs =>
          rw [e1] at h
          intro φ1 v H1 ex rs1 rv1
          cases rv1 with
          | @ref p _ hp =>
            obtain ⟨od, ks, g1, g2, g3⟩ := rs1.all r p _ hp (stF_eq e1)
            refine ⟨p, od, rfl, .inl ⟨ks, g1, h φ1 _ H1 ex rs1 ⟨?_, ?_⟩⟩⟩
            · intro k φ2 H2 st2 ex2 rs2 hk
              refine ⟨ex2.fz _ _ _ g1, ?_⟩
              have hl : kvs.length = ks.length := by
                have := congrArg List.length g2
                simpa using this
              unfold Src.at at hk
              simp at hk
              omega
            · intro k φ2 H2 st2 a ex2 rs2 hk
              unfold Src.at at hk
              simp only [Option.some.injEq] at hk
              have hl : kvs.length = ks.length := by
                have := congrArg List.length g2
                simpa using this
              have hkl : k < kvs.length := by
                have := (List.getElem?_eq_some_iff.mp hk).1
                simpa using this
              refine ⟨⟨ex2.fz _ _ _ g1, by omega⟩, fun x H3 hy => ?_⟩
              obtain ⟨rfl, κ, v, hv, rfl⟩ := hy
              refine ⟨.refl, rs2, ?_⟩
              have e5 : (kvs.map (·.1))[k]? = some (nk κ) := by rw [g2, List.getElem?_map, hv]; rfl
              rw [List.getElem?_map, Option.map_eq_some_iff] at hk e5
              obtain ⟨kv, k1, rfl⟩ := hk
              obtain ⟨kv', k2, k3⟩ := e5
              rw [k1] at k2
              cases k2
              rw [k3]
              exact rv_key κ
      | _ => exact h.elim
theorem flat_dk {K : PySem.W.Frag} {w : World} {φ : List Addr} {H : Hp} {a : Addr} {kvs : List (NestedKey × A)} (hf : flatD kvs = true) (h : RDk K φ H a kvs ∨ RDt K w φ H a kvs) : RDk K φ H a kvs := by
  rcases h with h | ⟨xs, vs, h0, h1, h2, h3, h4, h5, h6, h7⟩
  · exact h
  · exfalso
    cases kvs with
    | nil => exact h0 rfl
    | cons q kvs =>
      cases xs with
      | nil => simp at h4
      | cons x xs =>
        have h8 := (h5 x (by simp)).1
        simp only [List.map_cons, List.cons.injEq] at h4
        unfold flatD at hf
        rw [List.all_eq_true] at hf
        have := hf q (by simp)
        rw [← h4.1] at this
        cases e : x.1 with
        | tup l => rw [e] at this; cases this
        | _ => rw [e] at h8; unfold aOf at h8; cases h8
theorem ms_forD {body : List Stmt} {T : Tg} {mb : MS} (hp : PassesOwn (model X.prog X.w) X.A X.env X.xe) (he : PE X e (tE X W (mVar i))) (hg : PG X tg (gOf X.K T)) (hb : PSs X body (tS X W mb))
    (hc : X.calm = true := by rfl) (hs : ∀ x, foldedSetIterable e X.env x = pure x := by intro _; rfl) : PS X (.For tg e body [] pos) (tS X W (mForD i T mb)) := (ps_lock (ms_for hp (mi_keysF he) hg hb hc hs)).imp fun D σ H ⟨φ, ρ, st, rs, re, h⟩ => by
  unfold mForD at h
  cases q : ρ[i]? with
  | none => rw [q] at h; exact h.elim
  | some o =>
    cases o with
    | none => rw [q] at h; exact h.elim
    | some a =>
      rw [q] at h
      cases a with
      | ref r =>
        simp only at h
        cases e1 : stD st r with
        | none => rw [e1] at h; exact h.elim
        | some kvs =>
          rw [e1] at h
          simp only at h
          split at h
          · rename_i hf
            obtain ⟨v, hv1, hv2⟩ := re.all i _ q
            cases hv2 with
            | @ref p _ qp =>
              obtain ⟨ks, g1, g2, g3⟩ := flat_dk hf (rs.dct qp e1)
              have hm : p ∈ φ := List.mem_of_getElem? qp
              have hn : ∀ od u, H p ≠ some (.frz od u) := fun od u z => by rw [g1] at z; cases z
              refine ⟨p, .dK ks, g1, True.intro, fun od => ?_⟩
              have ex : Ext φ H φ (upd H p (.frz od (.dK ks))) := ext_write qp hn
              refine ⟨φ, ρ, st.set r (.oth (.frd kvs)), rs.writeO qp (stD_eq e1) hn ⟨od, ks, upd_same, g2, g3.ext ex⟩, re.ext ex, ?_⟩
              cases q2 : mFor (mKeysF i) T mb ρ (st.set r (.oth (.frd kvs))) with
              | nx ρ1 st1 =>
                rw [q2] at h
                unfold unlockS at h
                simp only at h
                cases q3 : unF r st1 with
                | none => rw [q3] at h; exact h.elim
                | some st2 =>
                  rw [q3] at h
                  intro φ1 σ1 H1 ex1 rs1 re1
                  have hz := ex1.fz _ _ _ (upd_same (H := H) (a := p))
                  have hp1 := ex1.get qp
                  exact ⟨hz, h φ1 σ1 _ (ex1.unlock hm g1) (rs1.unlock hp1 hz q3) (re1.up (List.mem_of_getElem? hp1))⟩
              | bk ρ1 st1 =>
                rw [q2] at h
                unfold unlockS at h
                simp only at h
                cases q3 : unF r st1 with
                | none => rw [q3] at h; exact h.elim
                | some st2 =>
                  rw [q3] at h
                  intro φ1 σ1 H1 ex1 rs1 re1
                  have hz := ex1.fz _ _ _ (upd_same (H := H) (a := p))
                  have hp1 := ex1.get qp
                  exact ⟨hz, h φ1 σ1 _ (ex1.unlock hm g1) (rs1.unlock hp1 hz q3) (re1.up (List.mem_of_getElem? hp1))⟩
              | ct ρ1 st1 =>
                rw [q2] at h
                unfold unlockS at h
                simp only at h
                cases q3 : unF r st1 with
                | none => rw [q3] at h; exact h.elim
                | some st2 =>
                  rw [q3] at h
                  intro φ1 σ1 H1 ex1 rs1 re1
                  have hz := ex1.fz _ _ _ (upd_same (H := H) (a := p))
                  have hp1 := ex1.get qp
                  exact ⟨hz, h φ1 σ1 _ (ex1.unlock hm g1) (rs1.unlock hp1 hz q3) (re1.up (List.mem_of_getElem? hp1))⟩
              | rt a st1 =>
                rw [q2] at h
                unfold unlockS at h
                simp only at h
                cases q3 : unF r st1 with
                | none => rw [q3] at h; exact h.elim
                | some st2 =>
                  rw [q3] at h
                  intro φ1 v H1 ex1 rs1 rv1
                  have hz := ex1.fz _ _ _ (upd_same (H := H) (a := p))
                  have hp1 := ex1.get qp
                  exact ⟨hz, h φ1 v _ (ex1.unlock hm g1) (rs1.unlock hp1 hz q3) (RV.up (List.mem_of_getElem? hp1) rv1)⟩
              | er x ρ1 st1 => rw [q2] at h; exact h.elim
              | bad => rw [q2] at h; exact h.elim
          · exact h.elim
      | _ => exact h.elim
theorem me_lcD {elt : Expr} {ifs : List Expr} {scope : Scope} (own : List (Str × Nat)) {T : Tg} {tt : MT} {me : MX} (hN : X.N.Nodup) (hi : PE X e (tE X W (mVar i))) (ok : BlkOk X.N X.env.scope scope own)
    (hg : ∀ (s : Shared) (H : Hp) (C : Addr) (cl : List (Str × Addr)) (fp : List Addr), PG (X.blk s H scope (compEnvC scope cl C X.env) fp) tg (gOf X.K T)) (ht : ∀ (s : Shared) (H : Hp) (C : Addr) (cl : List (Str × Addr)) (fp : List Addr), PTs (X.blk s H scope (compEnvC scope cl C X.env) fp) ifs (tT (X.blk s H scope (compEnvC scope cl C X.env) fp) W0 tt))
    (he : ∀ (s : Shared) (H : Hp) (C : Addr) (cl : List (Str × Addr)) (fp : List Addr), PE (X.blk s H scope (compEnvC scope cl C X.env) fp) elt (tE (X.blk s H scope (compEnvC scope cl C X.env) fp) W0 me)) (hc : X.calm = true := by rfl) (hs : ∀ x, foldedSetIterable e X.env x = pure x := by intro _; rfl)
    (ho : ∀ i ∈ T.slots, i ∈ own.map (·.2) := by decide) : PE X (.ListComp elt [⟨tg, e, ifs, 0⟩] scope pos) (tE X W (mLcD i T (own.map (·.2)) tt me)) := (pe_lock (me_lc own hN (mi_keysF hi) ok hg ht he hc hs ho)).imp fun σ H Q ⟨φ, ρ, st, rs, re, h⟩ => by
  unfold mLcD at h
  cases q : ρ[i]? with
  | none => rw [q] at h; exact h.elim
  | some o =>
    cases o with
    | none => rw [q] at h; exact h.elim
    | some a =>
      rw [q] at h
      cases a with
      | ref r =>
        simp only at h
        cases e1 : stD st r with
        | none => rw [e1] at h; exact h.elim
        | some kvs =>
          rw [e1] at h
          simp only at h
          split at h
          · rename_i hf
            obtain ⟨v, hv1, hv2⟩ := re.all i _ q
            cases hv2 with
            | @ref p _ qp =>
              obtain ⟨ks, g1, g2, g3⟩ := flat_dk hf (rs.dct qp e1)
              have hm : p ∈ φ := List.mem_of_getElem? qp
              have hn : ∀ od u, H p ≠ some (.frz od u) := fun od u z => by rw [g1] at z; cases z
              refine ⟨p, .dK ks, g1, True.intro, fun od => ?_⟩
              have ex : Ext φ H φ (upd H p (.frz od (.dK ks))) := ext_write qp hn
              refine ⟨φ, ρ, st.set r (.oth (.frd kvs)), rs.writeO qp (stD_eq e1) hn ⟨od, ks, upd_same, g2, g3.ext ex⟩, re.ext ex, ?_⟩
              cases q2 : mLc (mKeysF i) T (own.map (·.2)) tt me ρ (st.set r (.oth (.frd kvs))) with
              | ok a st1 =>
                rw [q2] at h
                unfold unlockX at h
                simp only at h
                cases q3 : unF r st1 with
                | none => rw [q3] at h; exact h.elim
                | some st2 =>
                  rw [q3] at h
                  intro φ1 v H1 ex1 rs1 rv1
                  have hz := ex1.fz _ _ _ (upd_same (H := H) (a := p))
                  have hp1 := ex1.get qp
                  exact ⟨hz, h φ1 v _ (ex1.unlock hm g1) (rs1.unlock hp1 hz q3) (RV.up (List.mem_of_getElem? hp1) rv1)⟩
              | er x st1 => rw [q2] at h; exact h.elim
              | bad => rw [q2] at h; exact h.elim
          · exact h.elim
      | _ => exact h.elim
end
end ML
/-! ML17: x in a tuple of data. -/
namespace ML
open PySem PySem.Spec L2 PyProof.Rows
section
variable {X : Cx}
def rInDT (K : PySem.W.Frag) : R2 := fun x y H Q => ∃ d ds, Dp K H x d ∧ Dp K H y (.tuple ds) ∧ SeqAt.shaped d = true ∧ SeqAt.shaped (.tuple ds) = true ∧ Q (.bl (ds.any fun z => PyData.eqv z d)) H
def rNotInDT (K : PySem.W.Frag) : R2 := fun x y H Q => ∃ d ds, Dp K H x d ∧ Dp K H y (.tuple ds) ∧ SeqAt.shaped d = true ∧ SeqAt.shaped (.tuple ds) = true ∧ Q (.bl (!ds.any fun z => PyData.eqv z d)) H
theorem op_inDT (hu : X.A.units + 65 < cLine) : OpR X (compareOp .In) (rInDT X.K) := by
  intro pins s σ H x y v u Q I rx ry h
  obtain ⟨d, ds, hd, he, sd, se, q⟩ := h
  obtain ⟨as, r1⟩ := Dp.reads I d x v hd rx
  obtain ⟨bs, r2⟩ := Dp.reads I (.tuple ds) y u he ry
  exact SeqAt.in_tuple_reads r2 r1 (SeqAt.canLay_of_shaped se) (SeqAt.canLay_of_shaped sd) (room_in_shaped sd hu) ⟨.bl _, H, I, rfl, q⟩
theorem op_notInDT (hu : X.A.units + 65 < cLine) : OpR X (compareOp .NotIn) (rNotInDT X.K) := by
  intro pins s σ H x y v u Q I rx ry h
  obtain ⟨d, ds, hd, he, sd, se, q⟩ := h
  obtain ⟨as, r1⟩ := Dp.reads I d x v hd rx
  obtain ⟨bs, r2⟩ := Dp.reads I (.tuple ds) y u he ry
  exact SeqAt.notIn_tuple_reads r2 r1 (SeqAt.canLay_of_shaped se) (SeqAt.canLay_of_shaped sd) (room_in_shaped sd hu) ⟨.bl _, H, I, rfl, q⟩
def findT (a b : A) (st : Store) : Option Bool := match dataOf st a, dataOf st b with
  | some d, some (.tuple ds) => if SeqAt.shaped d = true ∧ SeqAt.shaped (.tuple ds) = true then some (ds.any fun z => PyData.eqv z d) else none
  | _, _ => none
def inTd : A → A → Store → R A := fun a b st => match findT a b st with
  | some k => .ok (.bl k) st
  | none => .bad
def notInTd : A → A → Store → R A := fun a b st => match findT a b st with
  | some k => .ok (.bl (!k)) st
  | none => .bad
theorem findT_ok {φ : List Addr} {H : Hp} {st : Store} {x y : V} {a b : A} {k : Bool} (rs : RS X.K X.w X.mg φ H st) (ra : RV X.K φ H x a) (rb : RV X.K φ H y b) (h : findT a b st = some k) :
    ∃ d ds, Dp X.K H x d ∧ Dp X.K H y (.tuple ds) ∧ SeqAt.shaped d = true ∧ SeqAt.shaped (.tuple ds) = true ∧ (ds.any fun z => PyData.eqv z d) = k := by
  unfold findT at h
  split at h
  · rename_i d ds e1 e2
    split at h
    · rename_i hs
      cases h
      exact ⟨d, ds, dataOf_ok rs ra e1, dataOf_ok rs rb e2, hs.1, hs.2, rfl⟩
    · cases h
  · cases h
theorem os_inTd : OpS X (rInDT X.K) inTd := fun W φ H st x y a b Q rs ra rb h => by
  unfold inTd at h
  cases e : findT a b st with
  | none => rw [e] at h; exact h.elim
  | some k =>
    rw [e] at h
    obtain ⟨d, ds, h1, h2, h3, h4, h5⟩ := findT_ok rs ra rb e
    exact ⟨d, ds, h1, h2, h3, h4, by rw [h5]; exact h.ok rs (.bl _)⟩
theorem os_notInTd : OpS X (rNotInDT X.K) notInTd := fun W φ H st x y a b Q rs ra rb h => by
  unfold notInTd at h
  cases e : findT a b st with
  | none => rw [e] at h; exact h.elim
  | some k =>
    rw [e] at h
    obtain ⟨d, ds, h1, h2, h3, h4, h5⟩ := findT_ok rs ra rb e
    exact ⟨d, ds, h1, h2, h3, h4, by rw [h5]; exact h.ok rs (.bl _)⟩
end
end ML
/-! ML18: sorted by a key that a def tells; sorted of data; of lists and of tuples. -/
namespace ML
open PySem PySem.Spec L2 PyProof.Rows
/-! ### data without lists -/
mutual
def pyD : A → Option PyData
  | .non => some .none
  | .bl b => some (.bool b)
  | .int i => some (.int i)
  | .str x => some (.str x)
  | .tup xs => (pyDs xs).map .tuple
  | _ => none
def pyDs : List A → Option (List PyData)
  | [] => some []
  | x :: xs => match pyD x, pyDs xs with
    | some d, some ds => some (d :: ds)
    | _, _ => none
end
section
variable {K : PySem.W.Frag} {φ : List Addr} {H : Hp} {P : Program} {w : World} {h : Heap}
mutual
theorem rv_reads (ok : HOk P w H h) (KX : K.In h) : ∀ {a : A} {v : V} {u : Value} {d : PyData}, RV K φ H v a → RelV v u → pyD a = some d → Reads h u d []
  | .non, v, u, d, r, e, q => by
    cases r
    simp only [pyD, Option.some.injEq] at q
    subst q
    obtain rfl : u = Value.none := e
    exact .none
  | .bl b, v, u, d, r, e, q => by
    cases r
    simp only [pyD, Option.some.injEq] at q
    subst q
    obtain rfl : u = Value.bool b := e
    exact .bool b
  | .int i, v, u, d, r, e, q => by
    cases r
    simp only [pyD, Option.some.injEq] at q
    subst q
    obtain ⟨t, rfl⟩ := e
    exact .int i t
  | .str x, v, u, d, r, e, q => by
    cases r
    simp only [pyD, Option.some.injEq] at q
    subst q
    obtain ⟨t, rfl⟩ := e
    exact .str x t
  | .tup xs, v, u, d, r, e, q => by
    simp only [pyD, Option.map_eq_some_iff] at q
    obtain ⟨ds, q1, rfl⟩ := q
    cases r with
    | @tup a vs _ hs rs =>
      obtain rfl : u = Value.ref a := e
      rcases hs with ⟨⟨o, _, hr⟩, _⟩ | ⟨o, its, n, h1, h2, _, h3, h4, h5⟩
      · have ht : ObjOk P w H h a (.tup vs) := (ok a _ hr).2
        obtain ⟨_, its, rv, ob, ho, hc, n, hd⟩ := ht
        exact .tuple ho hc hd (by rw [List.toList_toArray]; exact rvs_reads ok KX rs rv q1)
      · exact .tuple (KX _ _ h1) h2 h3 (rvs_reads ok KX rs h5 q1)
  | .scr xs, v, u, d, r, e, q => by simp [pyD] at q
  | .ref i, v, u, d, r, e, q => by simp [pyD] at q
theorem rvs_reads (ok : HOk P w H h) (KX : K.In h) : ∀ {as : List A} {vs : List V} {us : List Value} {ds : List PyData}, RVs K φ H vs as → Vals vs us → pyDs as = some ds → ReadsAll h us ds []
  | [], vs, us, ds, r, e, q => by
    cases r
    cases e
    simp only [pyDs, Option.some.injEq] at q
    subst q
    exact .nil
  | a :: as, vs, us, ds, r, e, q => by
    cases r with
    | cons r1 r2 =>
      cases e with
      | cons e1 e2 =>
        unfold pyDs at q
        split at q
        · rename_i d ds' q1 q2
          cases q
          exact ReadsAll.cons (as := []) (bs := []) (rv_reads ok KX r1 e1 q1) (rvs_reads ok KX r2 e2 q2)
        · cases q
end
/-! ### tuples, frozen as they lie -/
def frzH (H : Hp) (h : Heap) : Hp := fun b => match H b with
  | some (.tup xs) => (h.get? b).map fun o => .frz o (.tup xs)
  | some (.frz o (.tup xs)) => some (.frz o (.tup xs))
  | _ => none
theorem frzH_none {b : Addr} (e : H b = none) : frzH H h b = none := by
  unfold frzH
  rw [e]
theorem frzH_ok (ok : HOk P w H h) : HOk P w (frzH H h) h := fun b u e => by
  unfold frzH at e
  split at e
  · rename_i xs q
    rw [Option.map_eq_some_iff] at e
    obtain ⟨o, ho, rfl⟩ := e
    obtain ⟨z, its, r, t⟩ := ok b _ q
    exact ⟨ho, z, its, r, t⟩
  · rename_i o xs q
    cases e
    obtain ⟨ho, z, its, r, t⟩ := ok b _ q
    exact ⟨ho, z, its, r, t⟩
  · cases e
theorem frzH_get {b : Addr} {u : HO} (ok : HOk P w H h) (e : frzH H h b = some u) : ∃ o v, u = .frz o v ∧ h.get? b = some o := by
  have k := frzH_ok ok b u e
  unfold frzH at e
  split at e
  · rw [Option.map_eq_some_iff] at e
    obtain ⟨o, ho, rfl⟩ := e
    exact ⟨o, _, rfl, ho⟩
  · cases e
    exact ⟨_, _, rfl, k.1⟩
  · cases e
mutual
/-- no list, no script in it -/
def pureA : A → Bool
  | .tup xs => pureAs xs
  | .scr _ => false
  | .ref _ => false
  | _ => true
def pureAs : List A → Bool
  | [] => true
  | x :: xs => pureA x && pureAs xs
end
mutual
theorem rv_frz (ok : HOk P w H h) : ∀ {a : A} {v : V}, pureA a = true → RV K φ H v a → RV K [] (frzH H h) v a
  | .non, _, _, .non => .non
  | .bl b, _, _, .bl _ => .bl b
  | .int i, _, _, .int _ => .int i
  | .str x, _, _, .str _ => .str x
  | .tup xs, _, p, .tup (a := a) (xs := vs) q r => by
    refine .tup ?_ (rvs_frz ok p r)
    rcases q with ⟨⟨o, hd, hr⟩, _⟩ | q
    · refine .inl ⟨⟨o, hd, ?_⟩, by simp⟩
      unfold frzH
      simp only [hr]
    · exact .inr q
theorem rvs_frz (ok : HOk P w H h) : ∀ {as : List A} {vs : List V}, pureAs as = true → RVs K φ H vs as → RVs K [] (frzH H h) vs as
  | [], _, _, .nil => .nil
  | a :: as, _, p, .cons r q => by
    simp only [pureAs, Bool.and_eq_true] at p
    exact .cons (rv_frz ok p.1 r) (rvs_frz ok p.2 q)
end
/-! ### kept but for the frames' slots -/
def Kq (F : List Addr) (h h' : Heap) : Prop := ∀ b o, h.get? b = some o → ∃ sl, h'.get? b = some { o with slots := sl } ∧ (b ∉ F → h'.get? b = some o)
theorem Kq.refl {F : List Addr} (h : Heap) : Kq F h h := fun b o e => ⟨o.slots, e, fun _ => e⟩
theorem Kq.trans {F : List Addr} {h h' h2 : Heap} (a : Kq F h h') (b : Kq F h' h2) : Kq F h h2 := fun c o e => by
  obtain ⟨sl, e1, e2⟩ := a c o e
  obtain ⟨sl', e3, _⟩ := b c _ e1
  refine ⟨sl', e3, fun n => ?_⟩
  obtain ⟨_, _, e5⟩ := b c o (e2 n)
  exact e5 n
theorem Kq.of {F : List Addr} {h h' : Heap} (k : ∀ b o, h.get? b = some o → h'.get? b = some o) : Kq F h h' := fun b o e => ⟨o.slots, k b o e, fun _ => k b o e⟩
end
/-- what a key's call leaves -/
def Qt (F : List Addr) (d : PyData) (s1 : Shared) (u : Value) (s2 : Shared) : Prop := s2.os = s1.os ∧ AllBare s2.gens ∧ Kq F s1.heap s2.heap ∧ Reads s2.heap u d []
/-- the key that a def tells -/
def keyM (m : MF) (a : A) : Option PyData := match m [a] [] with
  | .ok k _ => pyD k
  | _ => none
section
variable {X : Cx} {pins : List (Addr × Obj)} {σ : L2.St} {H : Hp} {s s1 : Shared} {φ : List Addr}
theorem quiet_call {f : Addr} {fd : FuncData} {ps : List Str} {k : Nat} {m : MF} (I : Inv X pins σ H s) (F : FnOk X.prog X.w X.K X.mg X.base (L2.CX X.prog X.w) k f fd ps (spM X.K X.w X.mg m)) (hb : Binds X.K fd ps []) (hr : Room k X.A.in1.in1) {x : V} {v : Value} {a : A} {d : PyData} (ra : RV X.K φ H x a) (rv : RelV x v) (hk : keyM m a = some d) (hp : pureA a = true) (os : s1.os = s.os) (bare : AllBare s1.gens) (ok : HOk X.prog X.w H s1.heap) (kq : Kq (frs X.stack) s.heap s1.heap) :
    wpAny (model X.prog X.w) X.A.in1.in1 (call (.ref f) [v]) (Qt (frs X.stack) d s1) (fun _ _ => False) s1 := by
  have e0 := I.env0
  have nofr : ∀ b ∈ frs X.stack, X.base.get? b = none := fun b hb => (e0.funs.mem hb).1
  have bs : ∀ b o, X.base.get? b = some o → s1.heap.get? b = some o ∧ frzH H s1.heap b = none := fun b o e => by
    obtain ⟨h1, h2⟩ := e0.bs b o e
    refine ⟨?_, frzH_none h2⟩
    obtain ⟨_, _, h3⟩ := kq b o h1
    exact h3 fun z => by rw [nofr b z] at e; cases e
  have bsz : X.base.objs.size ≤ s1.heap.objs.size := by
    obtain ⟨mm, ⟨o, es, ep, ho, _⟩, _⟩ := I.loc
    obtain ⟨sl, h1, _⟩ := kq _ o ho
    exact Nat.le_trans I.ok.bsz (Nat.le_trans I.ok.above (Nat.le_of_lt (Heap.lt_size h1)))
  have ok1 := frzH_ok ok
  have E1 : Env0 X.prog X.w X.K X.mg X.base X.A.in1.in1 X.stack s1 (frzH H s1.heap) := by
    have e2 := e0.in1.in1
    exact ⟨e2.frames, e2.mod, bs, bsz, PySem.Heap.FunFrames.of_keeps (fun b o h1 _ => by
      obtain ⟨sl, h2, _⟩ := kq b o h1
      exact ⟨_, h2, rfl⟩) e0.funs, fun b hb => frzH_none (e0.frf b hb), ok1, bare⟩
  unfold keyM at hk
  split at hk
  · rename_i r st' em
    have sp : spM X.K X.w X.mg m [x] (frzH H s1.heap) (fun u H' => ∃ φ', RV X.K φ' H' u r) (fun _ _ _ => False) := by
      refine ⟨[], [a], [], ⟨rfl, by simp, fun i a o h => by simp at h⟩, .cons (rv_frz ok hp ra) .nil, ?_⟩
      rw [em]
      exact fun φ' u H' _ _ q => ⟨φ', q⟩
    have hl : ([v] : List Value).length = ps.length := F.len _ _ _ _ sp
    have KX : X.K.In s1.heap := I.mod.kin.keeps fun b o e => (bs b o e).1
    have hb1 := hb s1 [v] KX (by simpa using hl)
    rw [List.append_nil] at hb1
    refine wpAny_call (codeAny_mono (F.run X.A.in1.in1 X.stack s1 (frzH H s1.heap) ⟨[v], []⟩ [v] [x] _ _ hr E1 hb1 (.cons rv .nil) sp) fun q s' hq => ?_)
    cases q with
    | error e =>
      obtain ⟨_, _, _, _, _, _, _, _, _, _, _, _, hF⟩ := hq
      exact hF.elim
    | ok fl =>
      cases fl with
      | ret u =>
        obtain ⟨y, H', os', bare', un, ok', ru, φ', rr⟩ := hq
        have kq' : Kq (frs X.stack) s1.heap s'.heap := fun b o e => by
          cases q : frzH H s1.heap b with
          | none =>
            obtain ⟨sl, h1⟩ := un.any e q (by simp)
            refine ⟨sl, h1, fun n => un.keep b o e q n (by simp)⟩
          | some u =>
            obtain ⟨o', w', rfl, h1⟩ := frzH_get ok q
            have := un.frzs b _ _ q
            have h2 := (ok' b _ this).1
            rw [e] at h1
            cases h1
            exact ⟨o.slots, h2, fun _ => h2⟩
        have KX' : X.K.In s'.heap := I.mod.kin.keeps fun b o e => by
          obtain ⟨_, _, h3⟩ := kq' b o (bs b o e).1
          exact h3 fun z => by rw [nofr b z] at e; cases e
        exact ⟨os', bare', kq', rv_reads ok' KX' rr ru hk⟩
      | next => exact False.elim hq
      | brk => exact False.elim hq
      | cont => exact False.elim hq
  · cases hk
end
section
open PySem.W
mutual
theorem reads_kq {F : List Addr} {h h' : Heap} (k : Kq F h h') : ∀ (d : PyData) (v : Value), Reads h v d [] → Reads h' v d []
  | .none, _, .none => .none
  | .bool b, _, .bool _ => .bool b
  | .int i, _, .int _ t => .int i t
  | .str x, _, .str _ t => .str x t
  | .tuple xs, _, .tuple h1 h2 h3 h4 => by
    obtain ⟨sl, e, _⟩ := k _ _ h1
    exact .tuple e h2 h3 (readsAll_kq k xs _ h4)
theorem readsAll_kq {F : List Addr} {h h' : Heap} (k : Kq F h h') : ∀ (ds : List PyData) (vs : List Value), ReadsAll h vs ds [] → ReadsAll h' vs ds []
  | [], _, .nil => .nil
  | d :: ds, v :: vs, r => by
    generalize ha : ([] : List Addr) = z at r
    cases r with
    | @cons _ _ _ _ as bs r1 r2 =>
      have e := List.append_eq_nil_iff.mp ha.symm
      obtain ⟨rfl, rfl⟩ := e
      exact ReadsAll.cons (as := []) (bs := []) (reads_kq k d v r1) (readsAll_kq k ds vs r2)
end
/-- all but the object at z is kept, the frames up to slots -/
def Kz (F : List Addr) (z : Addr) (h h' : Heap) : Prop := ∀ b o, b ≠ z → h.get? b = some o → ∃ sl, h'.get? b = some { o with slots := sl } ∧ (b ∉ F → h'.get? b = some o)
theorem Kz.kq {F : List Addr} {z : Addr} {h h' h2 : Heap} (k : Kz F z h h') (q : Kq F h' h2) : Kz F z h h2 := fun b o n e => by
  obtain ⟨sl, e1, e2⟩ := k b o n e
  obtain ⟨sl2, e3, _⟩ := q b _ e1
  refine ⟨sl2, e3, fun nf => ?_⟩
  obtain ⟨_, _, e5⟩ := q b o (e2 nf)
  exact e5 nf
theorem Kz.but {F : List Addr} {z : Addr} {h h' h2 : Heap} (k : Kz F z h h') (q : ∀ b o, b ≠ z → h'.get? b = some o → h2.get? b = some o) : Kz F z h h2 := fun b o n e => by
  obtain ⟨sl, e1, e2⟩ := k b o n e
  exact ⟨sl, q b _ n e1, fun nf => q b _ n (e2 nf)⟩
/-! ### keys that can be sorted: alike, or tuples that begin with ints and are alike from there where these are equal -/
def MixOk (kz : List PyData) : Prop := ∀ x ∈ kz, ∀ y ∈ kz, ∃ (i j : Int) (r t : List PyData), x = .tuple (.int i :: r) ∧ y = .tuple (.int j :: t) ∧ (i = j → alikeAll r t = true)
def KzOk (kz : List PyData) : Prop := (AllAlike kz ∧ Sortable kz) ∨ MixOk kz
theorem MixOk.tups {kz : List PyData} (m : MixOk kz) : ∀ x, x ∈ kz → ∃ y r, x = .tuple (y :: r) := fun x hx => by
  obtain ⟨i, _, r, _, e, _⟩ := m x hx x hx
  exact ⟨_, r, e⟩
theorem KzOk.self {kz : List PyData} (m : KzOk kz) {x : PyData} (hx : x ∈ kz) : alike x x = true := by
  rcases m with ⟨al, _⟩ | m
  · exact al x hx x hx
  · obtain ⟨i, j, r, t, e1, e2, al⟩ := m x hx x hx
    rw [e1] at e2
    cases e2
    rw [e1]
    have := al rfl
    simpa [alike, alikeAll] using this
theorem KzOk.same {kz : List PyData} {h : Heap} {v : Value} {x y : PyData} {as bs : List Addr} (m : KzOk kz) (hx : x ∈ kz) (hy : y ∈ kz) (rx : Reads h v x as) (ry : Reads h v y bs) : x = y := by
  rcases m with ⟨al, _⟩ | m
  · exact alike_unique x y v as bs (al x hx y hy) rx ry
  · obtain ⟨i, j, r, t, rfl, rfl, al⟩ := m x hx y hy
    refine alike_unique _ _ v as bs ?_ rx ry
    have eij : i = j := by
      cases rx with
      | tuple g1 g2 g3 g4 =>
        cases ry with
        | tuple k1 k2 k3 k4 =>
          rw [g1] at k1
          cases k1
          rw [g3] at k3
          cases k3
          generalize hz : Array.toList _ = zs at g4 k4
          cases g4 with
          | cons p1 p2 =>
            cases k4 with
            | cons q1 q2 =>
              cases p1
              cases q1
              rfl
    have := al eij
    simpa [alike, alikeAll] using this
theorem KzOk.key {kz : List PyData} {h : Heap} {v : Value} {x : PyData} {as : List Addr} (m : KzOk kz) (hx : x ∈ kz) (rx : Reads h v x as) : (dataKind h kz).keyOf v = some (keyToks x) := by
  have has : ∃ y, y ∈ kz ∧ ∃ bs, Reads h v y bs := ⟨x, hx, as, rx⟩
  have at0 : (dataKind h kz).keyOf v = some (keyToks has.choose) := dif_pos has
  obtain ⟨hy, bs, ry⟩ := has.choose_spec
  rw [at0, m.same hy hx ry rx]
section
variable {prog : Program} {w : World} {A : Around} {s : Shared}
theorem mix_lex {b fin : Bool} {Q : Bool → Shared → Prop} {i j : Int} {r t : List PyData} {vs ws : List Value} {as bs : List Addr} (ra : ReadsAll s.heap vs (.int i :: r) as) (rb : ReadsAll s.heap ws (.int j :: t) bs) (al : i = j → alikeAll r t = true)
    (hu : A.units + min (PyData.depthAll (.int i :: r)) (PyData.depthAll (.int j :: t)) < cLine) (hf : fin = decide (r.length + 1 < t.length + 1)) (hq : Q (PyProof.Rows.lexLt itemOrd (keyToksAll (.int i :: r)) (keyToksAll (.int j :: t))) s) : KatLex prog w A b fin Q (vs.zip ws) 0 s := by
  by_cases e : i = j
  · refine katLex_alike (.int i :: r) (.int j :: t) 0 vs ws as bs ra rb ?_ hu (fun _ _ x r' t' ex => ?_) (by rw [hf, List.length_cons, List.length_cons]) hq
    · have := al e
      simpa [alike, alikeAll] using this
    · cases ex
      exact fun z => by cases z
  · have h1 : alike (.int i) (.int j) = true := by simp [alike]
    have h2 : PyData.eqv (.int i) (.int j) = false := by simp [PyData.eqv, e]
    rw [dataLt_all_no h1 h2] at hq
    cases ra with
    | cons r1 r2 =>
      cases rb with
      | cons t1 t2 =>
        rw [List.zip_cons_cons]
        have ev := eqAt_alike (.int i) (.int j) A s _ _ _ _ r1 t1 h1 (SeqAt.room_head hu) prog w
        rw [h2] at ev
        exact kat_cons (ev _ _ (kat_no (oneLt_alike (fun _ t' z => by cases z) r1 t1 h1 (by simp) (SeqAt.room_head hu) hq)))
theorem sorts_kz {vs : List Value} {kz : List PyData} (e : EachIs (fun v k => ∃ as, Reads s.heap v k as) vs kz) (ok : KzOk kz) (hu : ∀ k, k ∈ kz → A.units + k.depth < cLine) : SortsAt prog w A s (dataKind s.heap kz) vs := by
  by_cases hn : kz = []
  · subst hn
    exact SortsAt.data e (fun d hd => by cases hd) (.inl fun d hd => by cases hd) hu
  have ok0 := ok
  rcases ok with ⟨al, so⟩ | m
  · exact SortsAt.data e al so hu
  · refine ⟨fun v hv => ?_, tuples' true, fun E x y a b Q ha hb hq => ?_, fun h2 E Q hq => ?_⟩
    · obtain ⟨k, hk, as, r⟩ := e.left v hv
      exact ⟨_, ok0.key hk r⟩
    · obtain ⟨k1, as, m1, ra, rfl⟩ := dataKind_inv ha
      obtain ⟨k2, bs, m2, rb, rfl⟩ := dataKind_inv hb
      have hroom : A.units + min k1.depth k2.depth < cLine := Nat.lt_of_le_of_lt (Nat.add_le_add_left (Nat.min_le_left _ _) _) (hu k1 m1)
      obtain ⟨i, j, r, t, rfl, rfl, al⟩ := m k1 m1 k2 m2
      have hq' : Q (dataLt (.tuple (.int i :: r)) (.tuple (.int j :: t))) s := hq
      rw [dataLt_tuple] at hq'
      cases ra with
      | @tuple l1 o1 xs1 c1 _ _ g1 g2 g3 g4 =>
        cases rb with
        | @tuple l2 o2 xs2 c2 _ _ k1' k2' k3' k4' =>
          have n1 : xs1.size = r.length + 1 := by simpa using SeqAt.ReadsAll.length _ _ _ g4
          have n2 : xs2.size = t.length + 1 := by simpa using SeqAt.ReadsAll.length _ _ _ k4'
          exact kat_lt g1 g3 k1' k3' (mix_lex g4 k4' al (by have q := SeqAt.room_in hroom; omega) (by rw [n1, n2]) hq')
    · obtain ⟨fs, t1, t2, t3⟩ := each_katTups e m.tups
      refine kat_kind (T := .type "int") t1 (by omega) (fun g hg => ?_) (beq_self_eq_true _) hq
      obtain ⟨x, r, as, hx, rx⟩ := t3 g hg
      obtain ⟨i, _, r', _, e', _⟩ := m _ hx _ hx
      cases e'
      exact looks_reads rx
end
def KeyedK (rev : Bool) (kz : List PyData) (vs out : List Value) : Prop := ∃ g zs, KzOk kz ∧ out = sortVals (dataKind g kz) rev zs vs ∧ EachIs (fun u k => ∃ bs, Reads g u k bs) zs kz
theorem each_kz {h : Heap} {kz : List PyData} (ok : KzOk kz) {us : List Value} (e : EachIs (fun u k => ∃ bs, Reads h u k bs) us kz) : EachIs (fun u k => (dataKind h kz).keyOf u = some (keyToks k)) us kz :=
  (each_mem e).mono fun _ _ ⟨⟨_, r⟩, hm⟩ => ok.key hm r
theorem keyedK_each {rev : Bool} {β : Type} {R : Value → β → Prop} {xs : List β} {vs out : List Value} (kf : β → PyData) (ko : KeyedK rev (xs.map kf) vs out) (er : EachIs R vs xs) : EachIs R out (xs.mergeSort (dataLe rev kf)) := by
  obtain ⟨g, zs, ok, rfl, ez⟩ := ko
  exact sortVals_each (κ := dataKind g (xs.map kf)) (fun x => keyToks (kf x)) er (each_of_map kf (each_kz ok ez))
section
variable {prog : Program} {w : World} {A : Around} {E : Value → Shared → Prop} {s : Shared} {P : PySem.Fin → Shared → Prop}
theorem key_sort {F : List Addr} {a z : Addr} {f : Value} {b : Bool} {vs : List Value} {kz : List PyData} {e1 : Nat} (na : s.heap.get? a = some (seqObj "list" #[] e1)) (nz : s.heap.get? z = some (seqObj "list" #[] 0)) (hza : z ≠ a) (haF : a ∉ F) (hzF : z ∉ F) (bare : AllBare s.gens)
    (hlen : kz.length = vs.length) (hZ : vs.length ≤ sizeLine) (hkz : KzOk kz) (hu : ∀ d, d ∈ kz → A.units + d.depth < cLine)
    (turn : ∀ (i : Nat) (v : Value) (k : PyData), vs[i]? = some v → kz[i]? = some k → ∀ s' : Shared, s'.os = s.os → AllBare s'.gens → Kz F z s.heap s'.heap → wpAny (model prog w) A (call f [v]) (Qt F k s') (fun _ _ => False) s')
    (fin : ∀ (s' : Shared) (out : List Value) (c : Nat), s'.os = s.os → AllBare s'.gens → (∀ b o, b ≠ a → b ≠ z → s.heap.get? b = some o → ∃ sl, s'.heap.get? b = some { o with slots := sl } ∧ (b ∉ F → s'.heap.get? b = some o)) →
      s'.heap.get? a = some (seqObj "list" (List.toArray out) c) → KeyedK b kz vs out → P (.done (.ret .none)) s') :
    wpAny (model prog w) A (ksk_rest a f b vs.toArray e1 (.ref z)) P E s := by
  unfold ksk_rest
  refine wpAny_bind (wpAny_rule ?_)
  rw [List.forIn_toArray]
  refine wpAny_bind (ksk_fold (fun i s' => s'.os = s.os ∧ AllBare s'.gens ∧ Kz F z s.heap s'.heap ∧ ∃ (kA : Array Value) (e : Nat), s'.heap.get? z = some (seqObj "list" kA e) ∧ EachIs (fun v k => Reads s'.heap v k [] ∧ alike k k = true) kA.toList (kz.take i)) vs 0 s
    ⟨rfl, bare, fun b o _ e => ⟨o.slots, e, fun _ => e⟩, #[], 0, nz, by rw [List.take_zero]; exact EachIs.nil⟩ ?_ ?_)
  · rintro j x s1 hx ⟨os1, g1, k1, kA, ez, n1, r1⟩
    rw [Nat.zero_add] at r1 ⊢
    have hjv := (List.getElem?_eq_some_iff.mp hx).1
    have hkj : kz[j]? = some (kz[j]'(by omega)) := List.getElem?_eq_getElem (by omega)
    have hsz : kA.size = j := by
      have := r1.length
      rw [Array.length_toList, List.length_take] at this
      omega
    have hself := hkz.self (List.mem_of_getElem? hkj)
    generalize kz[j]'(by omega) = k at hkj hself
    refine wpAny_bind (wpAny_attempt (wpAny_mono (turn j x k hx hkj s1 os1 g1 k1) ?_ fun _ _ no => no.elim))
    rintro u s2 ⟨os2, g2, q2, r2⟩
    obtain ⟨_, _, q3⟩ := q2 z _ n1
    have n2 := q3 hzF
    have up := Heap.SameBut.update s2.heap z (Obj.mapSeq (·.push u))
    obtain ⟨ez', n3⟩ : ∃ e', (s2.heap.update z (Obj.mapSeq (·.push u))).get? z = some (seqObj "list" (kA.push u) e') := ⟨_, get?_update_seq n2 (·.push u)⟩
    dsimp only
    refine wpAny_bind (listUpdate_at n2 rfl ?_ (by omega) (by rw [Array.size_push]; omega))
    have mv : ∀ (v : Value) (d : PyData), Reads s2.heap v d [] → alike d d = true → Reads (s2.heap.update z (Obj.mapSeq (·.push u))) v d [] := fun v d r al =>
      Reads.keepBut (a := z) (fun b o nb e => (up.2 b nb).trans e) (fun o e => by rw [n2] at e; cases e; rfl) d v [] al r (by simp)
    refine wpAny_pure ⟨rfl, os2.trans os1, g2, (k1.kq q2).but fun b o nb e => (up.2 b nb).trans e, kA.push u, ez', n3, ?_⟩
    rw [List.take_add_one, hkj, Array.toList_push]
    refine each_snoc ⟨mv u k r2 hself, hself⟩ (r1.mono fun v d r => ⟨mv v d (reads_kq q2 d v r.1) r.2, r.2⟩)
  · rintro s1 ⟨os1, g1, k1, kA, ez, n1, r1⟩
    rw [Nat.zero_add, List.take_of_length_le (by omega)] at r1
    have hsz : kA.size = vs.length := by
      have := r1.length
      rw [Array.length_toList] at this
      omega
    have ra : EachIs (fun v k => ∃ as, Reads s1.heap v k as) kA.toList kz := r1.mono fun v k r => ⟨[], r.1⟩
    obtain ⟨G, G1, G2⟩ := L2.restrict s1.heap fun b => decide (b ≠ z)
    have Gz : G.get? z = none := G2 z (by simp)
    have Gk : KeepsBut a G s1.heap := fun b o _ e => by
      by_cases c : b = z
      · rw [c, Gz] at e
        cases e
      · rw [← G1 b (by simpa using c)]
        exact e
    have na1 : s1.heap.get? a = some (seqObj "list" #[] e1) := by
      obtain ⟨_, _, q⟩ := k1 a _ (fun x => hza x.symm) na
      exact q haF
    refine wpAny_bind (listItems_at n1 rfl ?_)
    refine keyH_end (κ := dataKind s1.heap kz) (h₁ := G) Gk Gz n1 na1 hza (sorts_kz ra hkz hu) hsz hZ fun h' tk c kp hc => ?_
    refine fin { s1 with heap := h', toks := tk } _ c os1 g1 (fun b o ba bz e => ?_) hc ⟨s1.heap, kA.toList, hkz, rfl, ra⟩
    have up : ∀ o', s1.heap.get? b = some o' → h'.get? b = some o' := fun o' e' => kp b o' ba (by rw [G1 b (by simpa using bz)]; exact e')
    obtain ⟨sl, e1, e2⟩ := k1 b o bz e
    exact ⟨sl, up _ e1, fun nf => up _ (e2 nf)⟩
end
end
section
open PySem.W
/-- sorted of a list or a tuple is list.sort of a new list of its items -/
theorem sorted_any {prog : Program} {w : World} {A : Around} {E : Value → Shared → Prop} {s : Shared} {l : Addr} {T : String} {o : Obj} {its : Array Value} {n : Nat} {kw : List (Str × Value)} {Q : Value → Shared → Prop} (hT : T = "list" ∨ T = "tuple") (ho : s.heap.get? l = some o) (hc : o.cls = .type T) (hd : o.data = .seq its n) (hz : its.size ≤ sizeLine)
    (ha1 : argsOk "sorted" ⟨[.ref l], kw⟩) (ha2 : ∀ x, argsOk "list.sort" ⟨[.ref x], kw⟩)
    (body : ∀ (h1 : Heap) (a : Addr) (E' : Value → Shared → Prop), (∀ b o, s.heap.get? b = some o → h1.get? b = some o) → s.heap.get? a = none → h1.get? a = some (seqObj "list" its 0) →
      wpAny (model prog w) A.in1.in1 (Builtin.«list.sort» ⟨[.ref a], kw⟩) (fun f s' => f = .done (.ret .none) ∧ Q (.ref a) s') E' { s with heap := h1 }) :
    wpAny (model prog w) A (call (.builtin "sorted") [.ref l] kw) Q E s := by
  have hz' : its.toList.length ≤ sizeLine := by rw [Array.length_toList]; exact hz
  refine call_function_entry_kw kind_sorted plain_sorted entry_sorted (kw := kw) (args := [.ref l]) ha1 ?_
  unfold Builtin.«sorted»
  refine wpAny_bind (m := checkCount "sorted" 1 1 _) (wpAny_pure ?_)
  refine wpAny_bind (wpAny_collect_seq l hT ho hc hd (fun h0 k0 => ?_) hz)
  refine wpAny_bind (wpAny_newList ?_ hz')
  have keep : ∀ b o, s.heap.get? b = some o → (h0.push (seqObj "list" its 0)).get? b = some o := fun b o e => Heap.get?_push_of_some _ (k0 b o e)
  have fresh : s.heap.get? h0.objs.size = none := by
    cases q : s.heap.get? h0.objs.size with
    | none => rfl
    | some o => exact absurd (Heap.lt_size (k0 _ _ q)) (Nat.lt_irrefl _)
  have here : (h0.push (seqObj "list" its 0)).get? h0.objs.size = some (seqObj "list" its 0) := Heap.get?_push_size _ rfl
  rw [Array.toArray_toList]
  refine wpAny_bind (wpAny_holding (wpAny_call_entry_kw (s := { s with heap := h0.push (seqObj "list" its 0) }) slot_list_sort ⟨_, here, rfl⟩ entry_list_sort (wpAny_mono (body _ _ _ keep fresh here) (fun f s' hf => ?_) fun _ _ e => e) (ha2 _)))
  obtain ⟨rfl, hq⟩ := hf
  exact ⟨_, rfl, wpAny_pure ⟨_, rfl, hq⟩⟩
end
section
variable {X : Cx} {pins : List (Addr × Obj)} {σ : L2.St} {H : Hp} {s s1 : Shared} {φ : List Addr}
theorem hok_kq {P : Program} {w : World} {h h' : Heap} {F : List Addr} (ok : HOk P w H h) (k : Kq F h h') (free : ∀ b ∈ F, H b = none) : HOk P w H h' := fun a u e => (ok a u e).stay (fun b o hb q => by
  obtain ⟨_, _, h3⟩ := k b o q
  refine h3 fun z => ?_
  have := free b z
  rcases hb with rfl | hb
  · rw [this] at e
    cases e
  · rw [this] at hb
    cases hb) (fun _ q => q) fun _ _ q => q
theorem fr_has (I : Inv X pins σ H s) : ∀ b ∈ frs X.stack, ∃ o, s.heap.get? b = some o := fun b hb => by
  obtain ⟨_, o, ho, _⟩ := I.env0.funs.mem hb
  exact ⟨o, ho⟩
/-- a new list has been laid, all else kept but for the frames' slots -/
theorem inv_laidKq {s' : Shared} {a : Addr} {xs : List V} {out : List Value} {c : Nat} (I : Inv X pins σ H s) (os : s'.os = s.os) (bare : AllBare s'.gens) (kq : Kq (frs X.stack) s.heap s'.heap) (fresh : s.heap.get? a = none) (here : s'.heap.get? a = some (seqObj "list" out.toArray c)) (hv : Vals xs out) (hz : xs.length ≤ sizeLine) :
    H a = none ∧ Inv X pins σ (upd H a (.lst xs)) s' := by
  have free := I.env0.frf
  have na : H a = none := by
    cases q : H a with
    | none => rfl
    | some u =>
      exfalso
      have hlt := (I.hok a u q).lt
      have ok' := hok_kq I.hok kq free
      have : ∃ o, s.heap.get? a = some o := by
        have := I.hok a u q
        cases u with
        | lst _ => obtain ⟨_, _, _, _, e⟩ := this; exact ⟨_, e⟩
        | tup _ => obtain ⟨_, _, _, o, e, _⟩ := this; exact ⟨_, e⟩
        | dK _ => obtain ⟨_, _, _, _, o, _, _, e, _⟩ := this; exact ⟨_, e⟩
        | dT _ => obtain ⟨_, _, _, _, o, _, _, e, _⟩ := this; exact ⟨_, e⟩
        | set _ _ => obtain ⟨o, _, _, _, e, _⟩ := this; exact ⟨_, e⟩
        | ins _ _ _ => obtain ⟨_, _, _, e, _⟩ := this; exact ⟨_, e⟩
        | own _ => obtain ⟨_, e⟩ := this; exact ⟨_, e⟩
        | xd _ => obtain ⟨_, ⟨_, _, _, e, _⟩, _⟩ := this; exact ⟨_, e⟩
        | met _ _ => exact ⟨_, this⟩
        | rng _ _ => obtain ⟨_, _, _, e⟩ := this; exact ⟨_, e⟩
        | frz _ _ => exact ⟨_, this.1⟩
        | tbl _ => exact ⟨_, this⟩
        | ext _ => exact this.2.1
      obtain ⟨o, e⟩ := this
      rw [fresh] at e
      cases e
  have ok' := hok_kq I.hok kq free
  have ok2 : HOk X.prog X.w (upd H a (.lst xs)) s'.heap := fun b u e => by
    by_cases hb : b = a
    · subst hb
      rw [upd_same] at e
      cases e
      exact ⟨hz, out, c, hv, here⟩
    · rw [upd_ne hb] at e
      exact (ok' b u e).stay (fun _ _ _ q => q) (fun d q => by rw [upd_ne (ne_of_none q na)]; exact q) fun d ys q => by rw [upd_ne (ne_of_none q na)]; exact q
  have hne : ∀ b o, s.heap.get? b = some o → b ≠ a := fun b o e z => by rw [z, fresh] at e; cases e
  refine ⟨na, I.call' os (ch := []) ⟨fun b o e n nf _ => ?_, fun b o e n hf _ => ?_, fun b o e n _ => ?_, fun b o e _ => ?_, fun b ys e => ?_, fun b o u e => ?_, fun b ps e => ?_⟩ ok2 bare fun b z => absurd z (by simp)⟩
  · obtain ⟨_, _, h3⟩ := kq b o e
    exact h3 nf
  · obtain ⟨sl, h2, _⟩ := kq b o e
    exact ⟨sl, h2⟩
  · rw [upd_ne (hne b o e)]
    exact n
  · obtain ⟨sl, h2, _⟩ := kq b o e
    exact ⟨_, h2⟩
  · rw [upd_ne (ne_of_none e na)]
    exact e
  · rw [upd_ne (ne_of_none e na)]
    exact e
  · refine ⟨#[], ?_⟩
    rw [upd_ne (ne_of_none e na), e]
    simp
/-- values that stand for data, as values of the layer -/
theorem each_back {K : PySem.W.Frag} : ∀ {us : List Value} {as : List A}, PySem.W.EachIs (fun u a => ∃ y, RV K φ H y a ∧ RelV y u) us as → ∃ ys, Vals ys us ∧ RVs K φ H ys as
  | [], _, .nil => ⟨[], .nil, .nil⟩
  | _ :: _, _ :: _, .cons h q => by
    obtain ⟨y, r, e⟩ := h
    obtain ⟨ys, es, rs⟩ := each_back q
    exact ⟨y :: ys, .cons e es, .cons r rs⟩
theorem each_of {K : PySem.W.Frag} : ∀ {ys : List V} {us : List Value} {as : List A}, Vals ys us → RVs K φ H ys as → PySem.W.EachIs (fun u a => ∃ y, RV K φ H y a ∧ RelV y u) us as
  | [], _, _, .nil, .nil => .nil
  | _ :: _, _, _, .cons e es, .cons r rs => .cons ⟨_, r, e⟩ (each_of es rs)
/-! ### sorted by a key -/
def keyD (m : MF) (a : A) : PyData := (keyM m a).getD .none
structure KeysOk (m : MF) (xs : List A) : Prop where
  pure : ∀ a ∈ xs, pureA a = true
  some : ∀ a ∈ xs, (keyM m a).isSome = true
  ord : KzOk (xs.map (keyD m))
  deep : ∀ a ∈ xs, (keyD m a).depth ≤ 8
  few : xs.length ≤ sizeLine
def sortK (m : MF) (b : Bool) (xs : List A) : List A := xs.mergeSort (PySem.W.dataLe b (keyD m))
def rSortK (X : Cx) (x : Str) (m : MF) (b : Bool) (rest : List V) : List V → List V → Hp → VK → Prop := fun vs zs H Q => ∃ (p f : Addr) (ys : List V) (φ : List Addr) (as : List A), vs = [V.ref p] ∧ zs = .ref f :: rest ∧ X.mg x = some (.ref f) ∧ (SqL X.K H p ys ∨ SqT X.K H p ys) ∧ RVs X.K φ H ys as ∧ KeysOk m as ∧
  ∀ (q : Addr) (ws : List V), H q = none → RVs X.K φ H ws (sortK m b as) → Q (.ref q) (upd H q (.lst ws))
open PySem.W in
/-- list.sort of a new list at a, by keys that a call of fv tells -/
theorem sort_core {fv : Value} {m : MF} {b : Bool} {kw : List (Str × Value)} {a : Addr} {its : List Value} {h1 : Heap} {ys : List V} {as : List A} {Q : VK} {E' : Value → Shared → Prop} (I : Inv X pins σ H s) (hv : Vals ys its) (rs : RVs X.K φ H ys as) (ok : KeysOk m as)
    (k1 : ∀ b o, s.heap.get? b = some o → h1.get? b = some o) (fresh : s.heap.get? a = none) (here : h1.get? a = some (seqObj "list" its.toArray 0)) (hun : X.A.in1.in1.units + 8 < cLine) (ht : Builtin.«list.sort» ⟨[.ref a], kw⟩ = ksk_tree a fv b)
    (turn : ∀ (y : V) (u : Value) (e : A) (d : PyData) (s' : Shared), RV X.K φ H y e → RelV y u → keyM m e = some d → pureA e = true → s'.os = s.os → AllBare s'.gens → Kq (frs X.stack) s.heap s'.heap → wpAny (model X.prog X.w) X.A.in1.in1 (call fv [u]) (Qt (frs X.stack) d s') (fun _ _ => False) s')
    (q : ∀ (q : Addr) (ws : List V), H q = none → RVs X.K φ H ws (sortK m b as) → Q (.ref q) (upd H q (.lst ws))) :
    wpAny (model X.prog X.w) X.A.in1.in1 (Builtin.«list.sort» ⟨[.ref a], kw⟩) (fun f s' => f = .done (.ret .none) ∧ EP X pins σ Q (.ref a) s') E' { s with heap := h1 } := by
  have l1 : its.length = as.length := by rw [← hv.length, rs.length]
  have hz : its.length ≤ sizeLine := by rw [l1]; exact ok.few
  have hfr := fr_has I
  have aF : a ∉ frs X.stack := fun z => by
    obtain ⟨o, e⟩ := hfr a z
    rw [fresh] at e
    cases e
  rw [ht]
  unfold ksk_tree
  refine wpAny_bind (listItems_at (s := { s with heap := h1 }) here rfl ?_)
  refine wpAny_bind (listUpdate_at (s := { s with heap := h1 }) here rfl ?_ (by simpa using hz) (by simp))
  obtain ⟨ep, here2⟩ : ∃ ep, (h1.update a (Obj.mapSeq fun _ => (#[] : Array Value))).get? a = some (seqObj "list" #[] ep) := ⟨_, get?_update_seq here fun _ => #[]⟩
  have s1 := Heap.SameBut.update h1 a (Obj.mapSeq fun _ => (#[] : Array Value))
  have k2 : ∀ b o, s.heap.get? b = some o → (h1.update a (Obj.mapSeq fun _ => (#[] : Array Value))).get? b = some o := fun b o e => (s1.2 b fun z => by rw [z, fresh] at e; cases e).trans (k1 b o e)
  dsimp only
  generalize h1.update a (Obj.mapSeq fun _ => (#[] : Array Value)) = h2 at here2 k2
  refine wpAny_bind (seqEpoch_at (s := { s with heap := h2 }) here2 rfl ?_)
  refine wpAny_bind (wpAny_newTuple ?_ (by simpa using hz))
  refine wpAny_bind (wpAny_newList ?_ (Nat.zero_le _))
  refine wpAny_holding ?_
  dsimp only
  generalize hh3 : h2.push { cls := .type "tuple", data := .seq its.toArray.toList.toArray } = h3
  have k3 : ∀ b o, h2.get? b = some o → h3.get? b = some o := fun b o e => by rw [← hh3]; exact Heap.get?_push_of_some _ e
  have k4 : ∀ b o, h3.get? b = some o → (h3.push (seqObj "list" #[] 0)).get? b = some o := fun b o e => Heap.get?_push_of_some _ e
  have hz4 : (h3.push (seqObj "list" #[] 0)).get? h3.objs.size = some (seqObj "list" #[] 0) := Heap.get?_push_size _ rfl
  have z3 : h3.get? h3.objs.size = none := Heap.get?_none_of_le (Nat.le_refl _)
  have zs : s.heap.get? h3.objs.size = none := by
    cases e : s.heap.get? h3.objs.size with
    | none => rfl
    | some o => rw [k3 _ _ (k2 _ _ e)] at z3; cases z3
  have zF : h3.objs.size ∉ frs X.stack := fun z => by
    obtain ⟨o, e⟩ := hfr _ z
    rw [zs] at e
    cases e
  have za : h3.objs.size ≠ a := fun e => by
    rw [e, k3 _ _ here2] at z3
    cases z3
  have kk : ∀ b o, s.heap.get? b = some o → (h3.push (seqObj "list" #[] 0)).get? b = some o := fun b o e => k4 _ _ (k3 _ _ (k2 _ _ e))
  have nb : ∀ b o, s.heap.get? b = some o → b ≠ a ∧ b ≠ h3.objs.size := fun b o e => ⟨fun z => (by rw [z, fresh] at e; cases e), fun z => (by rw [z, zs] at e; cases e)⟩
  show wpAny (model X.prog X.w) X.A.in1.in1 (ksk_rest a fv b its.toArray ep (.ref h3.objs.size)) _ E' { s with heap := h3.push (seqObj "list" #[] 0) }
  refine key_sort (F := frs X.stack) (s := { s with heap := h3.push (seqObj "list" #[] 0) }) (kz := as.map (keyD m)) (k4 _ _ (k3 _ _ here2)) hz4 za aF zF I.bare (by rw [List.length_map, l1]) hz ok.ord (fun d hd => ?_) (fun i v d hv' hd s' os' g' kz' => ?_) (fun s' out c os' g' kz' ho' ko => ?_)
  · obtain ⟨a', ha', rfl⟩ := List.mem_map.mp hd
    have := ok.deep a' ha'
    omega
  · rw [List.getElem?_map, Option.map_eq_some_iff] at hd
    obtain ⟨a', ha', rfl⟩ := hd
    have ham := List.mem_of_getElem? ha'
    have hsome := ok.some a' ham
    obtain ⟨d, hd⟩ := Option.isSome_iff_exists.mp hsome
    have e1 : keyD m a' = d := by unfold keyD; rw [hd]; rfl
    rw [e1]
    obtain ⟨y, hy, ry⟩ := rs.get ha'
    obtain ⟨u, hu, ru⟩ := hv.get hy
    rw [hv'] at hu
    cases hu
    have kq : Kq (frs X.stack) s.heap s'.heap := fun b o e => kz' b o (nb b o e).2 (kk b o e)
    exact turn _ _ _ _ _ ry ru hd (ok.pure a' ham) os' g' kq
  · have kq : Kq (frs X.stack) s.heap s'.heap := fun b o e => kz' b o (nb b o e).1 (nb b o e).2 (kk b o e)
    have ee := keyedK_each (R := fun u a => ∃ y, RV X.K φ H y a ∧ RelV y u) (keyD m) ko (each_of hv rs)
    obtain ⟨ws, hw, rw'⟩ := each_back ee
    have hwz : ws.length ≤ sizeLine := by
      rw [rw'.length, List.length_mergeSort]
      exact ok.few
    obtain ⟨na, I'⟩ := inv_laidKq I os' g' kq fresh ho' hw hwz
    exact ⟨rfl, V.ref a, _, I', rfl, q a ws na rw'⟩
open PySem.W in
theorem sort_keyed {x : Str} {k : Nat} {m : MF} {b : Bool} {kw : List (Str × Value)} {p f : Addr} {ys : List V} {as : List A} {Q : VK} (C : Cal X.prog X.w X.K X.mg X.base x k m) (hr : Room (k + 2) X.A) (I : Inv X pins σ H s) (hx : X.mg x = some (.ref f)) (hs : SqL X.K H p ys ∨ SqT X.K H p ys) (rs : RVs X.K φ H ys as) (ok : KeysOk m as)
    (ha1 : argsOk "sorted" ⟨[.ref p], kw⟩) (ha2 : ∀ x, argsOk "list.sort" ⟨[.ref x], kw⟩) (ht : ∀ x, Builtin.«list.sort» ⟨[.ref x], kw⟩ = ksk_tree x (.ref f) b)
    (q : ∀ (q : Addr) (ws : List V), H q = none → RVs X.K φ H ws (sortK m b as) → Q (.ref q) (upd H q (.lst ws))) :
    wpAny (model X.prog X.w) X.A (call (.builtin "sorted") [.ref p] kw) (EP X pins σ Q) X.xe s := by
  obtain ⟨f', fd, ps, hf, hk, hb, F⟩ := C.ex
  rw [hx] at hf
  cases hf
  have hr2 : Room k X.A.in1.in1 := Room.in1 (Room.in1 hr)
  obtain ⟨T, o, its, n, hT, ho, hc, hd, hv⟩ : ∃ (T : String) (o : Obj) (its : List Value) (n : Nat), (T = "list" ∨ T = "tuple") ∧ s.heap.get? p = some o ∧ o.cls = .type T ∧ o.data = .seq its.toArray n ∧ Vals ys its := by
    rcases hs with hs | hs
    · obtain ⟨its, rv, hl, _⟩ := I.list hs
      obtain ⟨o, ho, hc, n, hd⟩ := hl.isList
      exact ⟨"list", o, its, n, .inl rfl, ho, hc, hd, rv⟩
    · obtain ⟨its, rv, ⟨o, ho, hc, n, hd⟩, _⟩ := I.tuple hs
      exact ⟨"tuple", o, its, n, .inr rfl, ho, hc, hd, rv⟩
  have hz : its.length ≤ sizeLine := by rw [← hv.length, rs.length]; exact ok.few
  exact sorted_any hT ho hc hd (by simpa using hz) ha1 ha2 fun h1 a E' k1 fresh here => sort_core I hv rs ok k1 fresh here (by have := hr2.un; omega) (ht a)
    (fun y u e d s' ry ru hd hp os' g' kq => quiet_call I F hb hr2 ry ru hd hp os' g' (hok_kq I.hok kq I.env0.frf) kq) q
theorem cr_sortKey {x : Str} {k : Nat} {m : MF} (C : Cal X.prog X.w X.K X.mg X.base x k m) (hr : Room (k + 2) X.A) : CallRK X (.builtin "sorted") [Str.ofString "key"] (rSortK X x m false []) := by
  intro pins s σ H vs zs us ws Q I r rz ⟨p, f, ys, φ, as, e1, e2, hx, hs, rs, ok, q⟩
  subst e1 e2
  obtain rfl := Vals.ref1 r
  obtain ⟨w1, rfl, e1⟩ := vals1 rz
  obtain rfl : w1 = Value.ref f := e1
  exact sort_keyed C hr I hx hs rs ok (ksk_s1 _ _) (fun _ => ksk_l1 _ _) (fun _ => ksk_t1 _ _) q
theorem cr_sortKeyRev {x : Str} {k : Nat} {m : MF} {b : Bool} (C : Cal X.prog X.w X.K X.mg X.base x k m) (hr : Room (k + 2) X.A) : CallRK X (.builtin "sorted") [Str.ofString "key", Str.ofString "reverse"] (rSortK X x m b [.bl b]) := by
  intro pins s σ H vs zs us ws Q I r rz ⟨p, f, ys, φ, as, e1, e2, hx, hs, rs, ok, q⟩
  subst e1 e2
  obtain rfl := Vals.ref1 r
  obtain ⟨w1, w2, rfl, e1, e2⟩ := vals2 rz
  obtain rfl : w1 = Value.ref f := e1
  obtain rfl : w2 = Value.bool b := e2
  exact sort_keyed C hr I hx hs rs ok (ksk_s2 _ _ _) (fun _ => ksk_l2 _ _ _) (fun _ => ksk_t2 _ _ _) q
end
/-! ### sorted of data -/
def datD (a : A) : PyData := (pyD a).getD .none
structure DatOk (xs : List A) : Prop where
  some : ∀ a ∈ xs, (pyD a).isSome = true
  alike : PySem.W.AllAlike (xs.map datD)
  sort : PySem.W.Sortable (xs.map datD)
  deep : ∀ a ∈ xs, (datD a).depth ≤ 8
  few : xs.length ≤ sizeLine
def sortD (b : Bool) (xs : List A) : List A := xs.mergeSort (PySem.W.dataLe b datD)
section
variable {X : Cx} {pins : List (Addr × Obj)} {σ : L2.St} {H : Hp} {s s1 : Shared} {φ : List Addr}
def rSortD (X : Cx) : List V → Hp → VK → Prop := fun vs H Q => ∃ (p : Addr) (ys : List V) (φ : List Addr) (as : List A), vs = [V.ref p] ∧ (SqL X.K H p ys ∨ SqT X.K H p ys) ∧ RVs X.K φ H ys as ∧ DatOk as ∧
  ∀ (q : Addr) (ws : List V), H q = none → RVs X.K φ H ws (sortD false as) → Q (.ref q) (upd H q (.lst ws))
open PySem.W in
theorem cr_sortD (hu : X.A.units + 64 < cLine) : CallR X (.builtin "sorted") (rSortD X) := by
  intro pins s σ H vs us Q I r ⟨p, ys, φ, as, e1, hs, rs, ok, q⟩
  subst e1
  obtain rfl := Vals.ref1 r
  obtain ⟨T, o, its, n, hT, ho, hc, hd, hv⟩ : ∃ (T : String) (o : Obj) (its : List Value) (n : Nat), (T = "list" ∨ T = "tuple") ∧ s.heap.get? p = some o ∧ o.cls = .type T ∧ o.data = .seq its.toArray n ∧ Vals ys its := by
    rcases hs with hs | hs
    · obtain ⟨its, rv, hl, _⟩ := I.list hs
      obtain ⟨o, ho, hc, n, hd⟩ := hl.isList
      exact ⟨"list", o, its, n, .inl rfl, ho, hc, hd, rv⟩
    · obtain ⟨its, rv, ⟨o, ho, hc, n, hd⟩, _⟩ := I.tuple hs
      exact ⟨"tuple", o, its, n, .inr rfl, ho, hc, hd, rv⟩
  have l1 : its.length = as.length := by rw [← hv.length, rs.length]
  have hz : its.length ≤ sizeLine := by rw [l1]; exact ok.few
  refine sorted_any hT ho hc hd (by simpa using hz) (args_sorted1 _) (fun _ => args_list_sort _) fun h1 a E' k1 fresh here => ?_
  have kS : ∀ b o, s.heap.get? b = some o → (sortingHeap h1 a its).get? b = some o := fun b o e => sortingHeap_old (fun z => by rw [z, fresh] at e; cases e) (k1 b o e)
  have er : EachIs (fun v x => ∃ as, Reads (sortingHeap h1 a its) v (datD x) as) its as := by
    have KX : X.K.In s.heap := I.kIn
    have e0 := each_mem (each_of hv rs)
    refine e0.mono fun u x ⟨⟨y, ry, ru⟩, hx⟩ => ⟨[], ?_⟩
    obtain ⟨d, hd⟩ := Option.isSome_iff_exists.mp (ok.some x hx)
    have e1 : datD x = d := by unfold datD; rw [hd]; rfl
    rw [e1]
    exact PyProof.Rows.Reads.keeps kS (rv_reads I.hok KX ry ru hd)
  have ee := each_map (R := fun v d => ∃ as, Reads (sortingHeap h1 a its) v d as) datD er
  have S := SortsAt.data (prog := X.prog) (w := X.w) (A := X.A.in1.in1) (s := { s with heap := sortingHeap h1 a its }) ee ok.alike ok.sort (fun d hd => by
    obtain ⟨x, hx, rfl⟩ := List.mem_map.mp hd
    have := ok.deep x hx
    show X.A.units + 1 + 1 + (datD x).depth < cLine
    omega)
  refine list_sort_vals (s := { s with heap := h1 }) here S hz ⟨rfl, ?_⟩
  obtain ⟨c, hc2⟩ := sortedHeap_at (vs := its) (out := (sortVals (dataKind (sortingHeap h1 a its) (as.map datD)) false its its).toArray) here
  have eo := sortVals_data (h' := sortingHeap h1 a its) (R := fun u a => ∃ y, RV X.K φ H y a ∧ RelV y u) (enc := datD) false (each_of hv rs) er ok.alike
  obtain ⟨ws, hw, rw'⟩ := each_back eo
  have hwz : ws.length ≤ sizeLine := by
    rw [rw'.length, List.length_mergeSort]
    exact ok.few
  have kq : Kq (frs X.stack) s.heap (sortedHeap h1 a its (sortVals (dataKind (sortingHeap h1 a its) (as.map datD)) false its its).toArray) := Kq.of fun b o e => by
    rw [sortedHeap_old (fun z => by rw [z, fresh] at e; cases e) (Heap.lt_size (k1 b o e))]
    exact k1 b o e
  obtain ⟨na, I'⟩ := inv_laidKq (s' := { s with heap := sortedHeap h1 a its (sortVals (dataKind (sortingHeap h1 a its) (as.map datD)) false its its).toArray }) I rfl I.bare kq fresh hc2 hw hwz
  exact ⟨V.ref a, _, I', rfl, q a ws na rw'⟩
end
/-! ### the mirrors -/
open Classical in
noncomputable def sortKA (m : MF) (b : Bool) : List A → Store → R A
  | [x], st => match itemsQ x st with
    | some xs => if KeysOk m xs then .ok (.ref st.length) (st ++ [.lst (sortK m b xs)]) else .bad
    | none => .bad
  | _, _ => .bad
open Classical in
noncomputable def sortDA : List A → Store → R A
  | [x], st => match itemsQ x st with
    | some xs => if DatOk xs then .ok (.ref st.length) (st ++ [.lst (sortD false xs)]) else .bad
    | none => .bad
  | _, _ => .bad
section
variable {X : Cx} {W : WX} {pos : Pos} {e : Expr} {ma : MX}
theorem cs_sortD : CaS X (rSortD X) sortDA := fun W φ H st vs as Q rs rv h => by
  unfold sortDA at h
  split at h
  · rename_i x
    obtain ⟨v, rfl, r⟩ := one_rv rv
    split at h
    · rename_i xs hi
      split at h
      · rename_i ok
        obtain ⟨p, ys, rfl, hs, r2⟩ := itemsQ_ok rs r hi
        exact ⟨p, ys, φ, xs, rfl, hs, r2, ok, fun q ws hq hw => h _ _ _ (ext_alloc rs hq) (rs.alloc hq hw) (.newLst rs)⟩
      · exact (show False from h).elim
    · exact (show False from h).elim
  · exact (show False from h).elim
theorem sortK_ok {m : MF} {b : Bool} {x : Str} {f : Addr} {rest : List V} {φ : List Addr} {H : Hp} {st : Store} {vs : List V} {as : List A} {Q : VK} {WW : WH} (hx : X.mg x = some (.ref f)) (rs : RS X.K X.w X.mg φ H st) (rv : RVs X.K φ H vs as) (h : Pst X.K X.w X.mg (RV X.K) WW φ H (sortKA m b as st) Q) : rSortK X x m b rest vs (.ref f :: rest) H Q := by
  unfold sortKA at h
  split at h
  · rename_i x
    obtain ⟨v, rfl, r⟩ := one_rv rv
    split at h
    · rename_i xs hi
      split at h
      · rename_i ok
        obtain ⟨p, ys, rfl, hs, r2⟩ := itemsQ_ok rs r hi
        exact ⟨p, f, ys, φ, xs, rfl, rfl, hx, hs, r2, ok, fun q ws hq hw => h _ _ _ (ext_alloc rs hq) (rs.alloc hq hw) (.newLst rs)⟩
      · exact (show False from h).elim
    · exact (show False from h).elim
  · exact (show False from h).elim
/-- sorted(e, key=x), x a def of the text -/
theorem me_sortK {x : Str} {k : Nat} {m : MF} {p p2 kp : Pos} {ms : MA} (C : Cal X.prog X.w X.K X.mg X.base x k m) (hr : Room (k + 2) X.A) (hm : X.mg "sorted" = none) (ha : PA X [e] (tA X W ms)) (hg : Gl X "sorted" := by rfl) (hgx : Gl X x := by rfl) (hdx : (x == ("__debug__" : Str)) = false := by decide)
    (he : backTo pos (starEach [e] X.env) = (false, eval e X.env) :: backTo pos (starEach [] X.env) := by rfl) (hpl : (backTo pos (starEach [e] X.env)).any (·.1) = false := by rfl)
    (hall : (backToKw pos (keywordEach [⟨some "key", .Name x p2, kp⟩] X.env)).all (·.1.isSome) = true := by rfl) (hnone : (backToKw pos (keywordEach [⟨some "key", .Name x p2, kp⟩] X.env)).any (·.1.isNone) = false := by rfl) (hks : (backToKw pos (keywordEach [⟨some "key", .Name x p2, kp⟩] X.env)).filterMap (·.1) = [Str.ofString "key"] := by rfl) :
    PE X (.Call (.Name "sorted" p) [e] [⟨some "key", .Name x p2, kp⟩] pos) (tE X W (mCa (sortKA m false) ms)) := by
  obtain ⟨f, fd, ps, hf, _⟩ := C.ex
  refine (pe_callBK (cr_sortKey C hr) hg hm (by decide +kernel) ha (pk_cons (pe_glob (v := V.ref f) hgx hf rfl hdx) pk_nil) (by decide) (by decide) he hpl hall hnone hks).imp fun σ H Q ⟨φ, ρ, st, rs, re, h⟩ => ?_
  exact ⟨φ, ρ, st, rs, re, h.seq fun φ1 a vs H1 st1 e1 rs1 rv1 h1 => sortK_ok hf rs1 rv1 h1⟩
/-- sorted(e, key=x, reverse=b) -/
theorem me_sortKR {x : Str} {k : Nat} {m : MF} {b : Bool} {p p2 kp p3 kp3 : Pos} {j3 : Nat} {ms : MA} (C : Cal X.prog X.w X.K X.mg X.base x k m) (hr : Room (k + 2) X.A) (hm : X.mg "sorted" = none) (ha : PA X [e] (tA X W ms)) (hg : Gl X "sorted" := by rfl) (hgx : Gl X x := by rfl) (hdx : (x == ("__debug__" : Str)) = false := by decide)
    (he : backTo pos (starEach [e] X.env) = (false, eval e X.env) :: backTo pos (starEach [] X.env) := by rfl) (hpl : (backTo pos (starEach [e] X.env)).any (·.1) = false := by rfl)
    (hall : (backToKw pos (keywordEach [⟨some "key", .Name x p2, kp⟩, ⟨some "reverse", .Constant (.bool b) j3 p3, kp3⟩] X.env)).all (·.1.isSome) = true := by rfl) (hnone : (backToKw pos (keywordEach [⟨some "key", .Name x p2, kp⟩, ⟨some "reverse", .Constant (.bool b) j3 p3, kp3⟩] X.env)).any (·.1.isNone) = false := by rfl) (hks : (backToKw pos (keywordEach [⟨some "key", .Name x p2, kp⟩, ⟨some "reverse", .Constant (.bool b) j3 p3, kp3⟩] X.env)).filterMap (·.1) = [Str.ofString "key", Str.ofString "reverse"] := by rfl) :
    PE X (.Call (.Name "sorted" p) [e] [⟨some "key", .Name x p2, kp⟩, ⟨some "reverse", .Constant (.bool b) j3 p3, kp3⟩] pos) (tE X W (mCa (sortKA m b) ms)) := by
  obtain ⟨f, fd, ps, hf, _⟩ := C.ex
  refine (pe_callBK (cr_sortKeyRev (b := b) C hr) hg hm (by decide +kernel) ha (pk_cons (pe_glob (v := V.ref f) hgx hf rfl hdx) (pk_cons pe_bl pk_nil)) (by decide) (by decide) he hpl hall hnone hks).imp fun σ H Q ⟨φ, ρ, st, rs, re, h⟩ => ?_
  exact ⟨φ, ρ, st, rs, re, h.seq fun φ1 a vs H1 st1 e1 rs1 rv1 h1 => sortK_ok hf rs1 rv1 h1⟩
end
end ML
/-! ML19: repr; defs that may ask for it (no repr runs around them); a law that asks for it. -/
namespace ML
open PySem PySem.Spec L2 PyProof.Rows
/-- a def's promise where no repr runs around its call -/
structure FnG (P : Program) (w : World) (K : PySem.W.Frag) (mg : Str → Option Value) (base : Heap) (k : Nat) (f : Addr) (fd : FuncData) (ps : List Str) (sp : Sp) : Prop where
  len : ∀ vs H Q E, sp vs H Q E → vs.length = ps.length
  run : ∀ (A : Around) (outer : List PySem.Env) (s : Shared) (H : Hp) (args : Args) (us : List Value) (vs : List V) (Q : VK) (E : XK), A.guards = some [] → Room k A → Env0 P w K mg base A outer s H → BindsTo s fd args (ps.zip us) → Vals vs us → sp vs H Q E →
    codeAny (model P w) A (.call (.ref f) args) (CR (L2.CX P w) outer P w H s Q E) s
theorem FnG.imp {P : Program} {w : World} {K : PySem.W.Frag} {mg : Str → Option Value} {base : Heap} {k : Nat} {f : Addr} {fd : FuncData} {ps : List Str} {sp sp' : Sp} (F : FnG P w K mg base k f fd ps sp) (h : ∀ vs H Q E, sp' vs H Q E → sp vs H Q E) : FnG P w K mg base k f fd ps sp' :=
  ⟨fun vs H Q E q => F.len _ _ _ _ (h _ _ _ _ q), fun A outer s H args us vs Q E g hr e0 hb hv q => F.run A outer s H args us vs Q E g hr e0 hb hv (h _ _ _ _ q)⟩
section
variable {P : Program} {w : World} {K : PySem.W.Frag} {mg : Str → Option Value} {base : Heap}
theorem fn_okG {x qual : Str} {st : Stmt} {f : Addr} {fd : FuncData} {N ps : List Str} {k : Nat} {body : MS} (F : Fun K x qual st f fd) (S : FnScope N ps (defScope st))
    (hb : ∀ (cdv : Value) (A : Around) (outer : List PySem.Env) (s : Shared) (H : Hp) (E : XK), A.guards = some [] → Room k (A.deeper (PyProof.Rows.envOfC qual (defScope st) s.heap.objs.size f cdv)) →
      PSs (cxOf (L2.CX P w) P w K mg base N qual (defScope st) f cdv A outer s H E) (defBody st) (tS (cxOf (L2.CX P w) P w K mg base N qual (defScope st) f cdv A outer s H E) (fun c d _ H' => E c d H') body)) :
    FnG P w K mg base (k + 1) f fd ps (spM K w mg (mFn N.length ps.length body)) := by
  have len : ∀ vs H Q E, spM K w mg (mFn N.length ps.length body) vs H Q E → vs.length = ps.length := fun vs H Q E ⟨φ, as, st, rs, rv, h⟩ => by
    unfold mFn at h
    split at h
    · rename_i hl
      rw [rv.length, hl]
    · exact h.elim
  obtain ⟨oc, od, kV, doc, pm, an, cdv, ct, osl, e1, lk, hcd⟩ := F.ex
  subst e1
  refine ⟨len, fun A outer s H args us vs Q E hg hr e0 hbd rel hsp => ?_⟩
  have lv := len _ _ _ _ hsp
  have up : ∀ b o, base.get? b = some o → s.heap.get? b = some o := fun b o e => (e0.bs b o e).1
  have KX : K.In s.heap := e0.mod.kin.keeps up
  have names : ∀ y ∈ ps.zip us, (defScope st).names.lookup y.1 = some .local ∨ ((defScope st).names.lookup y.1 = some .cell ∧ ((cellsFrom (s.heap.objs.size + 1) (defScope st).names []).lookup y.1).isSome = true) := by
    rintro ⟨n, v⟩ hy
    exact (S.par n (List.of_mem_zip hy).1).imp id fun q => ⟨q, PySem.W.cellsFrom_some _ _ _ (.inl q)⟩
  refine codeAny_call_function hr.depth (KX _ _ lk) rfl S.co S.gen rfl (PySem.W.codeRec_of KX hcd) (hbd _ _ _ _ (wpAny_newFunctionEnv_cells S.kind names fun env he s1 x => ?_))
  subst he
  refine ⟨(e0.mod.nolimit.keeps up).keeps x.toInCall.keep, codeAny_func ?_⟩
  have I := inv_start (CX := L2.CX P w) (E := E) (N := N) (qual := qual) S hr.hd e0 lv rel x
  have run := hb cdv A outer s H E hg (hr.deeper _)
  obtain ⟨φ, as, st0, rs, rv, h⟩ := hsp
  have sat : tS (cxOf (L2.CX P w) P w K mg base N qual (defScope st) f cdv A outer s H E) (fun c d _ H' => E c d H') body { nx := fun _ H' => Q .non H', rt := Q } (start N vs) H := by
    unfold mFn at h
    split at h
    · refine ⟨φ, as.map some ++ List.replicate (N.length - ps.length) none, st0, rs, ?_, ?_⟩
      · unfold L2.start
        rw [lv]
        exact RE.start rv _
      · cases e : body (as.map some ++ List.replicate (N.length - ps.length) none) st0 with
        | nx ρ st' => rw [e] at h; exact fun φ' σ' H' ex rs' re' => h φ' .non H' ex rs' .non
        | rt a st' => rw [e] at h; exact fun φ' v H' ex rs' rv' => h φ' v H' ex rs' rv'
        | er x ρ st' => rw [e] at h; exact fun φ' c d σ' H' ex rs' re' rx => h φ' c d H' ex rs' rx
        | bk ρ st' => rw [e] at h; exact h.elim
        | ct ρ st' => rw [e] at h; exact h.elim
        | bad => rw [e] at h; exact h.elim
    · exact h.elim
  refine wpAny_mono (run.run [] s1 (start N vs) H _ I sat) (fun fl s' hs => ?_) fun e s' hs => hs
  cases fl with
  | ret u =>
    obtain ⟨v, σ', H', J, r, q⟩ := hs
    exact ⟨v, H', J.os, J.bare, J.base, J.hok, r, q⟩
  | next =>
    obtain ⟨σ', H', J, q⟩ := hs
    exact ⟨V.non, H', J.os, J.bare, J.base, J.hok, rfl, q⟩
  | brk => exact hs.choose_spec.choose_spec.2.elim
  | cont => exact hs.choose_spec.choose_spec.2.elim
end
/-! ### repr -/
/-- it can be told, and is not too long -/
def reprOk (d : PyData) : Prop := d.showable = true ∧ d.hasDict = false ∧ d.depth ≤ 30 ∧ d.shown.length ≤ sizeLine
instance (d : PyData) : Decidable (reprOk d) := by unfold reprOk; infer_instance
def adrA : A → Bool
  | .tup _ => true
  | .scr _ => true
  | .ref _ => true
  | _ => false
def reprA : List A → Store → R A
  | [x], st => match dataOf st x with
    | some d => if adrA x = true ∧ reprOk d then .ok (.str d.shown) st else .bad
    | none => .bad
  | _, _ => .bad
section
variable {X : Cx}
def rRepr (K : PySem.W.Frag) : List V → Hp → VK → Prop := fun vs H Q => ∃ (p : Addr) (d : PyData), vs = [.ref p] ∧ Dp K H (.ref p) d ∧ reprOk d ∧ Q (.str d.shown) H
theorem cr_repr (hg : X.A.guards = some []) (hu : X.A.units + 64 < cLine) : CallR X (.builtin "repr") (rRepr X.K) := by
  intro pins s σ H vs us Q I r ⟨p, d, e1, hd, ⟨k1, k2, k3, k4⟩, q⟩
  subst e1
  obtain rfl := Vals.ref1 r
  obtain ⟨as, rd⟩ := hd.reads I d _ _ rfl
  refine repr_of_reads' rd k1 (fun z => by rw [k2] at z; cases z) hg (by omega) (fun _ _ e => e) (fun h' u tk kp => ?_) k4
  exact ⟨.str d.shown, H, I.kept kp, ⟨u, rfl⟩, q⟩
theorem cs_repr : CaS X (rRepr X.K) reprA := fun W φ H st vs as Q rs rv h => by
  unfold reprA at h
  split at h
  · rename_i x
    obtain ⟨v, rfl, r⟩ := one_rv rv
    split at h
    · rename_i d hd
      split at h
      · rename_i ok
        obtain ⟨p, rfl⟩ : ∃ p, v = V.ref p := by
          have := ok.1
          cases r <;> first | exact ⟨_, rfl⟩ | cases this
        exact ⟨p, d, rfl, dataOf_ok rs r hd, ok.2, h.ok rs (.str _)⟩
      · exact h.elim
    · exact h.elim
  · exact h.elim
end
/-! ### the end of such a law -/
section
variable {P : Program} {w : World} {K : PySem.W.Frag} {mg mb : Str → Option Value} {k : Nat} {fa a : Addr} {fd : FuncData} {x : Str} {sp : Sp} {s1 : Shared} {vs : List Value} {ns : List Int}
/-- run from a heap in which nothing but the script may be known -/
theorem run_law (KX : K.In s1.heap) (hns : s1.heap.Ns mainGlobals mg) (hb : s1.heap.Ns builtinsNs mb) (hbb : ∀ x : Str, x ≠ "__name__" → mb x = bootBuiltins x) (hlim : s1.heap.NoLimit) (hg : s1.gens = #[])
    (ha : s1.heap.get? a = some { cls := .type "list", data := .seq vs.toArray }) (hr : Room k callerA) (F : ∀ base : Heap, K.In base → base.Ns mainGlobals mg → FnG P w K mg base k fa fd [x] sp) (hbind : ∀ (s : Shared) (u : Value), BindsTo s fd ⟨[u], []⟩ [(x, u)])
    {H : Hp} (hO : Only H) (hsp : sp [.ref a] H (fun v _ => v = .bl true) fun _ _ _ => False) (hok : HOk P w H s1.heap) (hA : ∀ b, H b ≠ none → b = a ∧ K.lookup a = none) :
    codeAny (model P w) callerA (.call (.ref fa) ⟨[.ref a], []⟩) (fun r s' => r = .ok (.ret (.bool true)) ∧ OldK s1.heap s'.heap ∧ s'.os = s1.os ∧ AllBare s'.gens) s1 := by
  have hid : ∀ {b : Addr} {o : Obj}, s1.heap.get? b = some o → (H b ≠ none → False) → (hidT s1.heap H).get? b = some o := fun e n => hidT_get e (Classical.byContradiction n)
  have nsK : ∀ {b : Addr} {m : Str → Option Value}, s1.heap.Ns b m → (hidT s1.heap H).Ns b m := by
    rintro b m ⟨o, es, ep, e, d, r⟩
    refine ⟨o, es, ep, hid e fun z => ?_, d, r⟩
    obtain ⟨rfl, _⟩ := hA b z
    rw [ha] at e
    cases e
    exact absurd d (by simp)
  have hKb : K.In (hidT s1.heap H) := fun b o e => hid (KX b o e) fun z => by
    obtain ⟨rfl, n⟩ := hA b z
    rw [n] at e
    cases e
  have lim : (hidT s1.heap H).NoLimit := by
    obtain ⟨mc, h1, h2⟩ := hlim
    exact ⟨mc, nsK h1, h2⟩
  have e0 : Env0 P w K mg (hidT s1.heap H) callerA [] s1 H := ⟨rfl, ⟨hKb, nsK hns, ⟨mb, nsK hb, hbb⟩, lim⟩, fun b o e => of_hidT e, Nat.le_of_eq (hidT_size _ _), trivial, (by intro b hb; cases hb), hok, .of_eq hg⟩
  refine codeAny_mono ((F _ hKb (nsK hns)).run callerA [] s1 H ⟨[.ref a], []⟩ [.ref a] [.ref a] _ _ rfl hr e0 (hbind s1 (.ref a)) (.cons rfl .nil) hsp) fun r s' h => ?_
  cases r with
  | error e =>
    obtain ⟨_, _, _, _, _, _, _, _, _, _, _, _, z⟩ := h
    exact z.elim
  | ok fl =>
    cases fl with
    | next => exact False.elim h
    | brk => exact False.elim h
    | cont => exact False.elim h
    | ret u =>
      obtain ⟨v, H', os, bare, un, ok', rel, q⟩ := h
      have q : v = .bl true := q
      subst q
      have rel : u = Value.bool true := rel
      subst rel
      refine ⟨rfl, OldK.of_keep fun b o e => ?_, os, bare⟩
      rcases hO b with z | ⟨ob, xs, z⟩
      · exact un.keep b o e z (by simp [frs]) (by simp)
      · have h1 := (hok b _ z).1
        rw [e] at h1
        cases h1
        exact (ok' b _ (un.frzs b _ _ z)).1
theorem law_callG (KX : K.In s1.heap) (hns : s1.heap.Ns mainGlobals mg) (hb : s1.heap.Ns builtinsNs mb) (hbb : ∀ x : Str, x ≠ "__name__" → mb x = bootBuiltins x) (hlim : s1.heap.NoLimit) (hg : s1.gens = #[])
    (ha : s1.heap.get? a = some { cls := .type "list", data := .seq vs.toArray }) (hi : IntsAre vs ns) (hl : ns.length ≤ sizeLine) (hr : Room k callerA) (F : ∀ base : Heap, K.In base → base.Ns mainGlobals mg → FnG P w K mg base k fa fd [x] sp) (hbind : ∀ (s : Shared) (u : Value), BindsTo s fd ⟨[u], []⟩ [(x, u)])
    (hsp : ∀ H : Hp, Only H → SqL K H a (ns.map V.int) → sp [.ref a] H (fun v _ => v = .bl true) fun _ _ _ => False) :
    codeAny (model P w) callerA (.call (.ref fa) ⟨[.ref a], []⟩) (fun r s' => r = .ok (.ret (.bool true)) ∧ OldK s1.heap s'.heap ∧ s'.os = s1.os ∧ AllBare s'.gens) s1 := by
  have rv := vals_ints hi
  have lenV := hi.length
  have R := fun (H : Hp) (hO : Only H) hS hok hA => run_law (H := H) KX hns hb hbb hlim hg ha hr F hbind hO (hsp H hO hS) hok hA
  by_cases hk : K.lookup a = none
  · have hH : ∀ b u, (if b = a then some (HO.frz { cls := .type "list", data := .seq vs.toArray } (.lst (ns.map V.int))) else none) = some u → b = a ∧ u = HO.frz { cls := .type "list", data := .seq vs.toArray } (.lst (ns.map V.int)) := fun b u z => by
      split at z
      · rename_i e
        cases z
        exact ⟨e, rfl⟩
      · cases z
    refine R (fun b => if b = a then some (.frz { cls := .type "list", data := .seq vs.toArray } (.lst (ns.map V.int))) else none) (fun b => ?_) (.inl (.inr ⟨_, if_pos rfl⟩)) (fun b u z => ?_) (fun b z => ?_)
    · by_cases e : b = a
      · exact .inr ⟨_, _, if_pos e⟩
      · exact .inl (if_neg e)
    · obtain ⟨rfl, rfl⟩ := hH b u z
      exact ⟨ha, by rw [List.length_map]; exact hl, vs, _, rv, ha⟩
    · by_cases e : b = a
      · exact ⟨e, hk⟩
      · exact absurd (if_neg e) z
  · obtain ⟨o, ho⟩ := Option.ne_none_iff_exists'.mp hk
    have e := KX a o ho
    rw [ha] at e
    cases e
    exact R (fun _ => none) (fun _ => .inl rfl) (.inr ⟨_, vs.toArray, _, ho, rfl, rfl, rfl, by rw [List.size_toArray, lenV]; exact hl, by simpa using rv⟩) (fun b u z => by cases z) (fun b z => absurd rfl z)
end
theorem law_endG {l : PySem.W.OpenLaw} {k : Nat} {q : Program} {loose : List Str} {XP : (Str → Option Value) → Heap → Prop} {YP : World → Heap → Prop} {d : DefRec} {K : Params → PySem.W.Frag} {x : Str} {m : MF}
    (hn : l.most = some 63) (hdf : d.params.defaults = []) (hr : Room k callerA) (hY : ∀ (w : World) (h : Heap), YP w h → (K w.params).In h) (hm : LawTrue m)
    (F : ∀ (w : World) (mg : Str → Option Value) (fa : Addr) (h : Heap), (K w.params).In h → h.Ns mainGlobals mg → mg d.name = some (.ref fa) →
      ∃ fd : FuncData, (∀ (s : Shared) (u : Value), BindsTo s fd ⟨[u], []⟩ [(x, u)]) ∧ ∀ base : Heap, (K w.params).In base → base.Ns mainGlobals mg → FnG l.prog w (K w.params) mg base k fa fd [x] (spM (K w.params) w mg m)) :
    PySem.W.WalkO q loose XP YP l.row.toRowW d [] (fun f vs => PySem.call f vs) := by
  refine Att.attach_callB hn hdf fun w s0 s1 mg mb fa o pm cd doc a vs ns G Y ho hd hcd hmg hobj hints hlen hbits hg => ?_
  have KX := hY w _ Y
  obtain ⟨fd, hb, hF⟩ := F w mg fa _ KX G.T.g hmg
  refine law_callG (sp := spLaw (K w.params)) KX G.T.g G.T.b G.T.builtins G.T.nolimit hg hobj hints (Nat.le_trans hlen (by decide)) hr (fun base k1 k2 => (hF base k1 k2).imp (law_imp hm)) hb fun H hO hS => ?_
  exact ⟨a, ns, rfl, hS, hO, hlen, hbits, fun _ => rfl⟩
end ML
/-! ML20: list(reversed(x)), x a list. -/
namespace ML
open PySem PySem.Spec PyProof.Rows
section
variable {prog : Program} {w : World} {A : Around} {E : Value → Shared → Prop} {s : Shared}
theorem rev_extend {R : Result → Shared → Prop} {it l : Addr} {items : Array Value} (hh : A.handled = none) (hit : s.heap.IsRevIter it l ((items.size : Int) - 1)) (hl : s.heap.IsList l items) (hne : l ≠ it) (hn : items.size ≤ sizeLine) (S : Addr) (hSi : S ≠ it) (hSl : S ≠ l) (res : Value) (c₀ : Nat) (hS : s.heap.get? S = some { cls := .type "list", data := .seq #[] c₀ })
    (hR : ∀ h' tk acc' c', (∀ b o, b ≠ S → b ≠ it → s.heap.get? b = some o → h'.get? b = some o) → h'.get? S = some { cls := .type "list", dict := none, data := .seq acc' c', slots := #[] } → ItemsOf (fun i v => items[items.size - 1 - i]? = some v) acc' items.size → R (.ok (.ret res)) { s with heap := h', toks := tk }) :
    wpAny (model prog w) A.in1 (Builtin.List.listExtendWith (.ref S) (.ref it) res)
      (fun fin s' => match fin with | .done f => R (.ok f) s' | .again c' => c'.quiet = true ∧ codeAny (model prog w) A c' R s') (fun e s' => R (.error e) s') s := by
  have W := (Walks.listRev (prog := prog) (w := w) (A := A.in1) hh it l hne items).toS
  have hSf : S ∉ [it, l] := by simp only [List.mem_cons, List.not_mem_nil, or_false, not_or]; exact ⟨hSi, hSl⟩
  have hT : s.TypeIs (.ref it) "list_reverseiterator" := Heap.IsRevIter.typeIs hit
  have h1 : Builtin.List.listSameRef (.ref S) (.ref it) = false := by simp [Builtin.List.listSameRef, hSi]
  unfold Builtin.List.listExtendWith
  refine wpAny_bind (wpAny_typeOf hT ?_)
  rw [if_neg (by rw [h1]; decide)]
  refine wpAny_bind (wpAny_pyIter_revIter hit ?_)
  refine wpAny_bind (wpAny_holding ?_)
  unfold Builtin.List.listLengthHint
  refine wpAny_bind (wpAny_specialOf hT RT.nolen_lri ?_)
  show wpAny _ A.in1 (specialOf (Value.ref it) (Str.ofString "__length_hint__") >>= _) _ _ _
  refine wpAny_bind (wpAny_specialOf hT RT.hint_lri ?_)
  generalize hid : ("list_reverseiterator.__length_hint__" : String) = id0
  wp_delta
  rw [show splitId id0 = some ("list_reverseiterator", "__length_hint__") from by subst hid; decide +kernel]
  subst hid
  refine wpAny_bind (wpAny_isInstance (b := true) hT (by rw [isSubtype_type]; kernel_rfl) ?_)
  refine wpAny_pure ?_
  rw [if_neg (by decide)]
  have e0 : ((items.size : Nat) : Int) - 1 - ((0 : Nat) : Int) = (items.size : Int) - 1 := by omega
  refine wpAny_pure ⟨plainId_quiet F.plain_extend_loop _, codeAny_extend_loopS W hn _ hSf _ items.size 0 _ _ _ rfl (Nat.zero_le _) ⟨Nat.zero_le _, by rw [e0]; exact hit, hl⟩ hS (ItemsOf.nil _) fun s' acc' c' hm hS' hacc => ?_⟩
  rw [Moved.eq_with hm]
  refine hR s'.heap s'.toks acc' c' (fun b o hb hb2 e => hm.heap b o (fun hmem => ?_) e) hS' hacc
  rcases List.mem_cons.mp hmem with e' | hmem
  · exact hb e'
  · exact hb2 (List.mem_singleton.mp hmem)
theorem rev_init {R : Result → Shared → Prop} {it l : Addr} {items : Array Value} (hh : A.handled = none) (hit : s.heap.IsRevIter it l ((items.size : Int) - 1)) (hl : s.heap.IsList l items) (hne : l ≠ it) (hn : items.size ≤ sizeLine) (S : Addr) (hSi : S ≠ it) (hSl : S ≠ l) (hS : s.heap.get? S = some { cls := .type "list", data := .seq #[] })
    (hR : ∀ h' tk acc' c', (∀ b o, b ≠ S → b ≠ it → s.heap.get? b = some o → h'.get? b = some o) → h'.get? S = some { cls := .type "list", dict := none, data := .seq acc' c', slots := #[] } → ItemsOf (fun i v => items[items.size - 1 - i]? = some v) acc' items.size → R (.ok (.ret .none)) { s with heap := h', toks := tk }) :
    wpAny (model prog w) A.in1 (Builtin.«list.__init__» ⟨[.ref S, .ref it], []⟩)
      (fun fin s' => match fin with | .done f => R (.ok f) s' | .again c' => c'.quiet = true ∧ codeAny (model prog w) A c' R s') (fun e s' => R (.error e) s') s := by
  show wpAny _ _ (do let old ← Builtin.List.listItems (.ref S); Builtin.List.listUpdate (.ref S) (fun _ => #[]); letGo old.toList.reverse; Builtin.List.listExtendWith (.ref S) (.ref it) .none) _ _ s
  refine wpAny_bind ?_
  unfold Builtin.List.listItems
  refine wpAny_bind (wpAny_seqItems hS rfl (wpAny_pure ?_))
  show wpAny _ _ (updateSeq S (fun _ => #[]) >>= fun _ => letGo (#[] : Array Value).toList.reverse >>= fun _ => Builtin.List.listExtendWith (.ref S) (.ref it) .none) _ _ s
  refine wpAny_bind (wpAny_updateSeq hS rfl ?_)
  have hS₂ := Heap.get?_update_self (Obj.mapSeq (fun _ => (#[] : Array Value))) hS rfl
  have oth : ∀ b o, b ≠ S → s.heap.get? b = some o → (s.heap.update S (Obj.mapSeq (fun _ => (#[] : Array Value)))).get? b = some o :=
    fun b o hb e => (Heap.get?_update_other _ _ (Ne.symm hb)).trans e
  refine wpAny_bind (wpAny_letGo ?_)
  obtain ⟨oi, hoi, ci, di⟩ := id hit
  obtain ⟨ol, hol, cl⟩ := id hl
  refine rev_extend hh ⟨oi, oth _ _ hSi.symm hoi, ci, di⟩ ⟨ol, oth _ _ hSl.symm hol, cl⟩ hne hn S hSi hSl .none _ hS₂ fun h' tk acc' c' hk hS' hacc => ?_
  exact hR h' tk acc' c' (fun b o hb hb2 e => hk b o hb hb2 (oth b o hb e)) hS' hacc
theorem call_list_rev {Q : Value → Shared → Prop} {it l : Addr} {items : Array Value} (hh : A.handled = none) (hit : s.heap.IsRevIter it l ((items.size : Int) - 1)) (hl : s.heap.IsList l items) (hne : l ≠ it) (hn : items.size ≤ sizeLine)
    (hQ : ∀ h' tk acc' c', (∀ b o, b ≠ it → s.heap.get? b = some o → h'.get? b = some o) → h'.get? s.heap.objs.size = some { cls := .type "list", dict := none, data := .seq acc' c', slots := #[] } → ItemsOf (fun i v => items[items.size - 1 - i]? = some v) acc' items.size → Q (.ref s.heap.objs.size) { s with heap := h', toks := tk }) :
    wpAny (model prog w) A (call (.type "list") [.ref it]) Q E s := by
  refine callType_codes (Q₁ := fun obj s₁ => obj = .ref s.heap.objs.size ∧ s₁ = { s with heap := s.heap.push { cls := .type "list", data := .seq #[] } }) PySem.F.called_list (PySem.F.typeCall_list_1 _) PySem.F.entry_list_init
    (code_list_new _ ⟨rfl, rfl⟩) fun obj s₁ h₁ => ?_
  obtain ⟨rfl, rfl⟩ := h₁
  have hS : (s.heap.push { cls := .type "list", data := .seq #[] }).get? s.heap.objs.size = some { cls := .type "list", data := .seq #[] } := Heap.get?_push_size _ rfl
  obtain ⟨oi, hoi, ci, di⟩ := id hit
  obtain ⟨ol, hol, cl⟩ := id hl
  refine ⟨⟨_, hS, rfl⟩, PySem.F.args_list_init_2 _ _, rev_init (A := A.in1) hh ⟨oi, Heap.get?_push_of_some _ hoi, ci, di⟩ ⟨ol, Heap.get?_push_of_some _ hol, cl⟩ hne hn _ (Nat.ne_of_gt (Heap.lt_size hoi)) (Nat.ne_of_gt (Heap.lt_size hol)) hS fun h' tk acc' c' hk hS' hacc => ?_⟩
  exact ⟨rfl, hQ h' tk acc' c' (fun b o hb e => hk b o (Nat.ne_of_lt (Heap.lt_size e)) hb (Heap.get?_push_of_some _ e)) hS' hacc⟩
end
end ML
namespace ML
open PySem PySem.Spec L2 PyProof.Rows
section
variable {X : Cx}
def tLstRev (K : PySem.W.Frag) (te : TE) : TE := fun σ H Q => te σ H fun v H1 => ∃ (a : Addr) (xs : List V), v = .ref a ∧ SqL K H1 a xs ∧ ∀ q, H1 q = none → Q (.ref q) (upd H1 q (.lst xs.reverse))
theorem pe_lstRev {e : Expr} {te : TE} {p p2 pos pos2 : Pos} (hc : X.calm = true) (hg : Gl X "list") (hm : X.mg "list" = none) (hg2 : Gl X "reversed") (hm2 : X.mg "reversed" = none) (he : PE X e te)
    (hs : starEach [e] X.env = (false, eval e X.env) :: starEach [] X.env := by rfl)
    (hs2 : starEach [.Call (.Name "reversed" p2) [e] [] pos2] X.env = (false, eval (.Call (.Name "reversed" p2) [e] [] pos2) X.env) :: starEach [] X.env := by rfl) :
    PE X (.Call (.Name "list" p) [.Call (.Name "reversed" p2) [e] [] pos2] [] pos) (tLstRev X.K te) := by
  refine ⟨fun pins s σ H Q I h => ?_⟩
  refine Call_ (ld_blt I hg hm (show bootBuiltins "list" = some (.type "list") from by decide +kernel) (PyProof.Rows.callWith_type1 (args_cons (Call_ (ld_blt I hg2 hm2 PyProof.Rows.boot_reversed (PyProof.Rows.callWith_type1 (args_cons (thn (he.run pins s σ H _ I h) fun u s1 ⟨v, H1, I1, r1, q1⟩ => args_nil ?_) hs) hs rfl))) hs2) hs2 rfl))
  obtain ⟨a, xs, ev, hq, q⟩ := q1
  subst ev
  obtain rfl : u = Value.ref a := r1
  obtain ⟨its, rv, p', hz⟩ := I1.list hq
  refine call_reversed_list p'.isList (args_nil ?_)
  have hl := p'.isList
  obtain ⟨ol, hol, _⟩ := id hl
  have hne : a ≠ s1.heap.objs.size := Nat.ne_of_lt (Heap.lt_size hol)
  have hn : its.toArray.size ≤ sizeLine := by rw [List.size_toArray, ← rv.length]; exact hz
  refine call_list_rev (s := { s1 with heap := s1.heap.push (revObj a ((its.toArray.size : Int) - 1)) }) (I1.ok.hd hc) ⟨_, Heap.get?_push_size _ rfl, rfl, rfl⟩ (hl.push _) hne hn fun h' tk acc c' hk hD hi => ?_
  have hk1 : ∀ b o, s1.heap.get? b = some o → h'.get? b = some o := fun b o e => hk b o (Nat.ne_of_lt (Heap.lt_size e)) (Heap.get?_push_of_some _ e)
  have hle : s1.heap.objs.size ≤ (s1.heap.push (revObj a ((its.toArray.size : Int) - 1))).objs.size := by
    rw [size_push']
    exact Nat.le_succ _
  refine ⟨.ref _, upd H1 _ (.lst xs.reverse), I1.laid (t' := tk) hk1 hle (show ObjOk X.prog X.w _ _ _ (.lst xs.reverse) from ⟨by rw [List.length_reverse]; exact hz, acc.toList, c', RT.vals_rev rv hi, ?_⟩), rfl, q _ (I1.hok.fresh hle)⟩
  rw [Array.toArray_toList]
  exact hD
end
section
variable {X : Cx} {W : WX} {a : Expr} {ma : MX} {pos pos2 p p2 : Pos}
def mLstRev (ma : MX) : MX := fun ρ st => (ma ρ st).bind fun x st1 => match itemsL x st1 with
  | some xs => .ok (.ref st1.length) (st1 ++ [.lst xs.reverse])
  | none => .bad
theorem me_lstRev (hm : X.mg "list" = none) (hm2 : X.mg "reversed" = none) (ha : PE X a (tE X W ma)) (hc : X.calm = true := by rfl) (hg : Gl X "list" := by rfl) (hg2 : Gl X "reversed" := by rfl) (hs : starEach [a] X.env = (false, eval a X.env) :: starEach [] X.env := by rfl)
    (hs2 : starEach [.Call (.Name "reversed" p2) [a] [] pos2] X.env = (false, eval (.Call (.Name "reversed" p2) [a] [] pos2) X.env) :: starEach [] X.env := by rfl) :
    PE X (.Call (.Name "list" p) [.Call (.Name "reversed" p2) [a] [] pos2] [] pos) (tE X W (mLstRev ma)) := (pe_lstRev hc hg hm hg2 hm2 ha hs hs2).imp fun σ H Q ⟨φ, ρ, st, rs, re, h⟩ => by
  refine ⟨φ, ρ, st, rs, re, h.seq fun φ1 d v H1 st1 e1 rs1 rv1 h1 => ?_⟩
  cases e : itemsL d st1 with
  | none => simp only [e] at h1; exact h1.elim
  | some xs =>
    simp only [e] at h1
    obtain ⟨pp, vs, q1, q2, q3⟩ := itemsL_ok rs1 rv1 e
    exact ⟨pp, vs, q1, q2, fun q hq => h1 _ _ _ (ext_alloc rs1 hq) (rs1.alloc hq q3.rev) (.newLst rs1)⟩
end
end ML
/-! ML21: dict(xs) of a list of pairs with unlike flat keys; defs that may ask for repr, called. -/
namespace ML
open PySem PySem.Spec L2 PyProof.Rows
/-! ### dict(pairs) -/
def pairA : A → Option (NestedKey × A)
  | .tup [.int i, v] => some (.num i, v)
  | .tup [.str x, v] => some (.text x, v)
  | _ => none
def pairsA : List A → Option (List (NestedKey × A))
  | [] => some []
  | x :: xs => match pairA x, pairsA xs with
    | some p, some ps => some (p :: ps)
    | _, _ => none
def dictPA : List A → Store → R A
  | [x], st => match itemsL x st with
    | some xs => match pairsA xs with
      | some kvs => if (kvs.map (·.1)).Nodup ∧ kvs.length ≤ sizeLine then .ok (.ref st.length) (st ++ [.oth (.dct kvs)]) else .bad
      | none => .bad
    | none => .bad
  | _, _ => .bad
section
variable {X : Cx}
def rDictP (K : PySem.W.Frag) : List V → Hp → VK → Prop := fun xs H Q => ∃ (a : Addr) (ps : List Addr) (kvs : List (Key × V)), xs = [.ref a] ∧ SqL K H a (ps.map V.ref) ∧ Paired (fun p kv => SqT K H p [kV kv.1, kv.2]) ps kvs ∧
    ∀ p, H p = none → Q (.ref p) (upd H p (.dK (mergeK [] kvs)))
theorem merge_nodup : ∀ (kvs acc : List (Key × V)), (kvs.map (·.1)).Nodup → (∀ p ∈ kvs, p.1 ∉ acc.map (·.1)) → mergeK acc kvs = acc ++ kvs
  | [], acc, _, _ => by simp [mergeK]
  | p :: kvs, acc, hn, hd => by
    rw [List.map_cons, List.nodup_cons] at hn
    have hp := hd p (by simp)
    have e : putK acc p.1 p.2 = acc ++ [p] := by
      unfold putK
      rw [if_neg]
      intro z
      rw [List.any_eq_true] at z
      obtain ⟨q, hq, e⟩ := z
      simp only [decide_eq_true_eq] at e
      exact hp (e ▸ List.mem_map.mpr ⟨q, hq, rfl⟩)
    have ih := merge_nodup kvs (acc ++ [p]) hn.2 fun q hq z => by
      rw [List.map_append, List.mem_append] at z
      rcases z with z | z
      · exact hd q (by simp [hq]) z
      · simp only [List.map_cons, List.map_nil, List.mem_singleton] at z
        exact hn.1 (z ▸ List.mem_map.mpr ⟨q, hq, rfl⟩)
    unfold mergeK at *
    rw [List.foldl_cons, e, ih]
    simp
theorem pairs_rv {φ : List Addr} {H : Hp} : ∀ {ws : List V} {xs : List A} {kvs : List (NestedKey × A)}, RVs X.K φ H ws xs → pairsA xs = some kvs → ∃ (ps : List Addr) (ks : List (Key × V)), ws = ps.map V.ref ∧ Paired (fun p kv => SqT X.K H p [kV kv.1, kv.2]) ps ks ∧ kvs.map (·.1) = ks.map (fun x => nk x.1) ∧ RVs X.K φ H (ks.map (·.2)) (kvs.map (·.2))
  | _, _, kvs, .nil, h => by
    cases h
    exact ⟨[], [], rfl, .nil, rfl, .nil⟩
  | _, _, kvs, .cons (d := d) r rs, h => by
    unfold pairsA at h
    split at h
    · rename_i p ps hp hps
      cases h
      obtain ⟨qs, ks, e1, e2, e3, e4⟩ := pairs_rv rs hps
      unfold pairA at hp
      split at hp
      · rename_i i v
        cases hp
        cases r with
        | tup q r2 =>
          cases r2 with
          | cons ra r3 =>
            cases ra
            cases r3 with
            | cons rb r4 =>
              cases r4
              exact ⟨_ :: qs, (.inl i, _) :: ks, by rw [e1]; rfl, .cons q.sq e2, by simp [nk, e3], .cons rb e4⟩
      · rename_i x v
        cases hp
        cases r with
        | tup q r2 =>
          cases r2 with
          | cons ra r3 =>
            cases ra
            cases r3 with
            | cons rb r4 =>
              cases r4
              exact ⟨_ :: qs, (.inr x, _) :: ks, by rw [e1]; rfl, .cons q.sq e2, by simp [nk, e3], .cons rb e4⟩
      · cases hp
    · cases h
theorem cs_dictP : CaS X (rDictP X.K) dictPA := fun W φ H st vs as Q rs rv h => by
  unfold dictPA at h
  split at h
  · rename_i x
    obtain ⟨v, rfl, r⟩ := one_rv rv
    split at h
    · rename_i xs hi
      split at h
      · rename_i kvs hk
        split at h
        · rename_i ok
          obtain ⟨p, ys, rfl, hs, r2⟩ := itemsL_ok rs r hi
          obtain ⟨ps, ks, rfl, e2, e3, e4⟩ := pairs_rv r2 hk
          refine ⟨p, ps, ks, rfl, hs, e2, fun q hq => ?_⟩
          have hn : (ks.map (·.1)).Nodup := by
            have := ok.1
            rw [e3] at this
            have e5 : ks.map (fun x => nk x.1) = (ks.map (·.1)).map nk := by rw [List.map_map]; rfl
            rw [e5] at this
            unfold List.Nodup at this ⊢
            rw [List.pairwise_map] at this
            exact this.imp fun {a b} h e => h (congrArg nk e)
          rw [merge_nodup ks [] hn (by simp), List.nil_append]
          exact h _ _ _ (ext_alloc rs hq) (rs.allocO hq (.inl ⟨ks, upd_same, e3, e4.ext (ext_alloc rs hq)⟩)) (.newLst rs)
        · exact (show False from h).elim
      · exact (show False from h).elim
    · exact (show False from h).elim
  · exact (show False from h).elim
end
/-! ### a def that may ask for repr -/
structure CalG (P : Program) (w : World) (K : PySem.W.Frag) (mg : Str → Option Value) (base : Heap) (x : Str) (k : Nat) (m : MF) : Prop where
  ex : ∃ (f : Addr) (fd : FuncData) (ps : List Str), mg x = some (.ref f) ∧ PySem.W.keepIn K (.ref f) = true ∧ Binds K fd ps [] ∧ FnG P w K mg base k f fd ps (spM K w mg m)
section
variable {P : Program} {w : World} {K : PySem.W.Frag} {mg : Str → Option Value} {base : Heap}
theorem calG_of {x : Str} {st : Stmt} {N ps : List Str} {k : Nat} {body : MS} (G : GF K mg x st ps) (S : FnScope N ps (defScope st))
    (hb : ∀ (f : Addr) (cdv : Value) (A : Around) (outer : List PySem.Env) (s : Shared) (H : Hp) (E : XK), A.guards = some [] → Room k (A.deeper (PyProof.Rows.envOfC x (defScope st) s.heap.objs.size f cdv)) →
      PSs (cxOf (L2.CX P w) P w K mg base N x (defScope st) f cdv A outer s H E) (defBody st) (tS (cxOf (L2.CX P w) P w K mg base N x (defScope st) f cdv A outer s H E) (fun c d _ H' => E c d H') body)) :
    CalG P w K mg base x (k + 1) (mFn N.length ps.length body) := by
  obtain ⟨f, fd, h1, F, b⟩ := G.ex
  exact ⟨f, fd, ps, h1, F.kp, b, fn_okG F S (hb f)⟩
end
section
variable {X : Cx} {W : WX} {e : Expr} {es : List Expr} {pos : Pos} {ms : MA}
theorem run_fnG {k : Nat} {f : Addr} {fd : FuncData} {ps : List Str} {sp : Sp} {E : L2.St → XK} {σ : L2.St} {pins : List (Addr × Obj)} {H : Hp} {s : Shared} {Q : VK} {us : List Value} {vs : List V} (F : FnG X.prog X.w X.K X.mg X.base k f fd ps sp) (hG : X.A.guards = some []) (hr : Room k X.A) (hb : Binds X.K fd ps []) (hx : PassesAt (L2.CX X.prog X.w) X σ (E σ)) (I : Inv X pins σ H s) (r : Vals vs us) (h : sp vs H Q (E σ)) :
    wpAny (model X.prog X.w) X.A (call (.ref f) us) (EP X pins σ Q) X.xe s := by
  have hl : us.length = ps.length := by rw [← r.length]; exact F.len _ _ _ _ h
  have hbd : BindsTo s fd ⟨us, []⟩ (ps.zip us) := by
    have := hb s us I.kIn (by simpa using hl)
    simpa using this
  refine wpAny_call (codeAny_mono (F.run X.A X.stack s H ⟨us, []⟩ us vs Q (E σ) hG hr I.env0 hbd r h) fun r s' hq => ?_)
  cases r with
  | error e => exact hx pins H s e s' I hq
  | ok fl =>
    cases fl with
    | ret u => exact I.after hq
    | next => exact False.elim hq
    | brk => exact False.elim hq
    | cont => exact False.elim hq
theorem me_callG {k : Nat} {m : MF} {x : Str} {p : Pos} (C : CalG X.prog X.w X.K X.mg X.base x k m) (hG : X.A.guards = some []) (hr : Room k X.A) (tk : Takes X W) (ha : PA X (e :: es) (tA X W ms)) (hg : Gl X x := by rfl)
    (hdb : (x == ("__debug__" : Str)) = false := by decide) (he : starEach (e :: es) X.env = (false, eval e X.env) :: starEach es X.env := by rfl) (hpl : (backTo pos (starEach es X.env)).any (·.1) = false := by rfl) :
    PE X (.Call (.Name x p) (e :: es) [] pos) (tE X W (mCall m ms)) := by
  obtain ⟨f, fd, ps, hm, hk, hb, F⟩ := C.ex
  refine ⟨fun pins s σ H Q I h => ?_⟩
  refine wpAny_Call_Name_kw (ld_glob I hg hm ?_ hdb)
  obtain ⟨φ, ρ, st, rs, re, h⟩ := h
  refine PySem.W.callWith_K (h₀ := X.base) I.ok.mod.kin hk (thn (ha.run pos pins s σ H (fun vs H1 => spM X.K X.w X.mg m vs H1 Q (WE W σ)) I ⟨φ, ρ, st, rs, re, h.seq fun φ1 ds vs H1 st1 e1 rs1 rv1 h1 => ⟨φ1, ds, st1, rs1, rv1, h1⟩⟩) fun us s1 ⟨vs, H1, I1, r, q⟩ => ⟨I1.kIn, ?_⟩) he hpl
  exact run_fnG (E := WE W) F hG hr hb (passAt tk σ) I1 r q
end
end ML
/-! ML22: x = [.. for k in d ..], set in one step. -/
namespace ML
open PySem PySem.Spec L2 PyProof.Rows
section
variable {X : Cx} {W : WX} {tg : Expr} {pos : Pos}
theorem ms_setLcD {i j : Nat} {y : Str} {py : Pos} {spos : Pos} {elt e : Expr} {ifs : List Expr} {scope : Scope} (own : List (Str × Nat)) {T : Tg} {tt : MT} {me : MX} (hN : X.N.Nodup) (hsw : swapsWith (.ListComp elt [⟨tg, e, ifs, 0⟩] scope pos) (some (.Name y py)) spos.line X.env = pure true) (hi : PE X e (tE X W (mVar j))) (ok : BlkOk X.N X.env.scope scope own)
    (hg : ∀ (s : Shared) (H : Hp) (C : Addr) (cl : List (Str × Addr)) (fp : List Addr), PG (X.blk s H scope (compEnvC scope cl C X.env) fp) tg (gOf X.K T)) (ht : ∀ (s : Shared) (H : Hp) (C : Addr) (cl : List (Str × Addr)) (fp : List Addr), PTs (X.blk s H scope (compEnvC scope cl C X.env) fp) ifs (tT (X.blk s H scope (compEnvC scope cl C X.env) fp) W0 tt))
    (he : ∀ (s : Shared) (H : Hp) (C : Addr) (cl : List (Str × Addr)) (fp : List Addr), PE (X.blk s H scope (compEnvC scope cl C X.env) fp) elt (tE (X.blk s H scope (compEnvC scope cl C X.env) fp) W0 me)) (hy : X.N[i]? = some y := by rfl) (hyl : X.env.scope.names.lookup y = some .local := by rfl) (hc : X.calm = true := by rfl) (hs : ∀ x, foldedSetIterable e X.env x = pure x := by intro _; rfl)
    (ho : ∀ i ∈ T.slots, i ∈ own.map (·.2) := by decide) : PS X (.Assign [.Name y py] (.ListComp elt [⟨tg, e, ifs, 0⟩] scope pos) spos) (tS X W (mSet i (mLcD j T (own.map (·.2)) tt me))) := (ps_lock (ms_setLc own hN hsw (mi_keysF hi) ok hg ht he hy hyl hc hs ho)).imp fun D σ H ⟨φ, ρ, st, rs, re, h⟩ => by
  unfold mSet mLcD at h
  cases q : ρ[j]? with
  | none => simp only [q] at h; exact h.elim
  | some o =>
    cases o with
    | none => simp only [q] at h; exact h.elim
    | some a =>
      cases a with
      | ref r =>
        simp only [q] at h
        cases e1 : stD st r with
        | none => simp only [e1] at h; exact h.elim
        | some kvs =>
          simp only [e1] at h
          split at h
          · rename_i hf
            obtain ⟨v, hv1, hv2⟩ := re.all j _ q
            cases hv2 with
            | @ref p _ qp =>
              obtain ⟨ks, g1, g2, g3⟩ := flat_dk hf (rs.dct qp e1)
              have hm : p ∈ φ := List.mem_of_getElem? qp
              have hn : ∀ od u, H p ≠ some (.frz od u) := fun od u z => by rw [g1] at z; cases z
              refine ⟨p, .dK ks, g1, True.intro, fun od => ?_⟩
              have ex : Ext φ H φ (upd H p (.frz od (.dK ks))) := ext_write qp hn
              refine ⟨φ, ρ, st.set r (.oth (.frd kvs)), rs.writeO qp (stD_eq e1) hn ⟨od, ks, upd_same, g2, g3.ext ex⟩, re.ext ex, ?_⟩
              cases q2 : mLc (mKeysF j) T (own.map (·.2)) tt me ρ (st.set r (.oth (.frd kvs))) with
              | ok u st1 =>
                rw [q2] at h
                have e9 : mSet i (mLc (mKeysF j) T (own.map (·.2)) tt me) ρ (st.set r (.oth (.frd kvs))) = .nx (ρ.set i (some u)) st1 := by
                  unfold mSet
                  rw [q2]
                  rfl
                rw [e9]
                unfold unlockX at h
                simp only at h
                cases q3 : unF r st1 with
                | none => rw [q3] at h; exact h.elim
                | some st2 =>
                  rw [q3] at h
                  intro φ1 σ1 H1 ex1 rs1 re1
                  have hz := ex1.fz _ _ _ (upd_same (H := H) (a := p))
                  have hp1 := ex1.get qp
                  exact ⟨hz, h φ1 σ1 _ (ex1.unlock hm g1) (rs1.unlock hp1 hz q3) (re1.up (List.mem_of_getElem? hp1))⟩
              | er x st1 => rw [q2] at h; exact h.elim
              | bad => rw [q2] at h; exact h.elim
          · exact h.elim
      | _ => simp only [q] at h; exact h.elim
end
end ML
/-! ML23: d.pop(k), k there, flat keys. -/
namespace ML
open PySem PySem.Spec L2 PyProof.Rows
def dropD (kvs : List (NestedKey × A)) (k : NestedKey) : List (NestedKey × A) := kvs.filter fun kv => decide (kv.1 ≠ k)
def mDPop1 (mo mi : MX) : MX := fun ρ st => (mo ρ st).bind fun d st1 => match d with
  | .ref r => match stD st1 r with
    | some kvs1 => if flatD kvs1 = true then (mi ρ st1).bind fun b st2 => match stD st2 r, keyOf b with
      | some kvs, some k => if flatD kvs = true ∧ fitD kvs k = true ∧ tupK k = false then match atD kvs k with
        | some v => .ok v (st2.set r (.oth (.dct (dropD kvs k))))
        | none => .bad
        else .bad
      | _, _ => .bad
      else .bad
    | none => .bad
  | _ => .bad
section
variable {X : Cx}
theorem drop_k {φ : List Addr} {H : Hp} {k : Key} : ∀ {ks : List (Key × V)} {kvs : List (NestedKey × A)}, kvs.map (·.1) = ks.map (fun x => nk x.1) → RVs X.K φ H (ks.map (·.2)) (kvs.map (·.2)) → (dropD kvs (nk k)).map (·.1) = (dropK ks k).map (fun x => nk x.1) ∧ RVs X.K φ H ((dropK ks k).map (·.2)) ((dropD kvs (nk k)).map (·.2))
  | [], [], _, _ => ⟨rfl, .nil⟩
  | [], _ :: _, h, _ => by simp at h
  | _ :: _, [], h, _ => by simp at h
  | p :: ks, q :: kvs, h, r => by
    simp only [List.map_cons, List.cons.injEq] at h
    cases r with
    | cons r1 r2 =>
      obtain ⟨i1, i2⟩ := drop_k (k := k) h.2 r2
      unfold dropD dropK at *
      by_cases e : p.1 = k
      · have e' : q.1 = nk k := by rw [h.1, e]
        simp only [ne_eq] at i1 i2
        simp only [List.filter_cons, e, e', ne_eq, not_true_eq_false, decide_false, Bool.false_eq_true, if_false]
        exact ⟨i1, i2⟩
      · have e' : ¬ q.1 = nk k := by rw [h.1]; exact fun z => e (nk_inj z)
        simp only [ne_eq] at i1 i2
        simp only [List.filter_cons, e, e', ne_eq, not_false_eq_true, decide_true, if_true, List.map_cons]
        exact ⟨by rw [i1, h.1], .cons r1 i2⟩
theorem me_dpop1 {o e : Expr} {apos cpos : Pos} {mo mi : MX} {W : WX} (ho : PE X o (tE X W mo)) (he : PE X e (tE X W mi)) (m : M1 X o "pop" apos e cpos) : PE X (.Call (.Attribute o "pop" apos) [e] [] cpos) (tE X W (mDPop1 mo mi)) := (pe_dpop1 ho he m).imp fun σ H Q ⟨φ, ρ, st, rs, re, h⟩ => by
  refine ⟨φ, ρ, st, rs, re, h.seq fun φ1 d x H1 st1 e1 rs1 rv1 h1 => ?_⟩
  cases rv1 with
  | @ref p r qp =>
    simp only at h1
    cases hs1 : stD st1 r with
    | none => rw [hs1] at h1; exact h1.elim
    | some kvs1 =>
      rw [hs1] at h1
      simp only at h1
      split at h1
      · rename_i hf1
        obtain ⟨ks1, g1, _, _⟩ := flat_dk hf1 (rs1.dct qp hs1)
        refine ⟨p, rfl, .inl ⟨ks1, .inl g1⟩, φ1, ρ, st1, rs1, re.ext e1, h1.seq fun φ2 b y H2 st2 e2 rs2 rv2 h2 => ?_⟩
        cases hs2 : stD st2 r with
        | none => rw [hs2] at h2; exact h2.elim
        | some kvs =>
          rw [hs2] at h2
          cases hk : keyOf b with
          | none => rw [hk] at h2; exact h2.elim
          | some k =>
            rw [hk] at h2
            simp only at h2
            split at h2
            · rename_i ok
              cases hv : atD kvs k with
              | none => rw [hv] at h2; exact h2.elim
              | some v =>
                rw [hv] at h2
                simp only at h2
                have qp2 := e2.get qp
                obtain ⟨ks, g1, g2, g3⟩ := flat_dk ok.1 (rs2.dct qp2 hs2)
                obtain ⟨κ, rfl, ey⟩ : ∃ κ : Key, k = nk κ ∧ y = kV κ := by
                  cases rv2 with
                  | int i => cases hk; exact ⟨.inl i, rfl, rfl⟩
                  | str x => cases hk; exact ⟨.inr x, rfl, rfl⟩
                  | non =>
                    cases hk
                    have := fit_depth ok.2.1
                    exact absurd rfl this.2.1
                  | tup _ _ =>
                    exfalso
                    unfold keyOf at hk
                    split at hk
                    · cases hk
                      have := ok.2.2
                      cases this
                    · cases hk
                  | bl _ => cases hk
                  | scr _ _ => cases hk
                  | ref _ => cases hk
                subst ey
                have hr := val_k (k := κ) g2 g3
                rw [hv] at hr
                cases hvv : valV ks κ with
                | none => rw [hvv] at hr; exact hr.elim
                | some u =>
                  rw [hvv] at hr
                  have hn : ∀ od u, H2 p ≠ some (.frz od u) := fun od u z => by rw [g1] at z; cases z
                  have ex : Ext φ2 H2 φ2 (upd H2 p (.dK (dropK ks κ))) := ext_write qp2 hn
                  obtain ⟨d1, d2⟩ := drop_k (k := κ) g2 g3
                  refine ⟨ks, κ, u, g1, rfl, hvv, ?_⟩
                  exact h2 φ2 _ _ ex (rs2.writeO qp2 (stD_eq hs2) hn (.inl ⟨dropK ks κ, upd_same, d1, d2.ext ex⟩)) (RV.ext ex hr)
            · exact h2.elim
      · exact h1.elim
  | _ => exact h1.elim
end
end ML

/-! < and > of tuples: where the first items are unlike ints these decide; else tuples of one shape are compared place by place -/
namespace PySem.SeqAt
open AutoSeq1 (wpAny_loadPart')
open MeetsSeq MeetsSeq2 MeetsSeq3 SeqRoads2
/-- the first items differ: they decide -/
theorem tuple_lt_first (l b : Addr) (items items2 : Array Value) (n n2 : Nat) (dd dd2 : Option Addr) (sl sl2 : Array (Option Value)) (y x : Value) (ys xs : List Value) (k : Bool) (e1 : items.toList = y :: ys) (e2 : items2.toList = x :: xs) :
    Meets (Builtin.«tuple.__lt__» ⟨[.ref l, .ref b], []⟩)
      (fun A R s => s.heap.get? l = some { cls := .type "tuple", dict := dd, data := .seq items n, slots := sl } ∧ s.heap.get? b = some { cls := .type "tuple", dict := dd2, data := .seq items2 n2, slots := sl2 } ∧
        EqAt A.in1 s y x false ∧ RcLt A.in1 s y x k ∧ R (.ok (.ret (.bool k))) s) :=
  .of_wp fun prog w A R s h => by
    obtain ⟨hp, g, d, tk, os⟩ := s
    obtain ⟨hl, hb, he, hr, h⟩ := h
    have f2 := AutoSeq1.sub_tuple_tuple
    wp_walk using wpAny_loadPart' hl, wpAny_loadPart' hb, wpAny_forIn_list _ (fun rest c s' => c.1 = none ∧ s' = ⟨hp, g, d, tk, os⟩ ∧ rest = items.toList.zip items2.toList) _
    case turn =>
      rintro ⟨p, q⟩ rest c s' ⟨hc, rfl, hz⟩
      rw [e1, e2, List.zip_cons_cons] at hz
      injection hz with hyx hrest
      injection hyx with hy hx
      subst hy hx
      refine wpAny_bind (he prog w _ _ ?_)
      have hr' : ∀ (E : Value → Shared → Prop) (Q : Value → Shared → Prop), Q (.bool k) ⟨hp, g, d, tk, os⟩ → wpAny (model prog w) A.in1 (richCompare .Lt p q) Q E ⟨hp, g, d, tk, os⟩ := hr prog w
      clear hr
      generalize richCompare CmpOp.Lt p q = G at hr' ⊢
      wp_walk
      refine hr' _ _ ?_
      wp_walk
      exact ⟨_, rfl, h⟩
    case fin =>
      rintro ⟨b1, b2⟩ s' ⟨hc, rfl, hz⟩
      rw [e1, e2, List.zip_cons_cons] at hz
      cases hz
    case h =>
      exact ⟨rfl, rfl, rfl⟩
/-- the first items differ: they decide -/
theorem tuple_gt_first (l b : Addr) (items items2 : Array Value) (n n2 : Nat) (dd dd2 : Option Addr) (sl sl2 : Array (Option Value)) (y x : Value) (ys xs : List Value) (k : Bool) (e1 : items.toList = y :: ys) (e2 : items2.toList = x :: xs) :
    Meets (Builtin.«tuple.__gt__» ⟨[.ref l, .ref b], []⟩)
      (fun A R s => s.heap.get? l = some { cls := .type "tuple", dict := dd, data := .seq items n, slots := sl } ∧ s.heap.get? b = some { cls := .type "tuple", dict := dd2, data := .seq items2 n2, slots := sl2 } ∧
        EqAt A.in1 s y x false ∧ PySem.SeqAt.RcOp .Gt A.in1 s y x k ∧ R (.ok (.ret (.bool k))) s) :=
  .of_wp fun prog w A R s h => by
    obtain ⟨hp, g, d, tk, os⟩ := s
    obtain ⟨hl, hb, he, hr, h⟩ := h
    have f2 := AutoSeq1.sub_tuple_tuple
    wp_walk using wpAny_loadPart' hl, wpAny_loadPart' hb, wpAny_forIn_list _ (fun rest c s' => c.1 = none ∧ s' = ⟨hp, g, d, tk, os⟩ ∧ rest = items.toList.zip items2.toList) _
    case turn =>
      rintro ⟨p, q⟩ rest c s' ⟨hc, rfl, hz⟩
      rw [e1, e2, List.zip_cons_cons] at hz
      injection hz with hyx hrest
      injection hyx with hy hx
      subst hy hx
      refine wpAny_bind (he prog w _ _ ?_)
      have hr' : ∀ (E : Value → Shared → Prop) (Q : Value → Shared → Prop), Q (.bool k) ⟨hp, g, d, tk, os⟩ → wpAny (model prog w) A.in1 (richCompare .Gt p q) Q E ⟨hp, g, d, tk, os⟩ := hr prog w
      clear hr
      generalize richCompare CmpOp.Gt p q = G at hr' ⊢
      wp_walk
      refine hr' _ _ ?_
      wp_walk
      exact ⟨_, rfl, h⟩
    case fin =>
      rintro ⟨b1, b2⟩ s' ⟨hc, rfl, hz⟩
      rw [e1, e2, List.zip_cons_cons] at hz
      cases hz
    case h =>
      exact ⟨rfl, rfl, rfl⟩

theorem rc_first_lt {A : Around} {s : Shared} {l b : Addr} {items items2 : Array Value} {y x : Value} {ys xs : List Value} {k : Bool} (hl : s.heap.IsTuple l items) (hb : s.heap.IsTuple b items2) (hu : A.units < cLine) (e1 : items.toList = y :: ys) (e2 : items2.toList = x :: xs) (he : EqAt A.in1 s y x false) (hr : RcLt A.in1 s y x k) : RcLt A s (.ref l) (.ref b) k := fun prog w E Q h => by
  obtain ⟨⟨cls, dd, data, sl⟩, ho, hc, n, hd⟩ := id hl
  obtain ⟨⟨cls2, dd2, data2, sl2⟩, ho2, hc2, n2, hd2⟩ := id hb
  simp only at hc hd hc2 hd2
  subst hc hd hc2 hd2
  exact richCompare_meets_room (op := .Lt) ⟨_, ho, rfl⟩ ⟨_, ho2, rfl⟩ F.slot_tuple_lt F.entry_tuple_lt (F.args_tuple_lt_2 _ _) (tuple_lt_first l b items items2 n n2 dd dd2 sl sl2 y x ys xs k e1 e2)
    ⟨ho, ho2, he, hr, show Value.bool k ≠ Value.notImplemented ∧ Q (.bool k) s from ⟨(fun x => nomatch x), h⟩⟩ hu

theorem rc_first_gt {A : Around} {s : Shared} {l b : Addr} {items items2 : Array Value} {y x : Value} {ys xs : List Value} {k : Bool} (hl : s.heap.IsTuple l items) (hb : s.heap.IsTuple b items2) (hu : A.units < cLine) (e1 : items.toList = y :: ys) (e2 : items2.toList = x :: xs) (he : EqAt A.in1 s y x false) (hr : PySem.SeqAt.RcOp .Gt A.in1 s y x k) : PySem.SeqAt.RcOp .Gt A s (.ref l) (.ref b) k := fun prog w E Q h => by
  obtain ⟨⟨cls, dd, data, sl⟩, ho, hc, n, hd⟩ := id hl
  obtain ⟨⟨cls2, dd2, data2, sl2⟩, ho2, hc2, n2, hd2⟩ := id hb
  simp only at hc hd hc2 hd2
  subst hc hd hc2 hd2
  exact richCompare_meets_room (op := .Gt) ⟨_, ho, rfl⟩ ⟨_, ho2, rfl⟩ F.slot_tuple_gt F.entry_tuple_gt (F.args_tuple_gt_2 _ _) (tuple_gt_first l b items items2 n n2 dd dd2 sl sl2 y x ys xs k e1 e2)
    ⟨ho, ho2, he, hr, show Value.bool k ≠ Value.notImplemented ∧ Q (.bool k) s from ⟨(fun x => nomatch x), h⟩⟩ hu
end PySem.SeqAt
namespace ML
open PySem L2
def rTup (f : Int → Int → Bool) (g : PyData → PyData → Bool) (K : PySem.W.Frag) : R2 := fun x y H Q => (∃ p q xs ys i j, x = .ref p ∧ y = .ref q ∧ SqT K H p (.int i :: xs) ∧ SqT K H q (.int j :: ys) ∧ i ≠ j ∧ Q (.bl (f i j)) H) ∨
  ∃ d e, Dp K H x d ∧ Dp K H y e ∧ PySem.W.alike d e = true ∧ d ≠ .none ∧ d.depth ≤ 60 ∧ Q (.bl (g d e)) H
section
variable {X : Cx}
theorem op_tup {op : CmpOp} {f : Int → Int → Bool} {g : PyData → PyData → Bool} (hu : X.A.units + 64 < cLine) (hc : ∀ v u, compareOp op v u = richCompare op v u)
    (h1 : ∀ {A : Around} {s : Shared} {l b : Addr} {items items2 : Array Value} {y x : Value} {ys xs : List Value} {k : Bool} (_ : s.heap.IsTuple l items) (_ : s.heap.IsTuple b items2) (_ : A.units < cLine) (_ : items.toList = y :: ys) (_ : items2.toList = x :: xs) (_ : PySem.SeqAt.EqAt A.in1 s y x false) (_ : PySem.SeqAt.RcOp op A.in1 s y x k), PySem.SeqAt.RcOp op A s (.ref l) (.ref b) k)
    (h2 : ∀ (da db : PyData) (A : Around) (s : Shared) (a b : Value) (as bs : List Addr), Reads s.heap a da as → Reads s.heap b db bs → PySem.W.alike da db = true → da ≠ .none → A.units + min da.depth db.depth < cLine → PySem.SeqAt.RcOp op A s a b (g da db))
    (h3 : ∀ (A : Around) (s : Shared) (i j : Int) (t u : Tok), A.units + 1 < cLine → PySem.SeqAt.RcOp op A s (.int i t) (.int j u) (f i j)) : OpR X (compareOp op) (rTup f g X.K) := by
  intro pins s σ H x y v u Q I rx ry h
  rw [hc]
  rcases h with ⟨p, q, xs, ys, i, j, rfl, rfl, s1, s2, hn, k⟩ | ⟨d, e, hd, he, ha, hn, hz, k⟩
  · cases rx
    cases ry
    obtain ⟨its, r1, t1, _⟩ := I.tuple s1
    obtain ⟨its2, r2, t2, _⟩ := I.tuple s2
    cases r1 with
    | cons a1 b1 =>
      cases r2 with
      | cons a2 b2 =>
        obtain ⟨t, rfl⟩ := a1
        obtain ⟨t', rfl⟩ := a2
        have e := PySem.SeqAt.EqAt.int_int (A := X.A.in1) (s := s) i t j t'
        rw [show (i == j) = false by simpa using hn] at e
        have hv : X.A.in1.units + 1 < cLine := by
          show X.A.units + 1 + 1 < _
          omega
        have R1 := h1 (A := X.A) (s := s) t1 t2 (by omega) (List.toList_toArray) (List.toList_toArray) e (h3 _ _ i j t t' hv)
        refine R1 _ _ _ _ ?_
        exact ⟨.bl _, H, I, rfl, k⟩
  · obtain ⟨as, r1⟩ := Dp.reads I d x v hd rx
    obtain ⟨bs, r2⟩ := Dp.reads I e y u he ry
    refine h2 d e X.A s _ _ as bs r1 r2 ha hn (by omega) _ _ _ _ ?_
    exact ⟨.bl _, H, I, rfl, k⟩
abbrev rLtT (K : PySem.W.Frag) : R2 := fun x y H Q => rLtU x y H Q ∨ rTup (fun i j => decide (i < j)) PySem.W.dataLt K x y H Q
abbrev rGtT (K : PySem.W.Frag) : R2 := fun x y H Q => rGtU x y H Q ∨ rTup (fun i j => decide (j < i)) (fun d e => PySem.W.dataLt e d) K x y H Q
theorem op_ltT (hu : X.A.units + 64 < cLine) : OpR X (compareOp .Lt) (rLtT X.K) := OpR.or op_ltU (op_tup hu (fun _ _ => rfl) (fun a b c d e f g => PySem.SeqAt.rc_first_lt a b c d e f g) (fun da db A s a b as bs x1 x2 x3 x4 x5 => PySem.W.rcLt_alike da db A s a b as bs x1 x2 x3 x4 x5) fun A s i j t u hz => PySem.W.dataLt_int i j ▸ PySem.W.rcLt_alike (.int i) (.int j) A s _ _ _ _ (.int i t) (.int j u) rfl (by simp) (by simp [PyData.depth]; omega))
theorem op_gtT (hu : X.A.units + 64 < cLine) : OpR X (compareOp .Gt) (rGtT X.K) := OpR.or op_gtU (op_tup hu (fun _ _ => rfl) (fun a b c d e f g => PySem.SeqAt.rc_first_gt a b c d e f g) (fun da db A s a b as bs x1 x2 x3 x4 x5 => PySem.W.rcGt_alike da db A s a b as bs x1 x2 x3 x4 x5) fun A s i j t u hz => PySem.W.dataLt_int j i ▸ PySem.W.rcGt_alike (.int i) (.int j) A s _ _ _ _ (.int i t) (.int j u) rfl (by simp) (by simp [PyData.depth]; omega))
end
def cmpTA (f : Int → Int → Bool) (g : PyData → PyData → Bool) (r : A → A → Store → R A) : A → A → Store → R A
  | .tup (.int i :: xs), .tup (.int j :: ys), st => if i = j then (match dataOf st (.tup (.int i :: xs)), dataOf st (.tup (.int j :: ys)) with
      | some d, some e => if PySem.W.alike d e = true ∧ 1 ≤ d.depth ∧ d.depth ≤ 60 then .ok (.bl (g d e)) st else .bad
      | _, _ => .bad) else .ok (.bl (f i j)) st
  | a, b, st => r a b st
def ltT : A → A → Store → R A := cmpTA (fun i j => decide (i < j)) PySem.W.dataLt ltA
def gtT : A → A → Store → R A := cmpTA (fun i j => decide (j < i)) (fun d e => PySem.W.dataLt e d) gtA
section
variable {X : Cx}
theorem os_tup {f : Int → Int → Bool} {g : PyData → PyData → Bool} {ro : R2} {r : A → A → Store → R A} (h0 : OpS X ro r) : OpS X (fun x y H Q => ro x y H Q ∨ rTup f g X.K x y H Q) (cmpTA f g r) := fun W φ H st x y a b Q rs ra rb h => by
  unfold cmpTA at h
  split at h
  · rename_i i xs j ys
    by_cases c : i = j
    · rw [if_pos c] at h
      cases e1 : dataOf st (.tup (.int i :: xs)) with
      | none => rw [e1] at h; exact h.elim
      | some d =>
        cases e2 : dataOf st (.tup (.int j :: ys)) with
        | none => rw [e1, e2] at h; exact h.elim
        | some e =>
          rw [e1, e2] at h
          simp only at h
          by_cases hs : PySem.W.alike d e = true ∧ 1 ≤ d.depth ∧ d.depth ≤ 60
          · rw [if_pos hs] at h
            exact .inr (.inr ⟨d, e, dataOf_ok rs ra e1, dataOf_ok rs rb e2, hs.1, (by rintro rfl; exact absurd hs.2.1 (by simp [PyData.depth])), hs.2.2, h.ok rs (.bl _)⟩)
          · rw [if_neg hs] at h
            exact h.elim
    · rw [if_neg c] at h
      cases ra with
      | tup q1 s1 =>
        cases rb with
        | tup q2 s2 =>
          cases s1 with
          | cons a1 b1 =>
            cases s2 with
            | cons a2 b2 =>
              cases a1
              cases a2
              exact .inr (.inl ⟨_, _, _, _, i, j, rfl, rfl, q1.sq, q2.sq, c, h.ok rs (.bl _)⟩)
  · exact .inl (h0 W φ H st x y _ _ Q rs ra rb h)
theorem os_ltT : OpS X (rLtT X.K) ltT := os_tup os_lt
theorem os_gtT : OpS X (rGtT X.K) gtT := os_tup os_gt
end
end ML
/-! ML24: <= of tuples. -/
namespace PySem.SeqAt
open AutoSeq1 (wpAny_loadPart')
open MeetsSeq MeetsSeq2 MeetsSeq3 SeqRoads2
/-- the first items differ: they decide -/
theorem tuple_le_first (l b : Addr) (items items2 : Array Value) (n n2 : Nat) (dd dd2 : Option Addr) (sl sl2 : Array (Option Value)) (y x : Value) (ys xs : List Value) (k : Bool) (e1 : items.toList = y :: ys) (e2 : items2.toList = x :: xs) :
    Meets (Builtin.«tuple.__le__» ⟨[.ref l, .ref b], []⟩)
      (fun A R s => s.heap.get? l = some { cls := .type "tuple", dict := dd, data := .seq items n, slots := sl } ∧ s.heap.get? b = some { cls := .type "tuple", dict := dd2, data := .seq items2 n2, slots := sl2 } ∧
        EqAt A.in1 s y x false ∧ PySem.SeqAt.RcOp .LtE A.in1 s y x k ∧ R (.ok (.ret (.bool k))) s) :=
  .of_wp fun prog w A R s h => by
    obtain ⟨hp, g, d, tk, os⟩ := s
    obtain ⟨hl, hb, he, hr, h⟩ := h
    have f2 := AutoSeq1.sub_tuple_tuple
    wp_walk using wpAny_loadPart' hl, wpAny_loadPart' hb, wpAny_forIn_list _ (fun rest c s' => c.1 = none ∧ s' = ⟨hp, g, d, tk, os⟩ ∧ rest = items.toList.zip items2.toList) _
    case turn =>
      rintro ⟨p, q⟩ rest c s' ⟨hc, rfl, hz⟩
      rw [e1, e2, List.zip_cons_cons] at hz
      injection hz with hyx hrest
      injection hyx with hy hx
      subst hy hx
      refine wpAny_bind (he prog w _ _ ?_)
      have hr' : ∀ (E : Value → Shared → Prop) (Q : Value → Shared → Prop), Q (.bool k) ⟨hp, g, d, tk, os⟩ → wpAny (model prog w) A.in1 (richCompare .LtE p q) Q E ⟨hp, g, d, tk, os⟩ := hr prog w
      clear hr
      generalize richCompare CmpOp.LtE p q = G at hr' ⊢
      wp_walk
      refine hr' _ _ ?_
      wp_walk
      exact ⟨_, rfl, h⟩
    case fin =>
      rintro ⟨b1, b2⟩ s' ⟨hc, rfl, hz⟩
      rw [e1, e2, List.zip_cons_cons] at hz
      cases hz
    case h =>
      exact ⟨rfl, rfl, rfl⟩

theorem rc_first_le {A : Around} {s : Shared} {l b : Addr} {items items2 : Array Value} {y x : Value} {ys xs : List Value} {k : Bool} (hl : s.heap.IsTuple l items) (hb : s.heap.IsTuple b items2) (hu : A.units < cLine) (e1 : items.toList = y :: ys) (e2 : items2.toList = x :: xs) (he : EqAt A.in1 s y x false) (hr : PySem.SeqAt.RcOp .LtE A.in1 s y x k) : PySem.SeqAt.RcOp .LtE A s (.ref l) (.ref b) k := fun prog w E Q h => by
  obtain ⟨⟨cls, dd, data, sl⟩, ho, hc, n, hd⟩ := id hl
  obtain ⟨⟨cls2, dd2, data2, sl2⟩, ho2, hc2, n2, hd2⟩ := id hb
  simp only at hc hd hc2 hd2
  subst hc hd hc2 hd2
  exact richCompare_meets_room (op := .LtE) ⟨_, ho, rfl⟩ ⟨_, ho2, rfl⟩ F.slot_tuple_le F.entry_tuple_le (F.args_tuple_le_2 _ _) (tuple_le_first l b items items2 n n2 dd dd2 sl sl2 y x ys xs k e1 e2)
    ⟨ho, ho2, he, hr, show Value.bool k ≠ Value.notImplemented ∧ Q (.bool k) s from ⟨(fun x => nomatch x), h⟩⟩ hu
end PySem.SeqAt
namespace ML
open PySem L2
section
variable {X : Cx}
theorem op_leT (hu : X.A.units + 64 < cLine) : OpR X (compareOp .LtE) (fun x y H Q => rI0 (fun i j => .bl (decide (i ≤ j))) x y H Q ∨ rTup (fun i j => decide (i ≤ j)) (fun d e => !PySem.W.dataLt e d) X.K x y H Q) := OpR.or op_le (op_tup hu (fun _ _ => rfl) (fun a b c d e f g => PySem.SeqAt.rc_first_le a b c d e f g) (fun da db A s a b as bs x1 x2 x3 x4 x5 => PySem.W.rcLe_alike da db A s a b as bs x1 x2 x3 x4 x5) fun A s i j t u hz => by
  have h := PySem.W.rcLe_alike (.int i) (.int j) A s _ _ _ _ (.int i t) (.int j u) rfl (by simp) (by simp [PyData.depth]; omega)
  rw [PySem.W.dataLt_int] at h
  have e : (!decide (j < i)) = decide (i ≤ j) := by
    by_cases c : i ≤ j
    · simp [c]
    · simp [c]; omega
  rw [e] at h
  exact h)
end
def leT : A → A → Store → R A := cmpTA (fun i j => decide (i ≤ j)) (fun d e => !PySem.W.dataLt e d) leA
section
variable {X : Cx}
theorem os_leT : OpS X (fun x y H Q => rI0 (fun i j => .bl (decide (i ≤ j))) x y H Q ∨ rTup (fun i j => decide (i ≤ j)) (fun d e => !PySem.W.dataLt e d) X.K x y H Q) leT := os_tup os_le
end
end ML
/-! ML25: list(range(..)). -/
namespace ML
open PySem PySem.Spec L2 PyProof.Rows
def lstRg (i j : Int) (st : Store) : R A := if (-1000000 ≤ i ∧ i ≤ 1000000) ∧ -1000000 ≤ j ∧ j ≤ 1000000 then .ok (.ref st.length) (st ++ [.lst (rgA i j)]) else .bad
def mLstRg1 (ma : MX) : MX := fun ρ st => (ma ρ st).bind fun x st1 => (getI x st1).bind fun n st2 => lstRg 0 n st2
def mLstRg2 (ma mb : MX) : MX := fun ρ st => (ma ρ st).bind fun x st1 => (getI x st1).bind fun i st2 => (mb ρ st2).bind fun y st3 => (getI y st3).bind fun j st4 => lstRg i j st4
section
variable {X : Cx} {W : WX} {a b : Expr} {ma mb : MX} {pos pos2 p p2 : Pos}
theorem lstRg_ok {K : PySem.W.Frag} {w : World} {mg : Str → Option Value} {W : WH} {φ : List Addr} {H : Hp} {st : Store} {i j : Int} {Q : VK} (rs : RS K w mg φ H st) (h : Pst K w mg (RV K) W φ H (lstRg i j st) Q) : RgOk i j ∧ ∀ q, H q = none → Q (.ref q) (upd H q (.lst (rgV i j))) := by
  unfold lstRg at h
  split at h
  · rename_i hz
    refine ⟨⟨by omega, by omega, by omega, by omega, by omega⟩, fun q hq => ?_⟩
    exact h _ _ _ (ext_alloc rs hq) (rs.alloc hq (rg_rv i j)) (.newLst rs)
  · exact h.elim
theorem me_lstRg1 (hm : X.mg "list" = none) (hm2 : X.mg "range" = none) (ha : PE X a (tE X W ma)) (hc : X.calm = true := by rfl) (hg : Gl X "list" := by rfl) (hg2 : Gl X "range" := by rfl) (hs : starEach [a] X.env = (false, eval a X.env) :: starEach [] X.env := by rfl)
    (hs2 : starEach [.Call (.Name "range" p2) [a] [] pos2] X.env = (false, eval (.Call (.Name "range" p2) [a] [] pos2) X.env) :: starEach [] X.env := by rfl) :
    PE X (.Call (.Name "list" p) [.Call (.Name "range" p2) [a] [] pos2] [] pos) (tE X W (mLstRg1 ma)) := (pe_listRg hc hg hm (prg_1 hg2 hm2 ha hs) hs2).imp fun σ H Q ⟨φ, ρ, st, rs, re, h⟩ => by
  refine ⟨φ, ρ, st, rs, re, h.seq fun φ1 d v H1 st1 e1 rs1 rv1 h1 => ?_⟩
  obtain ⟨n, hn, h2⟩ := getI_seq rv1 h1
  exact ⟨n, hn, lstRg_ok rs1 h2⟩
end
end ML
/-! ML26: sorted(d.items(), key=f); dict(t) of a tuple of pairs; {**a, **b}. -/
namespace ML
open PySem PySem.Spec L2 PyProof.Rows
section
open PySem.W
/-- sorted of a dict's view of its pairs is list.sort of a new list of new pairs -/
theorem sorted_view {prog : Program} {w : World} {A : Around} {E : Value → Shared → Prop} {s : Shared} {r d : Addr} {es : Array DictEntry} {ep : Nat} {kw : List (Str × Value)} {Q : Value → Shared → Prop} (hh : A.handled = none) (hv : s.heap.IsItemsView r d) (hm : s.heap.DictRaw d es ep) (hn : es.size ≤ sizeLine)
    (ha1 : argsOk "sorted" ⟨[.ref r], kw⟩) (ha2 : ∀ x, argsOk "list.sort" ⟨[.ref x], kw⟩)
    (body : ∀ (h0 h1 : Heap) (tk : Nat) (as : List Addr) (a : Addr) (E' : Value → Shared → Prop), (∀ b o, s.heap.get? b = some o → h0.get? b = some o) → as.length = es.size → DilG es s.heap.objs.size h0 as → (∀ b o, h0.get? b = some o → h1.get? b = some o) → h0.get? a = none →
      h1.get? a = some (seqObj "list" (as.map Value.ref).toArray 0) → wpAny (model prog w) A.in1.in1 (Builtin.«list.sort» ⟨[.ref a], kw⟩) (fun f s' => f = .done (.ret .none) ∧ Q (.ref a) s') E' { s with heap := h1, toks := tk }) :
    wpAny (model prog w) A (call (.builtin "sorted") [.ref r] kw) Q E s := by
  refine call_function_entry_kw kind_sorted plain_sorted entry_sorted (kw := kw) (args := [.ref r]) ha1 ?_
  unfold Builtin.«sorted»
  refine wpAny_bind (m := checkCount "sorted" 1 1 _) (wpAny_pure ?_)
  refine wpAny_bind (dil_collect (A := A.in1) (es := es) (ep := ep) hh hv hm hn fun h0 tk as k0 hl hG => ?_)
  refine wpAny_bind (wpAny_newList ?_ (by rw [List.length_map, hl]; exact hn))
  have here : (h0.push (seqObj "list" (as.map Value.ref).toArray 0)).get? h0.objs.size = some (seqObj "list" (as.map Value.ref).toArray 0) := Heap.get?_push_size _ rfl
  refine wpAny_bind (wpAny_holding (wpAny_call_entry_kw (s := { s with heap := h0.push (seqObj "list" (as.map Value.ref).toArray 0), toks := tk }) slot_list_sort ⟨_, here, rfl⟩ entry_list_sort
    (wpAny_mono (body h0 _ tk as _ _ k0 hl hG (fun b o e => Heap.get?_push_of_some _ e) (Heap.get?_none_of_le (Nat.le_refl _)) here) (fun f s' hf => ?_) fun _ _ e => e) (ha2 _)))
  obtain ⟨rfl, hq⟩ := hf
  exact ⟨_, rfl, wpAny_pure ⟨_, rfl, hq⟩⟩
end
section
variable {X : Cx} {pins : List (Addr × Obj)} {σ : L2.St} {H : Hp} {s : Shared} {φ : List Addr}
/-- d.items(), the keys ints and texts -/
def rItK : V → List V → Hp → VK → Prop := fun x xs H Q => ∃ (a : Addr) (ks : List (Key × V)), x = .ref a ∧ xs = [] ∧ H a = some (.dK ks) ∧ ∀ p, H p = none → Q (.ref p) (upd H p (L2.DX.itemsO p a))
theorem mt_itK : MtR X "dict.items" rItK := by
  intro pins s σ H x xs v us Q I rx rxs ⟨a, ks, ex, exs, ha, q⟩
  subst ex exs
  cases rx
  cases rxs
  obtain ⟨_, hm, vs, _, hd⟩ := dk_of I.hok ha
  obtain ⟨es, ep, hr, _⟩ := hd.raw
  refine DT.callItems (es := es) (ep := ep) hm hr ?_
  exact ⟨.ref s.heap.objs.size, _, I.laid (t' := s.toks) (fun b u e => Heap.get?_push_of_some _ e) (Nat.le_refl _) (L2.DX.itemsO_ok (Heap.get?_push_size _ rfl)), rfl, q _ (I.hok.fresh (Nat.le_refl _))⟩
/-- a pair of a key and its value -/
def entA (kv : NestedKey × A) : A := .tup [aOf kv.1, kv.2]
/-- new tuples are known from now on, frozen as they lie -/
theorem takeP {H0 : Hp} {h' : Heap} {tk : Nat} {P : Addr → List V → Prop} (I0 : Inv X pins σ H0 s) : ∀ (L : List Addr) (H1 : Hp), Inv X pins σ H1 { s with heap := h', toks := tk } → L.Nodup →
    (∀ a ∈ L, s.heap.objs.size ≤ a ∧ H1 a = none ∧ ∃ vs its, P a vs ∧ Vals vs its ∧ vs.length ≤ sizeLine ∧ h'.get? a = some { cls := .type "tuple", data := .seq its.toArray }) →
    ∃ H2, Inv X pins σ H2 { s with heap := h', toks := tk } ∧ (∀ b o, H1 b = some o → H2 b = some o) ∧ ∀ a ∈ L, ∃ vs, P a vs ∧ HPl H2 a vs
  | [], H1, I1, _, _ => ⟨H1, I1, fun _ _ e => e, fun _ h => by cases h⟩
  | a :: L, H1, I1, hn, h => by
    obtain ⟨hb, hnone, vs, its, hP, rv, hz, hg⟩ := h a List.mem_cons_self
    have I2 : Inv X pins σ (upd H1 a (.frz { cls := .type "tuple", data := .seq its.toArray } (.tup vs))) { s with heap := h', toks := tk } := I1.take (h' := h') (t' := tk) (fun b ob _ e => e) (I0.fpOk hb hnone) ⟨hg, hz, its, rv, ⟨_, hg, rfl, _, rfl⟩⟩
    rw [List.nodup_cons] at hn
    obtain ⟨H2, I3, g, q⟩ := takeP I0 L _ I2 hn.2 fun c hc => by
      obtain ⟨c1, c2, c3⟩ := h c (List.mem_cons_of_mem _ hc)
      exact ⟨c1, by rw [upd_ne (fun z => hn.1 (by rw [← z]; exact hc))]; exact c2, c3⟩
    refine ⟨H2, I3, fun b o e => g b o (by rw [upd_ne (ne_of_none e hnone)]; exact e), fun c hc => ?_⟩
    rcases List.mem_cons.mp hc with e | hc
    · rw [e]
      exact ⟨vs, hP, _, rfl, g _ _ upd_same⟩
    · exact q c hc
def rSortIt (X : Cx) (x : Str) (m : MF) (b : Bool) (rest : List V) : List V → List V → Hp → VK → Prop := fun vs zs H Q => ∃ (p a f : Addr) (ks : List (Key × V)) (kvs : List (NestedKey × A)) (φ : List Addr), vs = [V.ref p] ∧ zs = .ref f :: rest ∧ X.mg x = some (.ref f) ∧ H p = some (L2.DX.itemsO p a) ∧ H a = some (.dK ks) ∧
  kvs.map (·.1) = ks.map (fun z => nk z.1) ∧ RVs X.K φ H (ks.map (·.2)) (kvs.map (·.2)) ∧ (∀ b, H b = none → b ∉ φ) ∧ KeysOk m (kvs.map entA) ∧
  ∀ (H2 : Hp) (q : Addr) (ws : List V), (∀ b o, H b = some o → H2 b = some o) → H2 q = none → RVs X.K φ H2 ws (sortK m b (kvs.map entA)) → Q (.ref q) (upd H2 q (.lst ws))
theorem ext_sub {H2 : Hp} (e : ∀ b o, H b = some o → H2 b = some o) : Ext φ H φ H2 := ⟨⟨[], by simp⟩, fun a o n h => ⟨e a o h, n⟩, fun a o u h => e a _ h⟩
/-- the pairs, as data -/
theorem ent_rvs {H2 : Hp} (e : ∀ b o, H b = some o → H2 b = some o) (nf : ∀ b, H b = none → b ∉ φ) : ∀ {as : List Addr} {ks : List (Key × V)} {kvs : List (NestedKey × A)}, as.length = ks.length → kvs.map (·.1) = ks.map (fun z => nk z.1) → RVs X.K φ H (ks.map (·.2)) (kvs.map (·.2)) →
    (∀ (j : Nat) (a : Addr) (kv : Key × V), as[j]? = some a → ks[j]? = some kv → H a = none ∧ HPl H2 a [kV kv.1, kv.2]) → RVs X.K φ H2 (as.map V.ref) (kvs.map entA)
  | [], [], [], _, _, _, _ => .nil
  | a :: as, kv :: ks, q :: kvs, hl, hk, r, h => by
    simp only [List.map_cons, List.cons.injEq] at hk
    cases r with
    | cons r1 r2 =>
      obtain ⟨h1, h2⟩ := h 0 a kv rfl rfl
      refine .cons (.tup (.inl ⟨h2, nf _ h1⟩) (.cons ?_ (.cons (r1.ext (ext_sub e)) .nil))) (ent_rvs e nf (by simpa using hl) hk.2 r2 fun j a' kv' ha hkv => h (j + 1) a' kv' (by simpa using ha) (by simpa using hkv))
      rw [hk.1]
      exact rv_key _
  | [], [], _ :: _, _, hk, _, _ => by simp at hk
  | [], _ :: _, _, hl, _, _, _ => by simp at hl
  | _ :: _, [], _, hl, _, _, _ => by simp at hl
  | _ :: _, _ :: _, [], _, hk, _, _ => by simp at hk
theorem vals_refs : ∀ as : List Addr, Vals (as.map V.ref) (as.map Value.ref)
  | [] => .nil
  | _ :: as => .cons rfl (vals_refs as)
open PySem.W in
theorem sort_items {x : Str} {k : Nat} {m : MF} {b : Bool} {kw : List (Str × Value)} {rest : List V} {p a f : Addr} {Q : VK} {ks : List (Key × V)} {kvs : List (NestedKey × A)} (C : Cal X.prog X.w X.K X.mg X.base x k m) (hr : Room (k + 2) X.A) (I : Inv X pins σ H s) (hc : X.calm = true) (hx : X.mg x = some (.ref f))
    (hp : H p = some (L2.DX.itemsO p a)) (ha : H a = some (.dK ks)) (hk : kvs.map (·.1) = ks.map (fun z => nk z.1)) (rk : RVs X.K φ H (ks.map (·.2)) (kvs.map (·.2))) (nf : ∀ b, H b = none → b ∉ φ) (ok : KeysOk m (kvs.map entA))
    (ha1 : argsOk "sorted" ⟨[.ref p], kw⟩) (ha2 : ∀ x, argsOk "list.sort" ⟨[.ref x], kw⟩) (ht : ∀ x, Builtin.«list.sort» ⟨[.ref x], kw⟩ = ksk_tree x (.ref f) b)
    (q : ∀ (H2 : Hp) (q : Addr) (ws : List V), (∀ b o, H b = some o → H2 b = some o) → H2 q = none → RVs X.K φ H2 ws (sortK m b (kvs.map entA)) → Q (.ref q) (upd H2 q (.lst ws))) :
    wpAny (model X.prog X.w) X.A (call (.builtin "sorted") [.ref p] kw) (EP X pins σ Q) X.xe s := by
  obtain ⟨f', fd, ps, hf, hkp, hb, F⟩ := C.ex
  rw [hx] at hf
  cases hf
  have hr2 : Room k X.A.in1.in1 := Room.in1 (Room.in1 hr)
  have view : s.heap.IsItemsView p a := (show ObjOk X.prog X.w H s.heap p (L2.DX.itemsO p a) from I.hok p _ hp).1
  obtain ⟨hz, _, vs, rel, hd⟩ := dk_of I.hok ha
  obtain ⟨es, ep, hraw, hsz, hent⟩ := hd.raw
  have l1 : ks.length = vs.length := rel.length
  refine sorted_view (I.ok.hd hc) view hraw (by rw [hsz, ← l1]; exact hz) ha1 ha2 fun h0 h1 tk as c E' k0 hl hG k1 fresh here => ?_
  have I1 : Inv X pins σ H { s with heap := h0, toks := tk } := I.kept k0
  have lo : ∀ b ∈ as, s.heap.objs.size < b := hG.above
  have nodup : as.Nodup := List.Pairwise.imp (fun h => Nat.ne_of_lt h) hG.rise
  have nH : ∀ b ∈ as, H b = none := fun b hb => I.hok.fresh (Nat.le_of_lt (lo b hb))
  have pr : ∀ (j : Nat) (b : Addr), as[j]? = some b → ∃ kv, ks[j]? = some kv ∧ ∃ its, Vals [kV kv.1, kv.2] its ∧ h0.get? b = some { cls := .type "tuple", data := .seq its.toArray } := fun j b hj => by
    obtain ⟨hjl, hg⟩ := hG.pairs j b hj
    have hjv : j < vs.length := by omega
    have hjk : j < ks.length := by omega
    obtain ⟨g1, g2⟩ := hent j hjl vs[j].1 vs[j].2 (List.getElem?_eq_getElem hjv)
    obtain ⟨kv, hkv, e1, e2⟩ := L2.DX.pget rel (List.getElem?_eq_getElem hjv)
    refine ⟨kv, hkv, [es[j].key, es[j].val], .cons ?_ (.cons ?_ .nil), hg⟩
    · rw [e1]
      exact keyIs_rel g1
    · rw [g2]
      exact e2
  obtain ⟨H2, I2, g, hq⟩ := takeP (P := fun b vs => ∃ (j : Nat) (kv : Key × V), as[j]? = some b ∧ ks[j]? = some kv ∧ vs = [kV kv.1, kv.2]) I as H I1 nodup fun b hb => by
    obtain ⟨j, hj⟩ := List.mem_iff_getElem?.mp hb
    obtain ⟨kv, hkv, its, rv, hg⟩ := pr j b hj
    exact ⟨Nat.le_of_lt (lo b hb), nH b hb, _, its, ⟨j, kv, hj, hkv, rfl⟩, rv, by show 2 ≤ sizeLine; decide, hg⟩
  have rvs : RVs X.K φ H2 (as.map V.ref) (kvs.map entA) := ent_rvs g nf (by omega) hk rk fun j b kv hj hkv => by
    refine ⟨nH b (List.mem_of_getElem? hj), ?_⟩
    obtain ⟨us, ⟨j', kv', hj', hkv', rfl⟩, h2⟩ := hq b (List.mem_of_getElem? hj)
    have : j = j' := by
      obtain ⟨a1, b1⟩ := List.getElem?_eq_some_iff.mp hj
      obtain ⟨a2, b2⟩ := List.getElem?_eq_some_iff.mp hj'
      exact (List.getElem_inj nodup).mp (b1.trans b2.symm)
    subst this
    rw [hkv] at hkv'
    cases hkv'
    exact h2
  have hv : Vals (as.map V.ref) (as.map Value.ref) := vals_refs as
  exact sort_core (s := { s with heap := h0, toks := tk }) I2 hv rvs ok k1 fresh here (by have := hr2.un; omega) (ht c)
    (fun y u e d s' ry ru hd' hp' os' g' kq => quiet_call I2 F hb hr2 ry ru hd' hp' os' g' (hok_kq I2.hok kq I2.env0.frf) kq) fun q' ws hn hw => q H2 q' ws g hn hw
theorem cr_sortIt {x : Str} {k : Nat} {m : MF} (C : Cal X.prog X.w X.K X.mg X.base x k m) (hr : Room (k + 2) X.A) (hc : X.calm = true) : CallRK X (.builtin "sorted") [Str.ofString "key"] (rSortIt X x m false []) := by
  intro pins s σ H vs zs us ws Q I r rz ⟨p, a, f, ks, kvs, φ, e1, e2, hx, hp, ha, hk, rk, nf, ok, q⟩
  subst e1 e2
  obtain rfl := Vals.ref1 r
  obtain ⟨w1, rfl, e1⟩ := vals1 rz
  obtain rfl : w1 = Value.ref f := e1
  exact sort_items (rest := []) C hr I hc hx hp ha hk rk nf ok (ksk_s1 _ _) (fun _ => ksk_l1 _ _) (fun _ => ksk_t1 _ _) q
end
/-! ### the mirror of sorted(d.items(), key=f) -/
open Classical in
noncomputable def sortIA (m : MF) (b : Bool) (x : A) (st : Store) : R A := match x with
  | .ref r => match stD st r with
    | some kvs => if flatD kvs = true ∧ KeysOk m (kvs.map entA) then .ok (.ref st.length) (st ++ [.lst (sortK m b (kvs.map entA))]) else .bad
    | none => .bad
  | _ => .bad
noncomputable def mSortIt (m : MF) (b : Bool) (mo : MX) : MX := fun ρ st => (mo ρ st).bind fun d st1 => sortIA m b d st1
section
variable {X : Cx} {W : WX} {e : Expr} {mo : MX} {pos : Pos}
theorem me_sortIt {x : Str} {k : Nat} {m : MF} {p p2 kp apos cpos : Pos} (C : Cal X.prog X.w X.K X.mg X.base x k m) (hr : Room (k + 2) X.A) (hm : X.mg "sorted" = none) (ho : PE X e (tE X W mo)) (hc : X.calm = true := by rfl) (hg : Gl X "sorted" := by rfl) (hgx : Gl X x := by rfl) (hdx : (x == ("__debug__" : Str)) = false := by decide)
    (hbase : attributeBase e "items" X.env (eval e X.env) = eval e X.env := by rfl) (hline : (apos.endLine == cpos.line) = true := by rfl)
    (hs : starEach [.Call (.Attribute e "items" apos) [] [] cpos] X.env = (false, eval (.Call (.Attribute e "items" apos) [] [] cpos) X.env) :: starEach [] X.env := by rfl)
    (he : backTo pos (starEach [.Call (.Attribute e "items" apos) [] [] cpos] X.env) = (false, eval (.Call (.Attribute e "items" apos) [] [] cpos) X.env) :: backTo pos (starEach [] X.env) := by rfl) (hpl : (backTo pos (starEach [.Call (.Attribute e "items" apos) [] [] cpos] X.env)).any (·.1) = false := by rfl)
    (hall : (backToKw pos (keywordEach [⟨some "key", .Name x p2, kp⟩] X.env)).all (·.1.isSome) = true := by rfl) (hnone : (backToKw pos (keywordEach [⟨some "key", .Name x p2, kp⟩] X.env)).any (·.1.isNone) = false := by rfl) (hks : (backToKw pos (keywordEach [⟨some "key", .Name x p2, kp⟩] X.env)).filterMap (·.1) = [Str.ofString "key"] := by rfl) :
    PE X (.Call (.Name "sorted" p) [.Call (.Attribute e "items" apos) [] [] cpos] [⟨some "key", .Name x p2, kp⟩] pos) (tE X W (mSortIt m false mo)) := by
  obtain ⟨f, fd, ps, hf, _⟩ := C.ex
  have hit := pe_bm0 (X := X) (cpos := cpos) PySem.F.plainAttrs_dict PySem.F.slot_dict_items PySem.F.type_dict_items mt_itK ho hbase hline
  refine (pe_callBK (cr_sortIt C hr hc) hg hm (by decide +kernel) (pa_cons hit pa_nil hs) (pk_cons (pe_glob (v := V.ref f) hgx hf rfl hdx) pk_nil) (by decide) (by decide) he hpl hall hnone hks).imp fun σ H Q ⟨φ, ρ, st, rs, re, h⟩ => ?_
  refine ⟨φ, ρ, st, rs, re, h.seq fun φ1 d v H1 st1 e1 rs1 rv1 h1 => ?_⟩
  unfold sortIA at h1
  cases rv1 with
  | @ref a r q =>
    simp only at h1
    cases e2 : stD st1 r with
    | none => rw [e2] at h1; exact h1.elim
    | some kvs =>
      rw [e2] at h1
      simp only at h1
      split at h1
      · rename_i hf2
        obtain ⟨ks, g1, g2, g3⟩ := flat_dk hf2.1 (rs1.dct q e2)
        refine ⟨.inr (.inr (.inl ⟨rfl, .inl ⟨ks, g1⟩⟩)), a, ks, rfl, rfl, g1, fun p hp => ?_⟩
        have ne : a ≠ p := ne_of_none g1 hp
        refine ⟨p, a, f, ks, kvs, φ1, rfl, rfl, hf, upd_same, by rw [upd_ne ne]; exact g1, g2, g3.ext (ext_new hp), fun b hb => (rs1.new hp).notin hb, hf2.2, fun H2 q' ws g hn hw => ?_⟩
        have e3 : Ext φ1 H1 φ1 H2 := (ext_new hp).trans (ext_sub g)
        have rs2 : RS X.K X.w X.mg φ1 H2 st1 := (rs1.new hp).ext (ext_sub g) fun b hb => by
          cases z : upd H1 p (L2.DX.itemsO p a) b with
          | none => exact absurd hb ((rs1.new hp).notin z)
          | some o => exact g b o z
        exact h1 _ _ _ (e3.trans (ext_alloc rs2 hn)) (rs2.alloc hn hw) (.newLst rs2)
      · exact h1.elim
  | _ => exact (show False from h1).elim
end
end ML
/-! ML27: dict(t) of a tuple of pairs; displays {**a, **b}. -/
namespace ML
open PySem PySem.Spec L2 PyProof.Rows
/-! ### dict(t) -/
section
variable {X : Cx} {pins : List (Addr × Obj)} {σ : L2.St} {H : Hp} {s : Shared} {φ : List Addr}
theorem plain_tup (I : Inv X pins σ H s) {a : Addr} {xs : List V} (q : StT X.K φ H a xs) : ∃ (o : Obj) (its : List Value) (n : Nat), s.heap.get? a = some o ∧ o.cls = .type "tuple" ∧ o.dict = none ∧ o.data = .seq its.toArray n ∧ Vals xs its ∧ xs.length ≤ sizeLine := by
  rcases q with ⟨⟨o, hd, q⟩, _⟩ | ⟨o, its, n, h1, h2, h3, h4, h5, h6⟩
  · obtain ⟨g, z, its, r, o', ho', hc, n, hdat⟩ := (show ObjOk X.prog X.w H s.heap a (.frz o (.tup xs)) from I.hok a _ q)
    rw [g] at ho'
    cases ho'
    exact ⟨o, its, n, g, hc, hd, hdat, r, z⟩
  · refine ⟨o, its.toList, n, I.kIn _ _ h1, h2, h3, by rw [Array.toArray_toList]; exact h4, h6, ?_⟩
    rw [h6.length, Array.length_toList]
    exact h5
/-- what pairs hold -/
theorem pairs_ofV (I : Inv X pins σ H s) : ∀ {ps : List Addr} {kvs : List (Key × V)}, Paired (fun p kv => SqT X.K H p [kV kv.1, kv.2]) ps kvs →
    ∃ (prs : List (Key × Value)) (us : List (Value × Value)), KV kvs prs ∧ prs.length = ps.length ∧ us.length = ps.length ∧ ∀ (j : Nat) (k v : Value), us[j]? = some (k, v) → ∃ b κ, ps[j]? = some b ∧ prs[j]? = some (κ, v) ∧ IsTup s.heap b #[k, v] ∧ keyIs κ k = true
  | _, _, .nil => ⟨[], [], .nil, rfl, rfl, fun j k v e => by simp at e⟩
  | _, _, .cons (a := p) (b := kv) h t => by
    obtain ⟨prs, us, r, hl, hl2, hp⟩ := pairs_ofV I t
    obtain ⟨its, rv, ht, _⟩ := I.tuple h
    obtain ⟨u, y, rfl, ru, ry⟩ := vals2 rv
    refine ⟨(kv.1, y) :: prs, (u, y) :: us, .cons ⟨rfl, ry⟩ r, by simp [hl], by simp [hl2], fun j k v e => ?_⟩
    cases j with
    | zero =>
      cases e
      exact ⟨p, kv.1, rfl, rfl, ht, kV_is (P := X.prog) (w := X.w) ru⟩
    | succ j =>
      obtain ⟨b, κ, e1, e2, e3⟩ := hp j k v (by simpa using e)
      exact ⟨b, κ, by simpa using e1, by simpa using e2, e3⟩
def rDictT (K : PySem.W.Frag) : List V → Hp → VK → Prop := fun xs H Q => ∃ (φ : List Addr) (a : Addr) (ps : List Addr) (kvs : List (Key × V)), xs = [.ref a] ∧ StT K φ H a (ps.map V.ref) ∧ Paired (fun p kv => SqT K H p [kV kv.1, kv.2]) ps kvs ∧ ∀ p, H p = none → Q (.ref p) (upd H p (.dK (mergeK [] kvs)))
theorem call_dictT (hcalm : X.calm = true) : CallR X (.type "dict") (rDictT X.K) := by
  intro pins s σ H xs us Q I r ⟨φ, a, ps, kvs, ex, hq, hp, q⟩
  subst ex
  obtain ⟨u, rfl, rx⟩ := vals1 r
  cases rx
  obtain ⟨o, its, n, ho, hc, hd, hdat, rv, hz⟩ := plain_tup I hq
  have ei := refs_at rv
  subst ei
  rw [List.length_map] at hz
  obtain ⟨prs, us, rel, hl, hl2, hpr⟩ := pairs_ofV I hp
  refine PySem.call_dict_pairs (knd := mixKind X.prog X.w) (kvs := prs) (PySem.PairArg.tuple a (ps.map Value.ref).toArray (fun j => ps.getD j 0) us) (I.ok.hd hcalm) ⟨⟨o, n, ho, hc, hd, hdat⟩, by simp [hl2], fun j k v e => ?_⟩ ⟨by rw [hl, hl2], fun i key v e => ?_⟩ (by rw [hl2]; exact hz) fun h' tk hd' k => ?_
  · obtain ⟨b, κ, e1, e2, e3, e4⟩ := hpr j k v e
    refine ⟨by simp [e1], ?_⟩
    simp only [List.getD_eq_getElem?_getD, e1, Option.getD_some]
    exact .inl e3
  · obtain ⟨b, κ, e1, e2, e3, e4⟩ := hpr i key v e
    exact ⟨κ, e2, e4⟩
  · have hm : (s.heap.objs.size == sysModules) = false := beq_eq_false_iff_ne.mpr (Nat.ne_of_gt I.big)
    have hlen : (mergeK [] kvs).length ≤ sizeLine := by
      refine Nat.le_trans (length_mergeK kvs []) ?_
      rw [List.length_nil, Nat.zero_add, rel.length, hl]
      exact hz
    exact ⟨.ref s.heap.objs.size, _, I.laid (t' := tk) (o := .dK (mergeK [] kvs)) (fun b o e => k b o (by simp) e) (Nat.le_refl _) ⟨hlen, hm, _, KV.merge rel .nil, hd'⟩, rfl, q _ (I.hok.fresh (Nat.le_refl _))⟩
end
def dictTA : List A → Store → R A
  | [.tup xs], st => match pairsA xs with
    | some kvs => if (kvs.map (·.1)).Nodup ∧ kvs.length ≤ sizeLine then .ok (.ref st.length) (st ++ [.oth (.dct kvs)]) else .bad
    | none => .bad
  | _, _ => .bad
section
variable {X : Cx}
theorem nodup_keys {ks : List (Key × V)} {kvs : List (NestedKey × A)} (hn : (kvs.map (·.1)).Nodup) (e : kvs.map (·.1) = ks.map (fun x => nk x.1)) : (ks.map (·.1)).Nodup := by
  rw [e] at hn
  have e5 : ks.map (fun x => nk x.1) = (ks.map (·.1)).map nk := by rw [List.map_map]; rfl
  rw [e5] at hn
  unfold List.Nodup at hn ⊢
  rw [List.pairwise_map] at hn
  exact hn.imp fun {a b} h e => h (congrArg nk e)
theorem cs_dictT : CaS X (rDictT X.K) dictTA := fun W φ H st vs as Q rs rv h => by
  unfold dictTA at h
  split at h
  · rename_i xs
    obtain ⟨v, rfl, r⟩ := one_rv rv
    split at h
    · rename_i kvs hk
      split at h
      · rename_i ok
        cases r with
        | @tup p ys _ q r2 =>
          obtain ⟨ps, ks, rfl, e2, e3, e4⟩ := pairs_rv r2 hk
          refine ⟨φ, p, ps, ks, rfl, q, e2, fun q hq => ?_⟩
          rw [merge_nodup ks [] (nodup_keys ok.1 e3) (by simp), List.nil_append]
          exact h _ _ _ (ext_alloc rs hq) (rs.allocO hq (.inl ⟨ks, upd_same, e3, e4.ext (ext_alloc rs hq)⟩)) (.newLst rs)
      · exact (show False from h).elim
    · exact (show False from h).elim
  · exact (show False from h).elim
end
/-! ### {**a, **b} -/
section
variable {prog : Program} {w : World} {A : Around} {E : Value → Shared → Prop} {s : Shared}
theorem wp_dictPut {d : Addr} {kvs : List (Key × Value)} {k : Key} {key v : Value} {Q : Unit → Shared → Prop} (hkey : (mixKind prog w).is k key = true) (hm : s.heap.DictOf (mixKind prog w) d kvs) (hsz : kvs.length ≤ sizeLine)
    (hQ : ∀ h', h'.DictOf (mixKind prog w) d (stored kvs k v) → Heap.SameBut d s.heap h' → Q () { s with heap := h' }) : wpAny (model prog w) A (dictPut d ((mixKind prog w).hash k) key v) Q E s := by
  obtain ⟨o, es, ep, ho, hc, hd, hk, hp, hn⟩ := hm
  have hes : es.size ≤ sizeLine := by
    have e1 := hp.length
    rw [Array.length_toList] at e1
    omega
  unfold dictPut
  refine wpAny_bind (wpAny_dictFind_of hkey ho hd hk ?_)
  have hix : (es.findIdx? fun e => (mixKind prog w).is k e.key) = kvs.findIdx? fun kv => decide (kv.1 = k) := by
    rw [← hp.findIdx k]
    cases es
    simp
  cases hi : es.findIdx? fun e => (mixKind prog w).is k e.key with
  | some i =>
    have hl : (es.toList.findIdx? fun e => (mixKind prog w).is k e.key) = some i := by
      rw [← hi]
      cases es
      simp
    have hst : stored kvs k v = kvs.map (fun kv => if kv.1 = k then (kv.1, v) else kv) := by
      unfold stored
      rw [if_pos (any_of_findIdx_some (hix ▸ hi))]
    refine wpAny_updateDict ho hd (hQ _ ⟨_, _, ep, Heap.get?_update_self _ ho (Obj.isFreed_of_dict (Obj.data_mapDict hd _)), hc.mapDict _, Obj.data_mapDict hd _, hk.modify _ _, ?_, ?_⟩ (Heap.SameBut.update ..))
    · rw [hst]
      have q := hp.modify hn hl v
      cases es
      simpa using q
    · rw [hst, keys_map_store]
      exact hn
  | none =>
    have hnk : k ∉ kvs.map (·.1) := not_mem_of_findIdx_none (hix ▸ hi)
    have hst : stored kvs k v = kvs ++ [(k, v)] := by
      unfold stored
      rw [if_neg]
      intro z
      rw [List.any_eq_true] at z
      obtain ⟨kv, hkv, e⟩ := z
      exact hnk (List.mem_map.mpr ⟨kv, hkv, of_decide_eq_true e⟩)
    refine wpAny_updateDictKeys (hz := hes) ho hd (hQ _ ⟨_, _, ep + 1, Heap.get?_update_self _ ho (Obj.isFreed_of_dict (Obj.data_mapDictKeys hd _)), hc.mapDictKeys _, Obj.data_mapDictKeys hd _, hk.push hkey _, ?_, ?_⟩ (Heap.SameBut.update ..))
    · rw [hst]
      have q := hp.append hkey ((mixKind prog w).hash k) v
      cases es
      simpa using q
    · rw [hst, List.map_append, List.nodup_append]
      refine ⟨hn, by simp, fun x hx y hy => ?_⟩
      have e : y = k := by simpa using hy
      rw [e]
      exact fun z => hnk (z ▸ hx)
theorem wp_mergeMapping {d o : Addr} {kvs more : List (Key × Value)} {Q : Unit → Shared → Prop} (hdo : d ≠ o) (hoS : (o == sysModules) = false) (hd : s.heap.DictOf (mixKind prog w) d kvs) (ho : s.heap.DictOf (mixKind prog w) o more) (hsz : kvs.length + more.length ≤ sizeLine)
    (hQ : ∀ h', h'.DictOf (mixKind prog w) d (merged kvs more) → Heap.SameBut d s.heap h' → Q () { s with heap := h' }) : wpAny (model prog w) A (mergeMapping d (.ref o) false) Q E s := by
  obtain ⟨oo, eso, epo, hoo, hco, hdo', hko, hpo, hno⟩ := id ho
  obtain ⟨od, esd, epd, hod, hcd, hdd, hkd, hpd, hnd⟩ := id hd
  have hlen : more.length = eso.size := by
    rw [← hpo.length, Array.length_toList]
  have key : wpAny (model prog w) A (do
      let l ← dictEntries o
      let epoch ← dictEpoch o
      forIn (List.range l.size) PUnit.unit fun i (_ : PUnit) => (do
          let l' ← dictEntries o
          match l'[i]? with
            | some e => do
              holding [e.key, e.val] (dictPut d e.hash e.key e.val)
              let ep' ← dictEpoch o
              if (ep' != epoch) = true then do
                  (unsupported "dict.changed-during-merge" : Sem PUnit)
                  pure (ForInStep.yield PUnit.unit)
                else pure (ForInStep.yield PUnit.unit)
            | _ => do
              (unsupported "dict.changed-during-merge" : Sem PUnit)
              pure (ForInStep.yield PUnit.unit) : Sem (ForInStep PUnit))
      pure ()) Q E s := by
    refine wpAny_bind (wpAny_dictEntries hoo hdo' ?_)
    refine wpAny_bind (wpAny_dictEpoch hoo hdo' ?_)
    refine wpAny_bind ?_
    refine wpAny_forIn_list _ (fun rest _ s' => ∃ h' i, s' = { s with heap := h' } ∧ rest = (List.range eso.size).drop i ∧ i ≤ eso.size ∧ h'.DictOf (mixKind prog w) d (merged kvs (more.take i)) ∧ h'.get? o = some oo ∧ Heap.SameBut d s.heap h') _ ?_ ?_ _ _
      ⟨s.heap, 0, rfl, rfl, Nat.zero_le _, by simpa [merged] using hd, hoo, Heap.SameBut.refl _ _⟩
    · rintro x rest b s' ⟨h', i, rfl, hr, hi, hd', hoo', hs'⟩
      have hlt : i < eso.size := by
        rcases Nat.lt_or_ge i eso.size with h | h
        · exact h
        · rw [List.drop_eq_nil_of_le (by simpa using h)] at hr
          cases hr
      rw [List.drop_eq_getElem_cons (by simpa using hlt)] at hr
      injection hr with hx hrest
      have hxi : x = i := by rw [hx]; simp
      subst hxi
      refine wpAny_bind (wpAny_dictEntries hoo' hdo' ?_)
      rw [Array.getElem?_eq_getElem hlt]
      obtain ⟨kv, hkv⟩ : ∃ kv, more[x]? = some kv := ⟨more[x]'(by rw [hlen]; exact hlt), List.getElem?_eq_getElem _⟩
      obtain ⟨hkey, hval⟩ := hpo.get? (e := eso[x]) (by simp [hlt]) (show more[x]? = some (kv.1, kv.2) from hkv)
      obtain ⟨k', hkey', hhash⟩ := hko eso[x] (Array.getElem_mem hlt)
      have ek : k' = kv.1 := (mixKind prog w).inj _ _ _ hkey' hkey
      subst ek
      have hmx : (merged kvs (more.take x)).length ≤ sizeLine := by
        have e1 := merged_length_le kvs (more.take x)
        have e2 : (more.take x).length ≤ more.length := by rw [List.length_take]; omega
        omega
      dsimp only
      rw [hhash, hval]
      refine wpAny_bind (wpAny_holding (wp_dictPut hkey hd' hmx fun h2 hd2 hs2 => ?_))
      have hoo2 : h2.get? o = some oo := (hs2.2 o (Ne.symm hdo)).trans hoo'
      refine wpAny_bind (wpAny_dictEpoch hoo2 hdo' ?_)
      rw [if_neg (by simp)]
      exact wpAny_pure ⟨h2, x + 1, rfl, hrest, hlt, by rw [merged_take_succ kvs more x (kv.1, kv.2) hkv]; exact hd2, hoo2, hs'.trans hs2⟩
    · rintro b s' ⟨h', i, rfl, hr, hi, hd', hoo', hs'⟩
      have hin : i = eso.size := by
        rcases Nat.lt_or_ge i eso.size with h | h
        · rw [List.drop_eq_getElem_cons (by simpa using h)] at hr
          cases hr
        · exact Nat.le_antisymm hi h
      rw [hin, ← hlen, List.take_length] at hd'
      exact wpAny_pure (hQ _ hd' hs')
  unfold mergeMapping
  refine wpAny_bind (m := isInstance (Value.ref o) (Value.type "dict")) (wpAny_isInstance (b := true) ho.typeIs isSubtype_dict_dict ?_)
  dsimp only
  rw [if_pos rfl]
  refine wpAny_bind (m := specialOf (Value.ref o) (Str.ofString "__iter__")) (wpAny_specialOf ho.typeIs F.slot_dict_iter.lookup ?_)
  simp only [beq_self_eq_true, pure_bind]
  rw [if_neg (by rw [hoS]; exact Bool.false_ne_true)]
  refine wpAny_bind (wpAny_dictEntries hod hdd ?_)
  have fin : wpAny (model prog w) A (do
      let l ← dictEntries o
      let epoch ← dictEpoch o
      forIn (List.range l.size) PUnit.unit fun i (_ : PUnit) => (do
          let l' ← dictEntries o
          match l'[i]? with
            | some e => do
              holding [e.key, e.val] (dictPut d e.hash e.key e.val)
              let ep' ← dictEpoch o
              if (ep' != epoch) = true then do
                  (unsupported "dict.changed-during-merge" : Sem PUnit)
                  pure (ForInStep.yield PUnit.unit)
                else pure (ForInStep.yield PUnit.unit)
            | _ => do
              (unsupported "dict.changed-during-merge" : Sem PUnit)
              pure (ForInStep.yield PUnit.unit) : Sem (ForInStep PUnit))
      pure ()) Q E s := key
  clear key
  split
  · refine wpAny_bind (wpAny_dictEntries hoo hdo' ?_)
    refine wpAny_bind ?_
    rw [← Array.forIn_toList]
    refine wpAny_forIn_list _ (fun rest _ s' => s' = s ∧ ∀ e ∈ rest, e ∈ eso.toList) _ ?_ ?_ _ _ ⟨rfl, fun e he => he⟩
    · rintro e rest b s' ⟨rfl, hm⟩
      obtain ⟨k', hk', _⟩ := hko e (Array.mem_toList_iff.mp (hm e List.mem_cons_self))
      have nr : ∀ a, e.key ≠ .ref a := fun a z => by
        rw [z] at hk'
        cases k' <;> cases hk'
      split
      · rename_i a ea
        exact absurd ea (nr a)
      · exact wpAny_pure ⟨rfl, fun e' he' => hm e' (List.mem_cons_of_mem _ he')⟩
    · rintro b s' ⟨rfl, _⟩
      exact fin
  · exact fin
end
end ML
/-! ML28: displays {**a, **b, ..}. -/
namespace ML
open PySem PySem.Spec L2 PyProof.Rows
section
variable {prog : Program} {w : World} {A : Around} {E : Value → Shared → Prop} {s : Shared}
/-- the dicts that vs tell are merged into the one at d, one behind the other -/
def SS (prog : Program) (w : World) (A : Around) (E : Value → Shared → Prop) (d : Addr) : List (Sem Value) → (Shared → Prop) → Shared → Prop
  | [], Q, s => Q s
  | v :: vs, Q, s => wpAny (model prog w) A v (fun m s1 => ∃ o kvs more, m = .ref o ∧ d ≠ o ∧ (o == sysModules) = false ∧ s1.heap.DictOf (mixKind prog w) d kvs ∧ s1.heap.DictOf (mixKind prog w) o more ∧ kvs.length + more.length ≤ sizeLine ∧
      ∀ h', h'.DictOf (mixKind prog w) d (merged kvs more) → Heap.SameBut d s1.heap h' → SS prog w A E d vs Q { s1 with heap := h' }) E s
theorem star_step {d : Addr} {v : Sem Value} {R : Shared → Prop} {Q : ForInStep (Option Addr × List (Sem Value × Sem Value)) → Shared → Prop}
    (h : wpAny (model prog w) A v (fun m s1 => ∃ o kvs more, m = .ref o ∧ d ≠ o ∧ (o == sysModules) = false ∧ s1.heap.DictOf (mixKind prog w) d kvs ∧ s1.heap.DictOf (mixKind prog w) o more ∧ kvs.length + more.length ≤ sizeLine ∧
      ∀ h', h'.DictOf (mixKind prog w) d (merged kvs more) → Heap.SameBut d s1.heap h' → R { s1 with heap := h' }) E s) (hQ : ∀ s', R s' → Q (ForInStep.yield (some d, [])) s') :
    wpAny (model prog w) A (do
      let m ← holding [Value.ref d] v
      (((holding [Value.ref d, m] (mergeMapping d m false)).onRaise fun x => do
        let _ ← holding [Value.ref d, m, x] (runValue (Code.builtin "proto.let_go" { }))
        pure ()).tryCatch fun e => do
          let c ← isInstance e (Value.type "AttributeError")
          if c = true then do
            rule "dict.display.not-a-mapping"
            let n ← typeNameOf m
            raiseErrorMade "TypeError" (toString "'" ++ toString n ++ toString "' object is not a mapping")
            throw e
          else throw e).onRaise fun x => do
            let _ ← holding [Value.ref d, x] (runValue (Code.builtin "proto.let_go" { }))
            pure ()
      pure (ForInStep.yield (some d, []))) Q E s := by
  refine wpAny_bind (wpAny_holding (wpAny_mono h (fun m s1 hm => ?_) fun _ _ e => e))
  obtain ⟨o, kvs, more, rfl, h1, h2, h3, h4, h5, h6⟩ := hm
  refine wpAny_bind (wpAny_onRaise (wpAny_tryCatch (wpAny_onRaise (wpAny_holding (wp_mergeMapping h1 h2 h3 h4 h5 fun h' a b => ?_)))))
  exact wpAny_pure (hQ _ (h6 h' a b))
theorem display_stars {v : Sem Value} {vs : List (Sem Value)} {Q : Value → Shared → Prop} (h : SS prog w A E s.heap.objs.size (v :: vs) (fun s' => Q (.ref s.heap.objs.size) s') { s with heap := s.heap.push { cls := .type "dict", data := .dict #[] } }) :
    wpAny (model prog w) A (dictDisplay ((v :: vs).map fun v => (none, v))) Q E s := by
  unfold dictDisplay
  refine wpAny_bind ?_
  refine wpAny_forIn_list _ (fun rest b s' => (b = (none, []) ∧ rest = ((v :: vs).map fun v => ((none : Option (Sem Value)), v)) ∧ s' = s) ∨ ∃ us : List (Sem Value), b = (some s.heap.objs.size, []) ∧ rest = us.map (fun v => (none, v)) ∧ SS prog w A E s.heap.objs.size us (fun s' => Q (.ref s.heap.objs.size) s') s') _ ?_ ?_ _ _ (.inl ⟨rfl, rfl, rfl⟩)
  · rintro ⟨k, x⟩ rest b s' hI
    rcases hI with ⟨rfl, hr, rfl⟩ | ⟨us, rfl, hr, hs⟩
    · rw [List.map_cons] at hr
      injection hr with e1 e2
      cases e1
      dsimp only [List.isEmpty]
      refine wpAny_bind (wpAny_pure ?_)
      refine wpAny_bind (wpAny_alloc ?_)
      exact star_step h fun s2 h2 => .inr ⟨vs, rfl, e2, h2⟩
    · cases us with
      | nil => cases hr
      | cons u us =>
        rw [List.map_cons] at hr
        injection hr with e1 e2
        cases e1
        dsimp only [List.isEmpty]
        refine wpAny_bind (wpAny_pure ?_)
        refine wpAny_bind (wpAny_pure ?_)
        exact star_step hs fun s2 h2 => .inr ⟨us, rfl, e2, h2⟩
  · rintro b s' hI
    rcases hI with ⟨rfl, hr, rfl⟩ | ⟨us, rfl, hr, hs⟩
    · cases hr
    · cases us with
      | cons u us => cases hr
      | nil =>
        dsimp only [List.isEmpty]
        refine wpAny_bind (wpAny_pure ?_)
        exact wpAny_pure hs
end
/-! ### by values -/
/-- the dicts that the parts tell, merged into the one at p -/
def tStars (p : Addr) : List TE → L2.St → Hp → (Hp → Prop) → Prop
  | [], _, H, R => R H
  | t :: ts, σ, H, R => t σ H fun v H1 => ∃ (o : Addr) (ks ms : List (Key × V)), v = .ref o ∧ p ≠ o ∧ H1 p = some (.dK ks) ∧ Rd H1 o (.dK ms) ∧ ks.length + ms.length ≤ sizeLine ∧ tStars p ts σ (upd H1 p (.dK (mergeK ks ms))) R
def tDStar (ts : List TE) : TE := fun σ H Q => ∀ p, H p = none → tStars p ts σ (upd H p (.dK [])) fun H2 => Q (.ref p) H2
section
variable {X : Cx} {pins : List (Addr × Obj)} {σ : L2.St}
inductive PEs (X : Cx) : List Expr → List TE → Prop
  | nil : PEs X [] []
  | cons {e : Expr} {es : List Expr} {t : TE} {ts : List TE} : PE X e t → PEs X es ts → PEs X (e :: es) (t :: ts)
theorem KV.mergeM {more : List (Key × V)} {rs : List (Key × Value)} {kvs : List (Key × V)} {vs : List (Key × Value)} (a : KV more rs) (b : KV kvs vs) : KV (mergeK kvs more) (merged vs rs) := L2.KV.merge a b
theorem stars_run {d : Addr} {pos : Pos} {R : Hp → Prop} {P : Shared → Prop} (fin : ∀ s' H', Inv X pins σ H' s' → R H' → P s') : ∀ {es : List Expr} {ts : List TE} {s : Shared} {H : Hp}, PEs X es ts → Inv X pins σ H s → tStars d ts σ H R →
    SS X.prog X.w X.A X.xe d (es.map fun e => do let x ← eval e X.env; standAt pos; pure x) P s
  | _, _, s, H, .nil, I, h => fin s H I h
  | _, _, s, H, .cons (e := e) (es := es) he hs, I, h => by
    refine wpAny_bind (thn (he.run pins s σ H _ I h) fun m s1 ⟨v, H1, I1, r1, q1⟩ => wpAny_bind (wpAny_standAt (wpAny_pure ?_)))
    obtain ⟨o, ks, ms, ev, hdo, hp, ho, hz, q⟩ := q1
    subst ev
    obtain rfl : m = Value.ref o := r1
    obtain ⟨z1, m1, vs1, r1, d1⟩ := dk_of I1.hok hp
    obtain ⟨z2, m2, vs2, r2, d2⟩ := dk_rd I1.hok ho
    refine ⟨o, vs1, vs2, rfl, hdo, m2, d1, d2, by rw [← r1.length, ← r2.length]; exact hz, fun h' dd hs' => ?_⟩
    have hz' : (mergeK ks ms).length ≤ sizeLine := Nat.le_trans (length_mergeK ms ks) hz
    have he' : ∃ q, h'.get? d = some q := let ⟨q, _, _, hq, _⟩ := dd; ⟨q, hq⟩
    exact stars_run fin hs (d_write (t' := s1.toks) I1 (by rw [hp]; exact True.intro) hs' he' (dk_new hz' m1 (L2.KV.merge r2 r1) dd)) q
theorem pe_dstar {pos : Pos} {e : Expr} {es : List Expr} {ts : List TE} (h : PEs X (e :: es) ts)
    (hk : (evalEachOpt (none :: es.map fun _ => none) X.env).zip ((evalEach (e :: es) X.env).map fun v => do let x ← v; standAt pos; pure x) = ((e :: es).map fun e => do let x ← eval e X.env; standAt pos; pure x).map fun v => (none, v)) :
    PE X (.Dict (none :: es.map fun _ => none) (e :: es) pos) (tDStar ts) := by
  refine ⟨fun pins s σ H Q I q => ?_⟩
  have hn := I.hok.fresh (Nat.le_refl s.heap.objs.size)
  have I1 := I.laid (a := s.heap.objs.size) (o := .dK []) (h' := s.heap.push { cls := .type "dict", data := .dict #[] }) (t' := s.toks) (fun _ _ q => Heap.get?_push_of_some _ q) (Nat.le_refl _) (dk_empty s.heap I.big)
  rw [arm_eval_Dict, hk]
  refine wpAny_bind (wpAny_standAt ?_)
  exact display_stars (stars_run (pos := pos) (R := fun H2 => Q (.ref s.heap.objs.size) H2) (fun s' H' I' r => ⟨.ref s.heap.objs.size, H', I', rfl, r⟩) h I1 (q _ hn))
end
/-! ### the mirror -/
def mergeD (kvs more : List (NestedKey × A)) : List (NestedKey × A) := more.foldl (fun acc kv => putD acc kv.1 kv.2) kvs
def starA (i : Nat) (d : A) (st : Store) : R Unit := match d with
  | .ref r => match stD st r, stD st i with
    | some kvs, some acc => if r ≠ i ∧ flatD kvs = true ∧ flatD acc = true ∧ acc.length + kvs.length ≤ sizeLine then .ok () (st.set i (.oth (.dct (mergeD acc kvs)))) else .bad
    | _, _ => .bad
  | _ => .bad
def mStars (i : Nat) : List MX → Env → Store → R A
  | [], _, st => .ok (.ref i) st
  | m :: ms, ρ, st => (m ρ st).bind fun d st1 => (starA i d st1).bind fun _ st2 => mStars i ms ρ st2
def mDStar (ms : List MX) : MX := fun ρ st => mStars st.length ms ρ (st ++ [.oth (.dct [])])
section
variable {X : Cx} {W : WX}
inductive MEs (X : Cx) (W : WX) : List Expr → List MX → Prop
  | nil : MEs X W [] []
  | cons {e : Expr} {es : List Expr} {m : MX} {ms : List MX} : PE X e (tE X W m) → MEs X W es ms → MEs X W (e :: es) (m :: ms)
theorem MEs.pes : ∀ {es : List Expr} {ms : List MX}, MEs X W es ms → PEs X es (ms.map (tE X W))
  | _, _, .nil => .nil
  | _, _, .cons h q => .cons h q.pes
theorem merge_k {φ : List Addr} {H : Hp} : ∀ {ms : List (Key × V)} {more : List (NestedKey × A)} {ks : List (Key × V)} {kvs : List (NestedKey × A)}, more.map (·.1) = ms.map (fun x => nk x.1) → RVs X.K φ H (ms.map (·.2)) (more.map (·.2)) → kvs.map (·.1) = ks.map (fun x => nk x.1) → RVs X.K φ H (ks.map (·.2)) (kvs.map (·.2)) →
    (mergeD kvs more).map (·.1) = (mergeK ks ms).map (fun x => nk x.1) ∧ RVs X.K φ H ((mergeK ks ms).map (·.2)) ((mergeD kvs more).map (·.2))
  | [], [], _, _, _, _, e, r => ⟨e, r⟩
  | [], _ :: _, _, _, h, _, _, _ => by simp at h
  | _ :: _, [], _, _, h, _, _, _ => by simp at h
  | m :: ms, q :: more, ks, kvs, h, rm, e, r => by
    simp only [List.map_cons, List.cons.injEq] at h
    cases rm with
    | cons r1 r2 =>
      obtain ⟨e2, r3⟩ := putK_k (k := m.1) (y := m.2) (d := q.2) e r r1
      rw [← h.1] at e2 r3
      exact merge_k (ms := ms) (more := more) (ks := putK ks m.1 m.2) (kvs := putD kvs q.1 q.2) h.2 r2 e2 r3
theorem stars_ok {ρ : Env} {p : Addr} {i : Nat} {Q : V → Hp → Prop} {σ : L2.St} :
    ∀ (ms : List MX) (φ : List Addr) (H : Hp) (st : Store), RS X.K X.w X.mg φ H st → RE X.K φ H σ ρ → φ[i]? = some p → Pst X.K X.w X.mg (RV X.K) (fun c d H' => W c d σ H') φ H (mStars i ms ρ st) Q → tStars p (ms.map (tE X W)) σ H fun H2 => Q (.ref p) H2
  | [], φ, H, st, rs, re, hi, h => h.ok rs (.ref hi)
  | m :: ms, φ, H, st, rs, re, hi, h => by
    unfold mStars at h
    refine ⟨φ, ρ, st, rs, re, h.seq fun φ1 d v H1 st1 e1 rs1 rv1 h1 => ?_⟩
    have hi1 := e1.get hi
    unfold starA at h1
    cases rv1 with
    | @ref o r qo =>
      simp only at h1
      cases e3 : stD st1 r with
      | none => simp only [e3] at h1; exact h1.elim
      | some kvs =>
        cases e4 : stD st1 i with
        | none => simp only [e3, e4] at h1; exact h1.elim
        | some acc =>
          simp only [e3, e4] at h1
          split at h1
          · rename_i c
            obtain ⟨ms2, g1, g2, g3⟩ := flat_dk c.2.1 (rs1.dct qo e3)
            obtain ⟨ks, k1, k2, k3⟩ := flat_dk c.2.2.1 (rs1.dct hi1 e4)
            have ne : p ≠ o := fun z => by
              subst z
              obtain ⟨l1, y1⟩ := List.getElem?_eq_some_iff.mp qo
              obtain ⟨l2, y2⟩ := List.getElem?_eq_some_iff.mp hi1
              exact c.1 ((List.getElem_inj rs1.nd).mp (y1.trans y2.symm))
            have l1 : ks.length = acc.length := by
              have := congrArg List.length k2
              simpa using this.symm
            have l2 : ms2.length = kvs.length := by
              have := congrArg List.length g2
              simpa using this.symm
            obtain ⟨m1, m2⟩ := merge_k (φ := φ1) (H := H1) g2 g3 k2 k3
            have hn : ∀ od u, H1 p ≠ some (.frz od u) := fun od u z => by rw [k1] at z; cases z
            have ex : Ext φ1 H1 φ1 (upd H1 p (.dK (mergeK ks ms2))) := ext_write hi1 hn
            refine ⟨o, ks, ms2, rfl, ne, k1, .inl g1, by rw [l1, l2]; exact c.2.2.2, ?_⟩
            exact stars_ok ms φ1 _ _ (rs1.writeO (u := .dct (mergeD acc kvs)) hi1 (stD_eq e4) hn (.inl ⟨mergeK ks ms2, upd_same, m1, m2.ext ex⟩)) ((re.ext e1).ext ex) hi1 (Pst.mono h1 ex)
          · exact h1.elim
    | _ => exact (show False from h1).elim
theorem me_dstar {pos : Pos} {e : Expr} {es : List Expr} {ms : List MX} (h : MEs X W (e :: es) ms)
    (hk : (evalEachOpt (none :: es.map fun _ => none) X.env).zip ((evalEach (e :: es) X.env).map fun v => do let x ← v; standAt pos; pure x) = ((e :: es).map fun e => do let x ← eval e X.env; standAt pos; pure x).map fun v => (none, v) := by rfl) :
    PE X (.Dict (none :: es.map fun _ => none) (e :: es) pos) (tE X W (mDStar ms)) := (pe_dstar h.pes hk).imp fun σ H Q ⟨φ, ρ, st, rs, re, h⟩ => fun p hp => by
  unfold mDStar at h
  have ex := ext_alloc (o := .dK []) rs hp
  exact stars_ok ms (φ ++ [p]) _ _ (rs.allocO (u := .dct []) hp (.inl ⟨[], upd_same, rfl, .nil⟩)) (re.ext ex) (by rw [List.getElem?_append_right (by rw [rs.len]; exact Nat.le_refl _), rs.len]; simp) (Pst.mono h ex)
end
end ML
/-! ML29: isinstance(x, (T, U)), both built in. -/
namespace ML
open PySem PySem.Spec L2
section
variable {X : Cx} {W : WX} {a : Expr} {ma : MX}
theorem tyX_all {w : World} {mg : Str → Option Value} {K : PySem.W.Frag} {φ : List Addr} {H : Hp} {st : Store} {v : V} {a : A} (rs : RS K w mg φ H st) (r : RV K φ H v a) (hs : ∃ T b, isTy T a st = some b) : ∃ t, TyX K H v (.type t) ∧ ∀ (T : Ty) (b : Bool), isTy T a st = some b → kitB t T.nm = some b := by
  cases r with
  | non => exact ⟨"NoneType", .base .non, fun T b h => by cases T <;> (cases h; decide +kernel)⟩
  | bl k => exact ⟨"bool", .base (.bl k), fun T b h => by cases T <;> (cases h; decide +kernel)⟩
  | int k => exact ⟨"int", .base (.int k), fun T b h => by cases T <;> (cases h; decide +kernel)⟩
  | str k => exact ⟨"str", .base (.str k), fun T b h => by cases T <;> (cases h; decide +kernel)⟩
  | tup q qs =>
    refine ⟨"tuple", ?_, fun T b h => by cases T <;> (cases h; decide +kernel)⟩
    rcases q with ⟨⟨o, _, q⟩, _⟩ | ⟨o, its, n, q1, q2, _⟩
    · exact .fTuple q
    · exact .kTuple q1 q2
  | scr q qs =>
    refine ⟨"list", ?_, fun T b h => by cases T <;> (cases h; decide +kernel)⟩
    rcases q with ⟨⟨o, q⟩, _⟩ | ⟨o, its, n, q1, q2, _⟩
    · exact .base (.frz q)
    · exact .kList q1 q2
  | @ref p i q =>
    obtain ⟨T0, b0, h0⟩ := hs
    have hall : ∀ (T : Ty) (b : Bool), isTy T (.ref i) st = some b → (match st[i]? with | some (.lst _) => some T.isL | _ => none) = some b := fun T b h => by cases T <;> exact h
    cases e : st[i]? with
    | none => have := hall T0 b0 h0; rw [e] at this; cases this
    | some o =>
      cases o with
      | oth u => have := hall T0 b0 h0; rw [e] at this; cases this
      | lst ds =>
        obtain ⟨xs, h1, _⟩ := rs.lst q e
        refine ⟨"list", .base (.lst h1), fun T b h => ?_⟩
        have h' := hall T b h
        rw [e] at h'
        cases T <;> (have hb := Option.some.inj h'; subst hb; decide +kernel)
def isi2A (T U : Ty) (x : A) (st : Store) : R A := match isTy T x st, isTy U x st with
  | some b, some c => .ok (.bl (b || c)) st
  | _, _ => .bad
theorem me_isi2 (T U : Ty) {p p2 p3 pos tpos : Pos} {x n n2 : Str} {kk : Nat} (ha : PE X a (tE X W ma)) (hx : x = "isinstance") (hn : n = Str.ofString T.nm) (hn' : n2 = Str.ofString U.nm) (hm : X.mg x = none) (hm2 : X.mg n = none) (hm3 : X.mg n2 = none) (hv2 : bootBuiltins n = some (.type T.nm)) (hv3 : bootBuiltins n2 = some (.type U.nm)) (hg : Gl X x := by rfl) (hg2 : Gl X n := by rfl) (hg3 : Gl X n2 := by rfl)
    (hn1 : n ≠ "__name__" := by decide) (hd1 : (n == ("__debug__" : Str)) = false := by decide) (hn3 : n2 ≠ "__name__" := by decide) (hd3 : (n2 == ("__debug__" : Str)) = false := by decide)
    (he4 : starEach [.Name n2 p3] X.env = (false, eval (.Name n2 p3) X.env) :: starEach [] X.env := by rfl) (he3 : starEach [.Name n p2, .Name n2 p3] X.env = (false, eval (.Name n p2) X.env) :: starEach [.Name n2 p3] X.env := by rfl)
    (he2 : starEach [.Tuple [.Name n p2, .Name n2 p3] kk tpos] X.env = (false, eval (.Tuple [.Name n p2, .Name n2 p3] kk tpos) X.env) :: starEach [] X.env := by rfl) (he : starEach (a :: [.Tuple [.Name n p2, .Name n2 p3] kk tpos]) X.env = (false, eval a X.env) :: starEach [.Tuple [.Name n p2, .Name n2 p3] kk tpos] X.env := by rfl) (hpl : (backTo pos (starEach [.Tuple [.Name n p2, .Name n2 p3] kk tpos] X.env)).any (·.1) = false := by rfl) :
    PE X (.Call (.Name x p) [a, .Tuple [.Name n p2, .Name n2 p3] kk tpos] [] pos) (tE X W (mUn (isi2A T U) ma)) := by
  subst hx
  refine (pe_callB call_isiT hg hm PyProof.Rows.boot_isinstance (pa_cons ha (pa_cons (pe_tup (pa_cons (pe_bltn (v := .ty T.nm) hg2 hm2 hv2 rfl hn1 hd1) (pa_cons (pe_bltn (v := .ty U.nm) hg3 hm3 hv3 rfl hn3 hd3) pa_nil he4) he3)) pa_nil he2) he) (by decide) (by decide) he hpl).imp fun σ H Q ⟨φ, ρ, st, rs, re, h⟩ => ?_
  refine ⟨φ, ρ, st, rs, re, h.seq fun φ1 d v H1 st1 e1 rs1 rv1 h1 => ?_⟩
  unfold isi2A at h1
  cases e : isTy T d st1 with
  | none => rw [e] at h1; exact h1.elim
  | some b =>
    cases e' : isTy U d st1 with
    | none => rw [e, e'] at h1; exact h1.elim
    | some c =>
      rw [e, e'] at h1
      refine ⟨by simp [sizeLine], fun q hq => ?_⟩
      obtain ⟨t, h2, h3⟩ := tyX_all (rs1.new (o := .tup [.ty T.nm, .ty U.nm]) hq) (rv1.ext (ext_new hq)) ⟨T, b, e⟩
      refine ⟨v, q, [.ty T.nm, .ty U.nm], .type t, [.type T.nm, .type U.nm], b || c, rfl, upd_same, .cons (.ty _) (.cons (.ty _) .nil), h2, ?_, (h1.mono (ext_new hq)).ok (rs1.new hq) (.bl (b || c))⟩
      refine kitAny_cons (kit_ty (h3 T b e)) (fun hb => ?_) (fun hb => by rw [hb]; rfl)
      rw [hb, Bool.false_or]
      exact kitAny_cons (kit_ty (h3 U c e')) (fun hc => by rw [hc]; rfl) (fun hc => hc)
end
end ML
/-! ML30: a lambda with parameters, called (a function object of the heap, not of the written part). -/
namespace ML
open PySem PySem.Spec PyProof.Rows L2
theorem run_lam {CX : CXT} {P : Program} {w : World} {K : PySem.W.Frag} {mg : Str → Option Value} {base : Heap} {k : Nat} {f c' : Addr} {name qual : Str} {params : Arguments} {body : Expr} {scope : Scope} {pm ctv : Value}
    {N ps : List Str} (S : FnScope N ps scope)
    {A : Around} {outer : List PySem.Env} {s : Shared} {H : Hp} {args : Args} {us : List Value} {vs : List V} {Q : VK} {E : XK} (hr : Room (k + 1) A) (e0 : Env0 P w K mg base A outer s H)
    (ho : s.heap.get? f = some (PySem.W.kla_obj name qual params body scope [] pm c' ctv)) (hcd : s.heap.CodeRec (.ref c') qual) (hb : BindsTo s (PySem.W.kla_fn name qual params body scope [] pm (.ref c') ctv) args (ps.zip us)) (r : Vals vs us) (hl : vs.length = ps.length)
    (hbody : Room k (A.deeper (envOfC qual scope s.heap.objs.size f (.ref c'))) → ∃ t, PE (cxOf CX P w K mg base N qual scope f (.ref c') A outer s H E) body t ∧ t (L2.start N vs) H Q) :
    codeAny (model P w) A (.call (.ref f) args) (CR CX outer P w H s Q E) s := by
  have lim : s.heap.NoLimit := e0.mod.nolimit.keeps fun b o e => (e0.bs b o e).1
  have hkind : ∀ y ∈ ps.zip us, scope.names.lookup y.1 = some .local ∨ (scope.names.lookup y.1 = some .cell ∧ ((cellsFrom (s.heap.objs.size + 1) scope.names []).lookup y.1).isSome = true) := fun ⟨n, v⟩ hy => by
    rcases S.par n (List.of_mem_zip hy).1 with q | q
    · exact .inl q
    · exact .inr ⟨q, PySem.W.cellsFrom_some _ _ _ (.inl q)⟩
  refine PySem.W.kla_callFunE hr.depth ho rfl S.co S.gen rfl hcd (hb _ _ _ _ ?_)
  refine wpAny_newFunctionEnv_cells S.kind hkind fun env he s1 x => ?_
  subst he
  refine ⟨lim.keeps x.toInCall.keep, ?_⟩
  obtain ⟨t, ht, hq⟩ := hbody (hr.deeper _)
  have I : Inv (cxOf CX P w K mg base N qual scope f (.ref c') A outer s H E) [] (L2.start N vs) H s1 := inv_start S hr.hd e0 hl r x
  refine PySem.W.kla_codeExpr (wpAny_mono (ht.run [] s1 (L2.start N vs) H Q I hq) (fun v s' hq => ?_) fun e s' hs => hs)
  obtain ⟨w', σ', H', J, rv, q⟩ : ∃ w' σ' H', Inv (cxOf CX P w K mg base N qual scope f (.ref c') A outer s H E) [] σ' H' s' ∧ L2.RelV w' v ∧ Q w' H' := by
    obtain ⟨w', H', J', rv, q⟩ := hq
    exact ⟨w', _, H', J', rv, q⟩
  exact ⟨w', H', J.os, J.bare, J.base, J.hok, rv, q⟩
/-- the same, told as a mirror -/
theorem run_lamM {P : Program} {w : World} {K : PySem.W.Frag} {mg : Str → Option Value} {base : Heap} {k : Nat} {f c' : Addr} {name qual : Str} {params : Arguments} {body : Expr} {scope : Scope} {pm ctv : Value}
    {N ps : List Str} {mb : MX} (S : FnScope N ps scope)
    (hbody : ∀ (A : Around) (outer : List PySem.Env) (s : Shared) (H : Hp) (E : XK), Room k (A.deeper (envOfC qual scope s.heap.objs.size f (.ref c'))) → PE (cxOf (L2.CX P w) P w K mg base N qual scope f (.ref c') A outer s H E) body (tE (cxOf (L2.CX P w) P w K mg base N qual scope f (.ref c') A outer s H E) (fun c d _ H' => E c d H') mb))
    {A : Around} {outer : List PySem.Env} {s : Shared} {H : Hp} {args : Args} {us : List Value} {vs : List V} {Q : VK} {E : XK} (hr : Room (k + 1) A) (e0 : Env0 P w K mg base A outer s H)
    (ho : s.heap.get? f = some (PySem.W.kla_obj name qual params body scope [] pm c' ctv)) (hcd : s.heap.CodeRec (.ref c') qual) (hb : BindsTo s (PySem.W.kla_fn name qual params body scope [] pm (.ref c') ctv) args (ps.zip us)) (r : Vals vs us)
    (sp : spM K w mg (mFn N.length ps.length (mRet mb)) vs H Q E) :
    codeAny (model P w) A (.call (.ref f) args) (CR (L2.CX P w) outer P w H s Q E) s := by
  obtain ⟨φ, as, st, rs, rv, h⟩ := sp
  unfold mFn at h
  split at h
  · rename_i hl
    have hl2 : vs.length = ps.length := by rw [rv.length]; exact hl
    refine run_lam S hr e0 ho hcd hb r hl2 fun hr' => ⟨_, hbody A outer s H E hr', ?_⟩
    refine ⟨φ, as.map some ++ List.replicate (N.length - ps.length) none, st, rs, ?_, ?_⟩
    · unfold L2.start
      rw [hl2]
      exact RE.start rv _
    · unfold mRet at h
      cases e : mb (as.map some ++ List.replicate (N.length - ps.length) none) st with
      | ok a st' => rw [e] at h; exact h
      | er x st' => rw [e] at h; exact h
      | bad => rw [e] at h; exact h.elim
  · exact h.elim
section
variable {X : Cx} {pins : List (Addr × Obj)} {σ : L2.St} {H : Hp} {s s1 : Shared} {φ : List Addr}
theorem quiet_run {f : Addr} {m : MF} (I : Inv X pins σ H s) {x : V} {v : Value} {a : A} {d : PyData} (run : ∀ (Q : VK) (E : XK), Env0 X.prog X.w X.K X.mg X.base X.A.in1.in1 X.stack s1 (frzH H s1.heap) → spM X.K X.w X.mg m [x] (frzH H s1.heap) Q E → codeAny (model X.prog X.w) X.A.in1.in1 (.call (.ref f) ⟨[v], []⟩) (CR (L2.CX X.prog X.w) X.stack X.prog X.w (frzH H s1.heap) s1 Q E) s1) (ra : RV X.K φ H x a) (rv : RelV x v) (hk : keyM m a = some d) (hp : pureA a = true) (os : s1.os = s.os) (bare : AllBare s1.gens) (ok : HOk X.prog X.w H s1.heap) (kq : Kq (frs X.stack) s.heap s1.heap) :
    wpAny (model X.prog X.w) X.A.in1.in1 (call (.ref f) [v]) (Qt (frs X.stack) d s1) (fun _ _ => False) s1 := by
  have e0 := I.env0
  have nofr : ∀ b ∈ frs X.stack, X.base.get? b = none := fun b hb => (e0.funs.mem hb).1
  have bs : ∀ b o, X.base.get? b = some o → s1.heap.get? b = some o ∧ frzH H s1.heap b = none := fun b o e => by
    obtain ⟨h1, h2⟩ := e0.bs b o e
    refine ⟨?_, frzH_none h2⟩
    obtain ⟨_, _, h3⟩ := kq b o h1
    exact h3 fun z => by rw [nofr b z] at e; cases e
  have bsz : X.base.objs.size ≤ s1.heap.objs.size := by
    obtain ⟨mm, ⟨o, es, ep, ho, _⟩, _⟩ := I.loc
    obtain ⟨sl, h1, _⟩ := kq _ o ho
    exact Nat.le_trans I.ok.bsz (Nat.le_trans I.ok.above (Nat.le_of_lt (Heap.lt_size h1)))
  have ok1 := frzH_ok ok
  have E1 : Env0 X.prog X.w X.K X.mg X.base X.A.in1.in1 X.stack s1 (frzH H s1.heap) := by
    have e2 := e0.in1.in1
    exact ⟨e2.frames, e2.mod, bs, bsz, PySem.Heap.FunFrames.of_keeps (fun b o h1 _ => by
      obtain ⟨sl, h2, _⟩ := kq b o h1
      exact ⟨_, h2, rfl⟩) e0.funs, fun b hb => frzH_none (e0.frf b hb), ok1, bare⟩
  unfold keyM at hk
  split at hk
  · rename_i r st' em
    have sp : spM X.K X.w X.mg m [x] (frzH H s1.heap) (fun u H' => ∃ φ', RV X.K φ' H' u r) (fun _ _ _ => False) := by
      refine ⟨[], [a], [], ⟨rfl, by simp, fun i a o h => by simp at h⟩, .cons (rv_frz ok hp ra) .nil, ?_⟩
      rw [em]
      exact fun φ' u H' _ _ q => ⟨φ', q⟩
    have KX : X.K.In s1.heap := I.mod.kin.keeps fun b o e => (bs b o e).1
    refine wpAny_call (codeAny_mono (run _ _ E1 sp) fun q s' hq => ?_)
    cases q with
    | error e =>
      obtain ⟨_, _, _, _, _, _, _, _, _, _, _, _, hF⟩ := hq
      exact hF.elim
    | ok fl =>
      cases fl with
      | ret u =>
        obtain ⟨y, H', os', bare', un, ok', ru, φ', rr⟩ := hq
        have kq' : Kq (frs X.stack) s1.heap s'.heap := fun b o e => by
          cases q : frzH H s1.heap b with
          | none =>
            obtain ⟨sl, h1⟩ := un.any e q (by simp)
            refine ⟨sl, h1, fun n => un.keep b o e q n (by simp)⟩
          | some u =>
            obtain ⟨o', w', rfl, h1⟩ := frzH_get ok q
            have := un.frzs b _ _ q
            have h2 := (ok' b _ this).1
            rw [e] at h1
            cases h1
            exact ⟨o.slots, h2, fun _ => h2⟩
        have KX' : X.K.In s'.heap := I.mod.kin.keeps fun b o e => by
          obtain ⟨_, _, h3⟩ := kq' b o (bs b o e).1
          exact h3 fun z => by rw [nofr b z] at e; cases e
        exact ⟨os', bare', kq', rv_reads ok' KX' rr ru hk⟩
      | next => exact False.elim hq
      | brk => exact False.elim hq
      | cont => exact False.elim hq
  · cases hk
end
/-! ### a lambda made: the table alone changes -/
section
variable {X : Cx} {pins : List (Addr × Obj)} {σ : L2.St} {H : Hp} {s : Shared}
/-- what the table tells -/
def TabAt (H : Hp) (P : Addr) (q : Str) (ps : Array Value) : Prop := H P = some (.tbl ps) ∧ TriplesOk ps.toList ∧ ∀ (pos : Pos) (cv : Value), codeAmong pos ps.toList = some cv → ∃ c, cv = .ref c ∧ H c = some (LamX.CodeO c q)
theorem lam_make3 {c P : Addr} {params : Arguments} {body : Expr} {scope : Scope} {pos : Pos} {E : Value → Shared → Prop} {Q : Value → Shared → Prop} {ps : Array Value} (I : Inv X pins σ H s) (TB : LamX.TabB X.base X.mg c P) (hcode : X.env.code = .ref c)
    (hT : TabAt H P (X.env.qual ++ "<lambda>") ps) (hdef : defaultsOf params X.env = ([], [])) (hfree : ∀ y ∈ scope.names, y.2 = .free → ∃ c, X.env.cells.lookup y.1 = some c)
    (h : ∀ (f c' : Addr) (pm ctv : Value) (H1 : Hp) (s' : Shared), Inv X pins σ H1 s' → (H1 = H ∨ ∃ more, H c' = none ∧ c' ≠ P ∧ H1 = upd (upd H P (.tbl (ps ++ more))) c' (LamX.CodeO c' (X.env.qual ++ "<lambda>")) ∧ TriplesOk (ps ++ more).toList ∧ ∀ p cv, codeAmong p (ps ++ more).toList = some cv → codeAmong p ps.toList = some cv ∨ cv = .ref c') →
      s'.heap.get? f = some (PySem.W.kla_obj "<lambda>" (X.env.qual ++ "<lambda>") params body scope (cloFrom X.env.cells scope.names []) pm c' ctv) → H1 f = none → f ∉ frs X.stack → H1 c' = some (LamX.CodeO c' (X.env.qual ++ "<lambda>")) → Q (.ref f) s') :
    wpAny (model X.prog X.w) X.A (eval (.Lambda params body scope pos) X.env) Q E s := by
  obtain ⟨hP, ht, ha⟩ := hT
  refine PySem.W.kla_eval hdef ?_
  have bP : s.heap.BuiltinsAt X.mg P := TB.bm.keeps I.bk
  have hP' : s.heap.get? P = some { cls := .none, data := .fields ps } := I.hok P _ hP
  have nofr : ∀ f, s.heap.objs.size ≤ f → f ∉ frs X.stack := fun f hf z => by
    rcases List.mem_cons.mp (I.stkSub _ z) with e | e
    · have h1 := I.lt
      rw [← e] at h1
      exact Nat.lt_irrefl _ (Nat.lt_of_lt_of_le h1 hf)
    · exact I.nofs hf e
  cases hc : codeAmong pos ps.toList with
  | none =>
    refine PySem.W.kla_makeFunction (mg := X.mg) (c := c) (P := P) (ps := ps) (closure_ok hfree) I.ok.glob (I.mod.glob.keeps I.bk) hcode (TB.code.keeps I.bk) hP' ht hc TB.gP bP fun c' ctv h' tk hx hge hlt hrec htb => ?_
    obtain ⟨c2, oc, vs, t, e2, hoc, hd, hv⟩ := hrec
    cases e2
    have hsz : s.heap.objs.size ≤ h'.objs.size := Nat.le_trans hge (Nat.le_of_lt hlt)
    have nC : H c' = none := I.hok.fresh hge
    have I1 := LamX.inv_table (t' := tk) (more := #[rawInt pos.line, rawInt pos.col, .ref c']) (h' := h'.push (PySem.W.kla_obj "<lambda>" (X.env.qual ++ "<lambda>") params body scope (cloFrom X.env.cells scope.names []) ((X.mg "__name__").getD .none) c' ctv)) I hP
      (fun b o hb e => Heap.get?_push_of_some _ (hx b o hb e)) (Heap.get?_push_of_some _ htb) hge ⟨oc, vs, t, Heap.get?_push_of_some _ hoc, hd, hv⟩
    have eL : (ps ++ #[rawInt pos.line, rawInt pos.col, .ref c']).toList = ps.toList ++ [rawInt pos.line, rawInt pos.col, .ref c'] := by simp
    have cP : c' ≠ P := fun z => by rw [z, hP] at nC; cases nC
    refine h h'.objs.size c' ((X.mg "__name__").getD .none) ctv _ _ I1 (.inr ⟨_, nC, cP, rfl, by rw [eL]; exact PySem.TriplesOk_snoc _ _ _ _ ht, fun p' cv hcv => ?_⟩) (Heap.get?_push_size _ rfl) ?_ (nofr _ hsz) upd_same
    · rw [eL] at hcv
      exact LamX.among_app _ ht hcv
    · have n1 : h'.objs.size ≠ c' := Nat.ne_of_gt hlt
      have n2 : h'.objs.size ≠ P := Nat.ne_of_gt (Nat.lt_of_lt_of_le (Heap.lt_size hP') hsz)
      rw [upd_ne n1, upd_ne n2]
      exact I.hok.fresh hsz
  | some cv =>
    obtain ⟨c', e, hco⟩ := ha pos cv hc
    subst e
    refine PySem.W.kla_makeFunctionHit (mg := X.mg) (c := c) (P := P) (ps := ps) (closure_ok hfree) I.ok.glob (I.mod.glob.keeps I.bk) hcode (TB.code.keeps I.bk) hP' ht hc bP fun ctv h' tk hx hsz => ?_
    have I1 : Inv X pins σ H { s with heap := h'.push (PySem.W.kla_obj "<lambda>" (X.env.qual ++ "<lambda>") params body scope (cloFrom X.env.cells scope.names []) ((X.mg "__name__").getD .none) c' ctv), toks := tk } := I.kept fun b o e => Heap.get?_push_of_some _ (hx b o e)
    exact h h'.objs.size c' ((X.mg "__name__").getD .none) ctv H _ I1 (.inl rfl) (Heap.get?_push_size _ rfl) (I.hok.fresh hsz) (nofr _ hsz) hco
end
/-! ### the table in the store -/
section
variable {K : PySem.W.Frag} {w : World} {mg : Str → Option Value} {φ : List Addr} {H H1 : Hp} {st : Store}
theorem rs_tabAt {it : Nat} {n : Str} {P : Addr} (rs : RS K w mg φ H st) (hp : φ[it]? = some P) (hi : st[it]? = some (.oth (.tab n))) : TabIs K mg n P ∧ ∃ ps, TabAt H P (n ++ ".<locals>." ++ "<lambda>") ps := by
  obtain ⟨h1, ps, h2, h3, h4⟩ := (show RO2 K w mg φ H P (.tab n) from rs.all it P _ hp hi)
  exact ⟨h1, ps, h2, h3, fun pos cv hc => by
    obtain ⟨c, e, e2, _⟩ := h4 pos cv hc
    exact ⟨c, e, e2⟩⟩
theorem rs_tab {it : Nat} {n : Str} {P c' : Addr} {ps : Array Value} (rs : RS K w mg φ H st) (hp : φ[it]? = some P) (hi : st[it]? = some (.oth (.tab n))) (hP : H P = some (.tbl ps))
    (hH : H1 = H ∨ ∃ more, H c' = none ∧ c' ≠ P ∧ H1 = upd (upd H P (.tbl (ps ++ more))) c' (LamX.CodeO c' (n ++ ".<locals>." ++ "<lambda>")) ∧ TriplesOk (ps ++ more).toList ∧ ∀ p cv, codeAmong p (ps ++ more).toList = some cv → codeAmong p ps.toList = some cv ∨ cv = .ref c') : Ext φ H φ H1 ∧ RS K w mg φ H1 st := by
  rcases hH with rfl | ⟨more, nC, cP, rfl, ht, hcs⟩
  · exact ⟨Ext.refl, rs⟩
  · have hPm := List.mem_of_getElem? hp
    have cn := rs.notin nC
    have e : Ext φ H φ (upd (upd H P (.tbl (ps ++ more))) c' (LamX.CodeO c' (n ++ ".<locals>." ++ "<lambda>"))) := ⟨⟨[], by simp⟩, fun a o m q => by
      rw [upd_ne (ne_of_none q nC), upd_ne (fun z => m (by rw [z]; exact hPm))]
      exact ⟨q, m⟩, fun a o u q => by
      rw [upd_ne (ne_of_none q nC), upd_ne (fun z => by rw [z, hP] at q; cases q)]
      exact q⟩
    refine ⟨e, rs.len, rs.nd, fun i a o h1 h2 => ?_⟩
    have h3 := rs.all i a o h1 h2
    by_cases hia : i = it
    · subst hia
      rw [hp] at h1
      cases h1
      rw [hi] at h2
      cases h2
      obtain ⟨t1, ps', t2, t3, t4⟩ := (show RO2 K w mg φ H P (.tab n) from h3)
      rw [hP] at t2
      cases t2
      refine ⟨t1, ps ++ more, by rw [upd_ne (Ne.symm cP), upd_same], ht, fun pos cv hcv => ?_⟩
      rcases hcs pos cv hcv with z | z
      · obtain ⟨c, e1, e2, e3⟩ := t4 pos cv z
        refine ⟨c, e1, ?_, e3⟩
        rw [upd_ne (ne_of_none e2 nC), upd_ne (fun q => e3 (by rw [q]; exact hPm))]
        exact e2
      · exact ⟨c', z, upd_same, cn⟩
    · have aP : a ≠ P := fun z => by
        subst z
        have hlt := (List.getElem?_eq_some_iff.mp h1).1
        exact hia ((List.getElem?_inj hlt rs.nd).mp (by rw [h1, hp]))
      have ac : a ≠ c' := fun z => cn (z ▸ List.mem_of_getElem? h1)
      have kk : (upd (upd H P (.tbl (ps ++ more))) c' (LamX.CodeO c' (n ++ ".<locals>." ++ "<lambda>"))) a = H a := by rw [upd_ne ac, upd_ne aP]
      cases o with
      | lst ds =>
        obtain ⟨xs, q, q2⟩ := h3
        exact ⟨xs, by rw [kk]; exact q, q2.ext e⟩
      | oth u => exact RO2.ext e kk h3
end
/-! ### sorted(e, key=lambda x: ..) -/
open Classical in
noncomputable def sortLA (it : Nat) (n : Str) (m : MF) (b : Bool) : List A → Store → R A
  | [x], st => match itemsQ x st with
    | some xs => if KeysOk m xs ∧ st[it]? = some (.oth (.tab n)) then .ok (.ref st.length) (st ++ [.lst (sortK m b xs)]) else .bad
    | none => .bad
  | _, _ => .bad
section
variable {X : Cx} {W : WX} {e : Expr} {ms : MA}
open PySem.W in
theorem me_sortL {n : Str} {it k : Nat} {N ps : List Str} {mb : MX} {params : Arguments} {body : Expr} {scope : Scope} {p lpos kp pos : Pos}
    (S : FnScope N ps scope)
    (hbody : ∀ (f c' : Addr) (A : Around) (outer : List PySem.Env) (s : Shared) (H : Hp) (E : XK), Room k (A.deeper (envOfC (X.env.qual ++ "<lambda>") scope s.heap.objs.size f (.ref c'))) → PE (cxOf (L2.CX X.prog X.w) X.prog X.w X.K X.mg X.base N (X.env.qual ++ "<lambda>") scope f (.ref c') A outer s H E) body (tE (cxOf (L2.CX X.prog X.w) X.prog X.w X.K X.mg X.base N (X.env.qual ++ "<lambda>") scope f (.ref c') A outer s H E) (fun c d _ H' => E c d H') mb))
    (hbind : ∀ (q : Str) (pm cv ctv : Value) (us : List Value), us.length = ps.length → bindArgs (kla_fn "<lambda>" q params body scope [] pm cv ctv) ⟨us, []⟩ = pure (ps.zip us)) (hps : ps.length = 1)
    (hcode : ∀ P, TabIs X.K X.mg n P → ∃ c, X.env.code = .ref c ∧ LamX.TabB X.base X.mg c P) (hq : X.env.qual = n ++ ".<locals>.") (hdef : defaultsOf params X.env = ([], [])) (hclo : cloFrom X.env.cells scope.names [] = [])
    (hr : Room (k + 1 + 2) X.A) (hm : X.mg "sorted" = none) (ha : PA X [e] (tA X W ms)) (hg : Gl X "sorted" := by rfl)
    (he : backTo pos (starEach [e] X.env) = (false, eval e X.env) :: backTo pos (starEach [] X.env) := by rfl) (hpl : (backTo pos (starEach [e] X.env)).any (·.1) = false := by rfl)
    (hall : (backToKw pos (keywordEach [⟨some "key", .Lambda params body scope lpos, kp⟩] X.env)).all (·.1.isSome) = true := by rfl) (hnone : (backToKw pos (keywordEach [⟨some "key", .Lambda params body scope lpos, kp⟩] X.env)).any (·.1.isNone) = false := by rfl)
    (hks : (backToKw pos (keywordEach [⟨some "key", .Lambda params body scope lpos, kp⟩] X.env)).filterMap (·.1) = [Str.ofString "key"] := by rfl) :
    PE X (.Call (.Name "sorted" p) [e] [⟨some "key", .Lambda params body scope lpos, kp⟩] pos) (tE X W (mCa (sortLA it n (mFn N.length ps.length (mRet mb)) false) ms)) := by
  refine ⟨fun pins s σ H Q I h => ?_⟩
  obtain ⟨φ, ρ, st, rs, re, h⟩ := h
  refine wpAny_Call_Name_kw (ld_blt I hg hm (show bootBuiltins (Str.ofString "sorted") = some (.builtin "sorted") by decide +kernel) ?_ (by decide) (by decide))
  refine PyProof.Rows.callWith_kw (thn (ha.run pos pins s σ H (fun vs H1 => ∃ φ1 as st1, RS X.K X.w X.mg φ1 H1 st1 ∧ RVs X.K φ1 H1 vs as ∧ Pst X.K X.w X.mg (RV X.K) (fun _ _ _ => False) φ1 H1 (sortLA it n (mFn N.length ps.length (mRet mb)) false as st1) Q) I ⟨φ, ρ, st, rs, re, h.seq fun φ1 as vs H1 st1 e1 rs1 rv1 h1 => ⟨φ1, as, st1, rs1, rv1, ?_⟩⟩) fun us s1 ⟨vs, H1, I1, r1, q1⟩ => ?_) he hpl hall hnone
  · unfold sortLA at h1 ⊢
    split at h1
    · split at h1
      · split at h1
        · rename_i hk
          rw [if_pos hk]
          exact h1
        · exact h1.elim
      · exact h1.elim
    · exact h1.elim
  rw [hks]
  obtain ⟨φ1, as, st1, rs1, rv1, h1⟩ := q1
  unfold sortLA at h1
  split at h1
  · rename_i x
    obtain ⟨v, rfl, rv⟩ := one_rv rv1
    split at h1
    · rename_i xs hi
      split at h1
      · rename_i hk
        obtain ⟨ok, htab⟩ := hk
        obtain ⟨pa, ys, rfl, hs, r2⟩ := itemsQ_ok rs1 rv hi
        have hlt := (List.getElem?_eq_some_iff.mp htab).1
        obtain ⟨P, hPi⟩ : ∃ P, φ1[it]? = some P := ⟨φ1[it]'(by rw [rs1.len]; exact hlt), List.getElem?_eq_getElem _⟩
        obtain ⟨ht, pt, hTA⟩ := rs_tabAt rs1 hPi htab
        obtain ⟨c, hcode', TB⟩ := hcode P ht
        obtain rfl := Vals.ref1 r1
        show wpAny _ _ (evalAll [(do let v ← eval (.Lambda params body scope lpos) X.env; standAt pos; pure v)]) _ _ _
        refine wpAny_evalAll_cons (wpAny_bind (lam_make3 I1 TB hcode' (by rw [hq]; exact hTA) hdef (fun y hy hf => absurd hf (S.nofree y hy)) fun f c' pm ctv H2 s2 I2 hH hf hfn hfr hco => wpAny_bind (wpAny_standAt (wpAny_pure (wpAny_evalAll_nil ?_)))))
        rw [hq] at hH
        obtain ⟨e2, rs2⟩ := rs_tab (c' := c') rs1 hPi htab hTA.1 hH
        rw [hclo] at hf
        obtain ⟨pb, zs, eb, hs2, r22⟩ := itemsQ_ok rs2 (rv.ext e2) hi
        cases eb
        have hr2 : Room (k + 1) X.A.in1.in1 := Room.in1 (Room.in1 hr)
        obtain ⟨T, o, its, nn, hT, ho, hc, hd, hv⟩ : ∃ (T : String) (o : Obj) (its : List Value) (n : Nat), (T = "list" ∨ T = "tuple") ∧ s2.heap.get? pa = some o ∧ o.cls = .type T ∧ o.data = .seq its.toArray n ∧ Vals zs its := by
          rcases hs2 with hs | hs
          · obtain ⟨its, rv, hl, _⟩ := I2.list hs
            obtain ⟨o, ho, hc, n, hd⟩ := hl.isList
            exact ⟨"list", o, its, n, .inl rfl, ho, hc, hd, rv⟩
          · obtain ⟨its, rv, ⟨o, ho, hc, n, hd⟩, _⟩ := I2.tuple hs
            exact ⟨"tuple", o, its, n, .inr rfl, ho, hc, hd, rv⟩
        have hz : its.length ≤ sizeLine := by rw [← hv.length, r22.length]; exact ok.few
        obtain ⟨⟨oc, cvs, ct, hoc, hdc, hvc⟩, _, _⟩ := I2.hok c' _ hco
        have h1' := h1.mono e2
        exact sorted_any hT ho hc hd (by simpa using hz) (ksk_s1 _ _) (fun _ => ksk_l1 _ _) fun h0 a0 E' k1 fresh here => sort_core I2 hv r22 ok k1 fresh here (by have := hr2.un; omega) (ksk_t1 _ _)
          (fun y u e d s' ry ru hd hp os' g' kq => quiet_run I2 (fun Q' E'' E1 sp => run_lamM S (hbody f c') hr2 E1 ((kq f _ hf).elim fun _ h => h.2 hfr) ((kq c' oc hoc).elim fun sl h => ⟨c', _, cvs, ct, rfl, h.1, hdc, hvc⟩) (.of_eq (hbind _ _ _ _ [u] (by rw [hps]; rfl))) (.cons ru .nil) sp) ry ru hd hp os' g' (hok_kq I2.hok kq I2.env0.frf) kq)
          (fun q ws hq' hw => h1' _ _ _ (ext_alloc rs2 hq') (rs2.alloc hq' hw) (.newLst rs2))
      · exact h1.elim
    · exact h1.elim
  · exact h1.elim
end
/-! ### a def that makes lambdas: its code object and table -/
def TabC (K : PySem.W.Frag) (mg : Str → Option Value) (n : Str) (c p : Addr) : Prop := ∃ (f : Addr) (fo co : Obj) (fd : FuncData) (vs : Array Value),
  mg n = some (.ref f) ∧ K.lookup f = some fo ∧ fo.data = .func fd ∧ fd.code = .ref c ∧ K.lookup c = some co ∧ co.data = .fields vs ∧ vs[11]? = some (.ref p)
section
variable {P : Program} {w : World} {K : PySem.W.Frag} {mg : Str → Option Value} {base : Heap}
theorem cal_ofL {x : Str} {st : Stmt} {N ps : List Str} {k : Nat} {body : MS} (G : GF K mg x st ps) (S : FnScope N ps (defScope st)) (hTB : ∀ c p, TabC K mg x c p → LamX.TabB base mg c p)
    (hb : ∀ (f : Addr) (cdv : Value) (A : Around) (outer : List PySem.Env) (s : Shared) (H : Hp) (E : XK), (∀ p, TabIs K mg x p → ∃ c, cdv = .ref c ∧ LamX.TabB base mg c p) → Room k (A.deeper (PyProof.Rows.envOfC x (defScope st) s.heap.objs.size f cdv)) →
      PSs (cxOf (L2.CX P w) P w K mg base N x (defScope st) f cdv A outer s H E) (defBody st) (tS (cxOf (L2.CX P w) P w K mg base N x (defScope st) f cdv A outer s H E) (fun c d _ H' => E c d H') body)) :
    Cal P w K mg base x (k + 1) (mFn N.length ps.length body) := by
  obtain ⟨f, fd, h1, F, b⟩ := G.ex
  refine ⟨f, fd, ps, h1, F.kp, b, ?_⟩
  have len : ∀ vs H Q E, spM K w mg (mFn N.length ps.length body) vs H Q E → vs.length = ps.length := fun vs H Q E ⟨φ, as, st, rs, rv, h⟩ => by
    unfold mFn at h
    split at h
    · rename_i hl
      rw [rv.length]
      exact hl
    · exact h.elim
  obtain ⟨oc, od, kV, doc, pm, an, cdv, ct, osl, rfl, lk, hcd⟩ := F.ex
  have fact : ∀ p, TabIs K mg x p → ∃ c, cdv = .ref c ∧ LamX.TabB base mg c p := fun p ht => by
    obtain ⟨f', c, fo, co, fd', vs, m1, m2, m3, m4, m5, m6, m7⟩ := ht
    refine ⟨c, ?_, hTB c p ⟨f', fo, co, fd', vs, m1, m2, m3, m4, m5, m6, m7⟩⟩
    rw [h1] at m1
    cases m1
    rw [lk] at m2
    cases m2
    cases m3
    exact m4
  refine fn_of lk hcd S len fun A outer s H vs Q E hr h => ⟨_, hb f cdv A outer s H E fact hr, ?_⟩
  obtain ⟨φ, as, st, rs, rv, h⟩ := h
  unfold mFn at h
  split at h
  · rename_i hl
    have hl2 : vs.length = ps.length := by rw [rv.length]; exact hl
    refine ⟨φ, as.map some ++ List.replicate (N.length - ps.length) none, st, rs, ?_, ?_⟩
    · unfold L2.start
      rw [hl2]
      exact RE.start rv _
    · cases e : body (as.map some ++ List.replicate (N.length - ps.length) none) st with
      | nx ρ st' => rw [e] at h; exact fun φ' σ' H' ex rs' re' => h φ' .non H' ex rs' .non
      | rt a st' => rw [e] at h; exact fun φ' v H' ex rs' rv' => h φ' v H' ex rs' rv'
      | er x ρ st' => rw [e] at h; exact fun φ' c d σ' H' ex rs' re' rx => h φ' c d H' ex rs' rx
      | bk ρ st' => rw [e] at h; exact h.elim
      | ct ρ st' => rw [e] at h; exact h.elim
      | bad => rw [e] at h; exact h.elim
  · exact h.elim
end
end ML
/-! ML31: a table of code objects becomes part of the store behind the law's first statement. -/
namespace ML
open PySem PySem.Spec PyProof.Rows L2
section
variable {K : PySem.W.Frag} {w : World} {mg : Str → Option Value} {φ : List Addr} {H : Hp} {st : Store} {σ : L2.St} {ρ : ML.Env} {P : Addr} {ps : Array Value}
theorem notin_push {a : Addr} {o : HO} (hP : H P = some (.tbl ps)) (h : H a = some o) (n : a ∉ φ) (ne : o ≠ .tbl ps) : a ∉ φ ++ [P] := fun z => by
  rcases List.mem_append.mp z with z | z
  · exact n z
  · rw [List.mem_singleton.mp z, hP] at h
    exact ne (Option.some.inj h).symm
theorem StT.push {a : Addr} {xs : List V} (hP : H P = some (.tbl ps)) (h : StT K φ H a xs) : StT K (φ ++ [P]) H a xs := by
  rcases h with ⟨⟨o, hd, h⟩, n⟩ | h
  · exact .inl ⟨⟨o, hd, h⟩, notin_push hP h n (by simp)⟩
  · exact .inr h
theorem StL.push {a : Addr} {xs : List V} (hP : H P = some (.tbl ps)) (h : StL K φ H a xs) : StL K (φ ++ [P]) H a xs := by
  rcases h with ⟨⟨o, h⟩, n⟩ | h
  · exact .inl ⟨⟨o, h⟩, notin_push hP h n (by simp)⟩
  · exact .inr h
theorem get_push {i : Nat} {a : Addr} (h : φ[i]? = some a) : (φ ++ [P])[i]? = some a := by
  rw [List.getElem?_append_left (List.getElem?_eq_some_iff.mp h).1]
  exact h
mutual
theorem RV.push (hP : H P = some (.tbl ps)) : ∀ {v : V} {d : A}, RV K φ H v d → RV K (φ ++ [P]) H v d
  | _, _, .non => .non
  | _, _, .bl b => .bl b
  | _, _, .int i => .int i
  | _, _, .str x => .str x
  | _, _, .tup h q => .tup (h.push hP) (RVs.push hP q)
  | _, _, .scr h q => .scr (h.push hP) (RVs.push hP q)
  | _, _, .ref h => .ref (get_push h)
theorem RVs.push (hP : H P = some (.tbl ps)) : ∀ {vs : List V} {ds : List A}, RVs K φ H vs ds → RVs K (φ ++ [P]) H vs ds
  | _, _, .nil => .nil
  | _, _, .cons h q => .cons (RV.push hP h) (RVs.push hP q)
end
theorem RE.push (hP : H P = some (.tbl ps)) (r : RE K φ H σ ρ) : RE K (φ ++ [P]) H σ ρ := ⟨r.len, fun i d h => by
  obtain ⟨v, h1, h2⟩ := r.all i d h
  exact ⟨v, h1, h2.push hP⟩⟩
theorem RO2.push {a : Addr} (hP : H P = some (.tbl ps)) : ∀ {u : Ob2}, RO2 K w mg φ H a u → RO2 K w mg (φ ++ [P]) H a u
  | .dct _, .inl ⟨ks, h1, h2, h3⟩ => .inl ⟨ks, h1, h2, h3.push hP⟩
  | .dct _, .inr ⟨xs, vs, h0, h1, h2, h3, h4, h5, h6, h7⟩ => .inr ⟨xs, vs, h0, h1, h2, h3, h4, fun x hx => ⟨(h5 x hx).1.push hP, (h5 x hx).2⟩, h6, h7.push hP⟩
  | .frd _, ⟨od, ks, h1, h2, h3⟩ => ⟨od, ks, h1, h2, h3.push hP⟩
  | .ins _ _, ⟨C, dx, vs, h0, h1, h2, h3, h4⟩ => ⟨C, dx, vs, h0, h1, h2, notin_push hP h2 h3 (by simp), h4.push hP⟩
  | .tab _, ⟨h0, ps', h1, h2, h3⟩ => ⟨h0, ps', h1, h2, fun pos cv hc => by
    obtain ⟨c, z1, z2, z3⟩ := h3 pos cv hc
    exact ⟨c, z1, z2, notin_push hP z2 z3 (LamX.codeO_ne ps)⟩⟩
theorem RS.push {n : Str} (r : RS K w mg φ H st) (hP : H P = some (.tbl #[])) (nP : P ∉ φ) (ht : TabIs K mg n P) : RS K w mg (φ ++ [P]) H (st ++ [.oth (.tab n)]) := by
  refine ⟨by simp [r.len], ?_, fun i a o h1 h2 => ?_⟩
  · rw [List.nodup_append]
    refine ⟨r.nd, by simp, fun a ha b hb z => ?_⟩
    rw [List.mem_singleton.mp hb] at z
    exact nP (z ▸ ha)
  · by_cases hi : i < φ.length
    · rw [List.getElem?_append_left hi] at h1
      rw [List.getElem?_append_left (by rw [← r.len]; exact hi)] at h2
      have h3 := r.all i a o h1 h2
      cases o with
      | lst ds =>
        obtain ⟨xs, q, q2⟩ := h3
        exact ⟨xs, q, q2.push hP⟩
      | oth u => exact RO2.push hP h3
    · have hl : i = φ.length := by
        have := (List.getElem?_eq_some_iff.mp h1).1
        rw [List.length_append, List.length_singleton] at this
        omega
      subst hl
      rw [List.getElem?_append_right (Nat.le_refl _), Nat.sub_self] at h1
      rw [r.len, List.getElem?_append_right (Nat.le_refl _), Nat.sub_self] at h2
      cases h1
      cases h2
      refine ⟨ht, #[], hP, True.intro, fun pos cv hc => ?_⟩
      have z : codeAmong pos [] = some cv := hc
      simp [codeAmong] at z
end
section
variable {X : Cx} {W : WX} {s : Stmt} {rest : List Stmt} {m1 m2 : MS}
/-- the law's body: its first statement, then the table joins the store, then the rest answers True -/
theorem pss_ghost {n : Str} {P : Addr} (h1 : PS X s (tS X W m1)) (h2 : PSs X rest (tS X W m2)) (hT : TabIs X.K X.mg n P) : PSs X (s :: rest) (fun D σ H => ∃ φ ρ st, RS X.K X.w X.mg φ H st ∧ RE X.K φ H σ ρ ∧ (H P = some (.tbl #[]) ∧ P ∉ φ) ∧
    (∃ ρ1 st1 st2, m1 ρ st = .nx ρ1 st1 ∧ m2 ρ1 (st1 ++ [.oth (.tab n)]) = .rt (.bl true) st2) ∧ ∀ v H2, v = V.bl true → D.rt v H2) := (pss_cons h1 h2).imp fun D σ H ⟨φ, ρ, st, rs, re, ⟨hP, nP⟩, ⟨ρ1, st1, st2, e1, e2⟩, hD⟩ => by
  refine ⟨φ, ρ, st, rs, re, ?_⟩
  rw [e1]
  intro φ' σ' H' ex rs' re'
  obtain ⟨hP', nP'⟩ := ex.fr _ _ nP hP
  refine ⟨φ' ++ [P], ρ1, st1 ++ [.oth (.tab n)], rs'.push hP' nP' hT, re'.push hP', ?_⟩
  rw [e2]
  exact fun φ2 v H2 _ _ rv2 => hD v H2 (by cases rv2; rfl)
end
/-! ### the law's promise, with a table -/
/-- the ghost: the table of the code objects of n joins the store -/
def mGhost (n : Str) : MS := fun ρ st => .nx ρ (st ++ [.oth (.tab n)])
theorem ghost_split {N : Nat} {n : Str} {m1 m2 : MS} {as : List A} {st0 st' : Store} (hm : ∀ ρ st a st', m1 ρ st ≠ .rt a st') (h : mFn N 1 (mSeq m1 (mSeq (mGhost n) m2)) as st0 = .ok (.bl true) st') :
    as.length = 1 ∧ ∃ ρ1 st1 st2, m1 (as.map some ++ List.replicate (N - 1) none) st0 = .nx ρ1 st1 ∧ m2 ρ1 (st1 ++ [.oth (.tab n)]) = .rt (.bl true) st2 := by
  unfold mFn at h
  split at h
  · rename_i hl
    refine ⟨hl, ?_⟩
    unfold mSeq at h
    cases e : m1 (as.map some ++ List.replicate (N - 1) none) st0 with
    | nx ρ1 st1 =>
      rw [e] at h
      simp only [mGhost] at h
      cases e2 : m2 ρ1 (st1 ++ [.oth (.tab n)]) with
      | rt a st2 =>
        rw [e2] at h
        cases h
        exact ⟨ρ1, st1, _, rfl, e2⟩
      | nx ρ2 st2 => rw [e2] at h; cases h
      | bk ρ2 st2 => rw [e2] at h; cases h
      | ct ρ2 st2 => rw [e2] at h; cases h
      | er x ρ2 st2 => rw [e2] at h; cases h
      | bad => rw [e2] at h; cases h
    | rt a st1 => exact absurd e (hm _ _ _ _)
    | bk ρ2 st2 => rw [e] at h; cases h
    | ct ρ2 st2 => rw [e] at h; cases h
    | er x ρ2 st2 => rw [e] at h; cases h
    | bad => rw [e] at h; cases h
  · cases h
/-- what a law with the table at p promises: told of the script alone -/
def spLawT (K : PySem.W.Frag) (p : Addr) : Sp := fun vs H Q _ => ∃ (a : Addr) (ns : List Int), vs = [.ref a] ∧ StL K [] H a (ns.map V.int) ∧ H p = some (.tbl #[]) ∧ ns.length ≤ 63 ∧ (∀ z ∈ ns, Builtin.Int.intBits z ≤ 1048576) ∧ ∀ H', Q (.bl true) H'
section
variable {P : Program} {w : World} {K : PySem.W.Frag} {mg : Str → Option Value} {base : Heap}
theorem fn_okT {x qual n : Str} {stm s : Stmt} {rest : List Stmt} {f p : Addr} {fd : FuncData} {N : List Str} {k : Nat} {m1 m2 : MS} (F : Fun K qual qual stm f fd) (S : FnScope N [x] (defScope stm)) (hd : defBody stm = s :: rest) (hT : TabIs K mg n p)
    (hm : ∀ ρ st a st', m1 ρ st ≠ .rt a st') (hl : LawTrue (mFn N.length 1 (mSeq m1 (mSeq (mGhost n) m2))))
    (hb : ∀ (cdv : Value) (A : Around) (outer : List PySem.Env) (s0 : Shared) (H : Hp) (E : XK), Room k (A.deeper (PyProof.Rows.envOfC qual (defScope stm) s0.heap.objs.size f cdv)) →
      PS (cxOf (L2.CX P w) P w K mg base N qual (defScope stm) f cdv A outer s0 H E) s (tS (cxOf (L2.CX P w) P w K mg base N qual (defScope stm) f cdv A outer s0 H E) (fun c d _ H' => E c d H') m1) ∧
      PSs (cxOf (L2.CX P w) P w K mg base N qual (defScope stm) f cdv A outer s0 H E) rest (tS (cxOf (L2.CX P w) P w K mg base N qual (defScope stm) f cdv A outer s0 H E) (fun c d _ H' => E c d H') m2)) :
    FnOk P w K mg base (L2.CX P w) (k + 1) f fd [x] (spLawT K p) := by
  refine F.okX S (fun vs H Q E ⟨a, ns, e, _⟩ => by rw [e]; rfl) fun cdv A outer s0 H vs Q E hr h => ?_
  obtain ⟨h1, h2⟩ := hb cdv A outer s0 H E hr
  obtain ⟨a, ns, rfl, hs, hp, hn, hbits, hq⟩ := h
  obtain ⟨st', e⟩ := hl ns hn hbits
  obtain ⟨_, ρ1, st1, st2, e1, e2⟩ := ghost_split hm e
  have hg := pss_ghost (n := n) (P := p) h1 h2 hT
  rw [← hd] at hg
  refine ⟨_, hg, [], [ML.A.scr (ns.map ML.A.int)].map some ++ List.replicate (N.length - 1) none, [], ⟨rfl, List.nodup_nil, fun i a o h => by simp at h⟩, ?_, ⟨hp, by simp⟩, ⟨ρ1, st1, st2, e1, e2⟩, fun v H2 hv => ?_⟩
  · exact RE.start (.cons (.scr hs (RVs.mkInts ns)) .nil) _
  · rw [hv]
    exact hq H2
end
open PySem.W in
/-- the end of a law one of whose defs makes lambdas: c its code object, p the table; the script joins the written part -/
theorem law_endT {l : PySem.W.OpenLaw} {k : Nat} {q : Program} {loose : List Str} {XP : (Str → Option Value) → Heap → Prop} {YP : World → Heap → Prop} {d : DefRec} {K : Params → PySem.W.Frag} {ts : List Addr} {x : Str}
    (hn : l.most = some 63) (hdf : d.params.defaults = []) (hr : Room k callerA) (hY : ∀ (w : World) (h : Heap), YP w h → (K w.params).In h ∧ ∀ P ∈ ts, h.get? P = some { cls := .none, data := .fields #[] })
    (F : ∀ (w : World) (mg : Str → Option Value) (fa : Addr) (h : Heap) (K' : PySem.W.Frag), K'.In h → (∀ b o, (K w.params).lookup b = some o → K'.lookup b = some o) → h.Ns mainGlobals mg → mg d.name = some (.ref fa) →
      ∃ (fd : FuncData) (c p : Addr), p ∈ ts ∧ (K w.params).lookup p = none ∧ codeHdIn (K w.params) c p = true ∧ (∀ (s : Shared) (u : Value), BindsTo s fd ⟨[u], []⟩ [(x, u)]) ∧
        ∀ base : Heap, K'.In base → base.Ns mainGlobals mg → LamX.TabB base mg c p → FnOk l.prog w K' mg base (L2.CX l.prog w) k fa fd [x] (spLawT K' p)) :
    PySem.W.WalkO q loose XP YP l.row.toRowW d [] (fun f vs => PySem.call f vs) := by
  refine Att.attach_callB hn hdf fun w s0 s1 mg mb fa o pm cd doc a vs ns G Y ho hd hcd hmg hobj hints hlen hbits hg => ?_
  obtain ⟨KX, hts⟩ := hY w _ Y
  obtain ⟨ob, hob⟩ : ∃ ob : Obj, ob = ({ cls := .type "list", data := .seq vs.toArray } : Obj) := ⟨_, rfl⟩
  have hobj0 := hobj
  rw [← hob] at hobj
  have sub : ∀ b o, (K w.params).lookup b = some o → (K w.params ++ [(a, ob)]).lookup b = some o := fun b o e => by
    rw [List.lookup_append, e]
    rfl
  have lka : (K w.params ++ [(a, ob)]).lookup a = some ob := by
    rw [List.lookup_append]
    cases e : (K w.params).lookup a with
    | none => simp [List.lookup]
    | some o' =>
      have := KX a o' e
      rw [hobj] at this
      rw [← this]
      rfl
  have KX' : Frag.In (K w.params ++ [(a, ob)]) s1.heap := fun b o e => by
    by_cases hb : b = a
    · rw [hb, lka] at e
      rw [hb, ← e]
      exact hobj
    · rw [List.lookup_append] at e
      cases e2 : (K w.params).lookup b with
      | none =>
        rw [e2] at e
        have hb' : (b == a) = false := by simpa using hb
        simp [List.lookup, hb'] at e
      | some o' =>
        rw [e2] at e
        rw [← e]
        exact KX b o' e2
  generalize hK' : (K w.params ++ [(a, ob)]) = K' at sub lka KX'
  obtain ⟨fd, c, p, hp, hpn, hch, hb, hF⟩ := F w mg fa _ K' KX' sub G.T.g hmg
  have hTp := hts p hp
  have pa : p ≠ a := fun z => by
    rw [z, hobj0] at hTp
    cases hTp
  have hpn' : K'.lookup p = none := by
    have pa' : (p == a) = false := by simpa using pa
    rw [← hK', List.lookup_append, hpn]
    simp [List.lookup, pa']
  have lenV := hints.length
  refine LamX.law_callTs (cs := [(c, p)]) KX' G.T.g G.T.b G.T.builtins G.T.nolimit hg (fun q hq => by rw [List.mem_singleton.mp hq]; exact hTp) (fun q hq => by rw [List.mem_singleton.mp hq]; exact hpn') (fun q hq => by rw [List.mem_singleton.mp hq]; exact codeHd_of_K KX hch) G.T.bmain hobj0 hints (Nat.le_trans hlen (by decide)) hr
    (fun base k1 k2 k3 => hF base k1 k2 (k3 (c, p) (by simp))) hb (fun H hH hS => ⟨a, ns, rfl, .inr ⟨_, vs.toArray, _, lka, by rw [hob], by rw [hob], by rw [hob], ?_, ?_⟩, hH (c, p) (by simp), hlen, hbits, fun _ => rfl⟩) (fun H e s' h => by obtain ⟨_, _, _, _, _, _, _, _, _, _, _, _, z⟩ := h; exact z)
  · have : vs.length ≤ 63 := by omega
    simp [sizeLine]
    omega
  · have := L2.vals_ints hints
    simpa using this
end ML
/-! ML32: what a written part tells, a larger one tells too. -/
namespace ML
open PySem PySem.Spec PyProof.Rows L2
section
variable {K K' : PySem.W.Frag} (sub : ∀ b o, K.lookup b = some o → K'.lookup b = some o)
include sub
theorem mono_ns {a : Addr} {n : Str} {r : Option Value} (h : PySem.W.nsIn K a n = some r) : PySem.W.nsIn K' a n = some r := by
  unfold PySem.W.nsIn at h ⊢
  cases e : K.lookup a with
  | none => rw [e] at h; cases h
  | some o => rw [e] at h; rw [sub _ _ e]; exact h
theorem mono_cls {a : Addr} {cd : ClassData} (h : PySem.W.clsIn K a = some cd) : PySem.W.clsIn K' a = some cd := by
  unfold PySem.W.clsIn at h ⊢
  cases e : K.lookup a with
  | none => rw [e] at h; cases h
  | some o => rw [e] at h; rw [sub _ _ e]; exact h
theorem mono_own {n : Str} {v : Value} {r : Option Value} (h : PySem.W.ownIn K n v = some r) : PySem.W.ownIn K' n v = some r := by
  unfold PySem.W.ownIn at h ⊢
  split at h
  · exact h
  · rename_i a
    cases e : K.lookup a with
    | none => rw [e] at h; cases h
    | some o =>
      rw [e] at h
      rw [sub _ _ e]
      split at h
      · exact mono_ns sub h
      · cases h
  · exact h
theorem mono_along {n : Str} : ∀ {l : List Value} {r : Option Value}, PySem.W.alongIn K n l = some r → PySem.W.alongIn K' n l = some r
  | [], r, h => h
  | c :: l, r, h => by
    unfold PySem.W.alongIn at h ⊢
    cases e : PySem.W.ownIn K n c with
    | none => rw [e] at h; cases h
    | some u =>
      rw [e] at h
      rw [mono_own sub e]
      cases u with
      | none => exact mono_along h
      | some v => exact h
theorem mono_find {t : Value} {n : Str} {r : Option Value} (h : PySem.W.findIn K t n = some r) : PySem.W.findIn K' t n = some r := by
  unfold PySem.W.findIn at h ⊢
  split at h
  · exact h
  · rename_i a
    cases e : K.lookup a with
    | none => rw [e] at h; cases h
    | some o =>
      rw [e] at h
      rw [sub _ _ e]
      split at h
      · exact mono_along sub h
      · cases h
  · cases h
theorem mono_type {v r : Value} (h : PySem.W.typeIn K v = some r) : PySem.W.typeIn K' v = some r := by
  cases v with
  | ref a =>
    unfold PySem.W.typeIn at h ⊢
    cases e : K.lookup a with
    | none => simp only [e] at h; cases h
    | some o => simp only [e] at h; simp only [sub _ _ e]; exact h
  | _ => exact h
theorem mono_special {v : Value} {n : Str} {r : Option Value} (h : PySem.W.specialIn K v n = some r) : PySem.W.specialIn K' v n = some r := by
  unfold PySem.W.specialIn at h ⊢
  cases e : PySem.W.typeIn K v with
  | none => rw [e] at h; cases h
  | some t => rw [e] at h; rw [mono_type sub e]; exact mono_find sub h
theorem mono_takes {v : Value} {b : Bool} (h : PySem.W.takesIn K v = some b) : PySem.W.takesIn K' v = some b := by
  unfold PySem.W.takesIn at h ⊢
  cases e : PySem.W.specialIn K v "__set__" with
  | none => rw [e] at h; cases h
  | some t =>
    rw [e] at h
    rw [mono_special sub e]
    cases t with
    | some u => exact h
    | none =>
      cases e2 : PySem.W.specialIn K v "__delete__" with
      | none => simp only [e2] at h; cases h
      | some t => simp only [e2] at h; simp only [mono_special sub e2]; exact h
theorem mono_mro {a : Addr} {v : Value} {b : Bool} (h : PySem.W.mroIn K a v = some b) : PySem.W.mroIn K' a v = some b := by
  unfold PySem.W.mroIn at h ⊢
  cases e : PySem.W.clsIn K a with
  | none => rw [e] at h; cases h
  | some t => rw [e] at h; rw [mono_cls sub e]; exact h
theorem mono_sub {t v : Value} {b : Bool} (h : PySem.W.subIn K t v = some b) : PySem.W.subIn K' t v = some b := by
  unfold PySem.W.subIn at h ⊢
  split at h
  · exact h
  · exact mono_mro sub h
  · cases h
theorem mono_code {v : Value} {n : Str} (h : PySem.W.codeIn K v n = true) : PySem.W.codeIn K' v n = true := by
  unfold PySem.W.codeIn at h ⊢
  split at h
  · rename_i a
    cases e : K.lookup a with
    | none => rw [e] at h; cases h
    | some o => rw [e] at h; simp only [sub _ _ e]; exact h
  · cases h
theorem mono_keep {v : Value} (h : PySem.W.keepIn K v = true) : PySem.W.keepIn K' v = true := by
  unfold PySem.W.keepIn at h ⊢
  split at h
  · rename_i a
    cases e : K.lookup a with
    | none => rw [e] at h; cases h
    | some o =>
      rw [e] at h
      simp only [sub _ _ e]
      split at h
      · rfl
      · simp only [beq_iff_eq] at h ⊢
        exact mono_special sub h
      · cases h
  · cases h
theorem mono_isFn {v : Value} (h : PySem.W.isFn K v = true) : PySem.W.isFn K' v = true := by
  unfold PySem.W.isFn at h ⊢
  simp only [beq_iff_eq] at h ⊢
  exact mono_type sub h
theorem mono_isCls {a : Addr} (h : PySem.W.isClsIn K a = true) : PySem.W.isClsIn K' a = true := by
  unfold PySem.W.isClsIn at h ⊢
  cases e : PySem.W.clsIn K a with
  | none => rw [e] at h; cases h
  | some t => rw [mono_cls sub e]; rfl
theorem mono_hasDict {a : Addr} (h : PySem.W.hasDictIn K a = true) : PySem.W.hasDictIn K' a = true := by
  unfold PySem.W.hasDictIn at h ⊢
  cases e : PySem.W.clsIn K a with
  | none => rw [e] at h; cases h
  | some t => rw [e] at h; rw [mono_cls sub e]; exact h
theorem mono_plainOver {a : Addr} (h : PySem.W.plainOver K a = true) : PySem.W.plainOver K' a = true := by
  unfold PySem.W.plainOver at h ⊢
  cases e : PySem.W.clsIn K a with
  | none => rw [e] at h; cases h
  | some t => rw [e] at h; rw [mono_cls sub e]; exact h
theorem mono_plainGet {a : Addr} {n : Str} (h : PySem.W.plainGet K a n = true) : PySem.W.plainGet K' a n = true := by
  unfold PySem.W.plainGet at h ⊢
  simp only [Bool.and_eq_true, beq_iff_eq] at h ⊢
  exact ⟨mono_find sub h.1, mono_find sub h.2⟩
theorem mono_super {a b : Addr} {n : Str} {r : Option Value} (h : PySem.W.ks_superIn K a b n = some r) : PySem.W.ks_superIn K' a b n = some r := by
  unfold PySem.W.ks_superIn at h ⊢
  cases e : PySem.W.clsIn K a with
  | none => rw [e] at h; cases h
  | some t => rw [e] at h; rw [mono_cls sub e]; exact mono_along sub h
theorem mono_kitCls {t c : Value} {b : Bool} (h : PySem.W.kitCls K t c = some b) : PySem.W.kitCls K' t c = some b := by
  unfold PySem.W.kitCls at h ⊢
  split at h
  · rename_i C
    split at h
    · rename_i q
      simp only [Bool.and_eq_true, beq_iff_eq] at q
      have q1 : (PySem.W.clsIn K' C).isSome = true := by
        cases e : PySem.W.clsIn K C with
        | none => rw [e] at q; cases q.1
        | some t => rw [mono_cls sub e]; rfl
      simp only [q1, mono_type sub q.2, mono_sub sub h]
      simp
    · cases h
  · rename_i T
    split at h
    · rename_i q
      simp only [q, if_true]
      exact mono_sub sub h
    · cases h
  · cases h
theorem mono_kitOne {t c : Value} {b : Bool} (h : PySem.W.kitOne K t c = some b) : PySem.W.kitOne K' t c = some b := by
  unfold PySem.W.kitOne at h ⊢
  split at h
  · rename_i q
    rw [if_pos q]
    exact h
  · rename_i q
    rw [if_neg q]
    exact mono_kitCls sub h
theorem mono_nsOk {a : Addr} (h : PySem.W.nsOkIn K a = true) : PySem.W.nsOkIn K' a = true := by
  unfold PySem.W.nsOkIn at h ⊢
  cases e : K.lookup a with
  | none => rw [e] at h; cases h
  | some o => rw [e] at h; rw [sub _ _ e]; exact h
end
theorem mSet_no_rt {i : Nat} {m : MX} : ∀ (ρ : ML.Env) (st : Store) (a : A) (st' : Store), mSet i m ρ st ≠ .rt a st' := fun ρ st a st' h => by
  unfold mSet at h
  cases e : m ρ st with
  | ok a st => rw [e] at h; cases h
  | er x st => rw [e] at h; cases h
  | bad => rw [e] at h; cases h
/-! ### the table of a def: one alone -/
theorem tabC_is {K : PySem.W.Frag} {mg : Str → Option Value} {n : Str} {c p : Addr} (h : TabC K mg n c p) : TabIs K mg n p := by
  obtain ⟨f, fo, co, fd, vs, h1, h2, h3, h4, h5, h6, h7⟩ := h
  exact ⟨f, c, fo, co, fd, vs, h1, h2, h3, h4, h5, h6, h7⟩
theorem tabC_one {K : PySem.W.Frag} {mg : Str → Option Value} {n : Str} {c p c' p' : Addr} (h : TabC K mg n c p) (h' : TabC K mg n c' p') : c' = c ∧ p' = p := by
  obtain ⟨f, fo, co, fd, vs, h1, h2, h3, h4, h5, h6, h7⟩ := h
  obtain ⟨f', fo', co', fd', vs', g1, g2, g3, g4, g5, g6, g7⟩ := h'
  rw [h1] at g1
  cases g1
  rw [h2] at g2
  cases g2
  rw [h3] at g3
  cases g3
  rw [h4] at g4
  cases g4
  rw [h5] at g5
  cases g5
  rw [h6] at g6
  cases g6
  rw [h7] at g7
  cases g7
  exact ⟨rfl, rfl⟩
end ML
/-! ML33: the end of a law that asks for repr and one of whose defs makes lambdas. -/
namespace ML
open PySem PySem.Spec PyProof.Rows L2
section
variable {P : Program} {w : World} {K : PySem.W.Frag} {mg : Str → Option Value} {base : Heap}
/-- a def's promise where no repr runs, by its body -/
theorem fnG_of {x qual : Str} {st : Stmt} {f : Addr} {fd : FuncData} {N ps : List Str} {k : Nat} {sp : Sp} (F : Fun K x qual st f fd) (S : FnScope N ps (defScope st)) (len : ∀ vs H Q E, sp vs H Q E → vs.length = ps.length)
    (hb : ∀ (cdv : Value) (A : Around) (outer : List PySem.Env) (s : Shared) (H : Hp) (vs : List V) (Q : VK) (E : XK), A.guards = some [] → Room k (A.deeper (PyProof.Rows.envOfC qual (defScope st) s.heap.objs.size f cdv)) → sp vs H Q E →
      ∃ t, PSs (cxOf (L2.CX P w) P w K mg base N qual (defScope st) f cdv A outer s H E) (defBody st) t ∧ t { nx := fun _ H' => Q .non H', rt := Q } (start N vs) H) :
    FnG P w K mg base (k + 1) f fd ps sp := by
  obtain ⟨oc, od, kV, doc, pm, an, cdv, ct, osl, e1, lk, hcd⟩ := F.ex
  subst e1
  refine ⟨len, fun A outer s H args us vs Q E hg hr e0 hbd rel hsp => ?_⟩
  have lv := len _ _ _ _ hsp
  have up : ∀ b o, base.get? b = some o → s.heap.get? b = some o := fun b o e => (e0.bs b o e).1
  have names : ∀ y ∈ ps.zip us, (defScope st).names.lookup y.1 = some .local ∨ ((defScope st).names.lookup y.1 = some .cell ∧ ((cellsFrom (s.heap.objs.size + 1) (defScope st).names []).lookup y.1).isSome = true) := by
    rintro ⟨n, v⟩ hy
    exact (S.par n (List.of_mem_zip hy).1).imp id fun q => ⟨q, PySem.W.cellsFrom_some _ _ _ (.inl q)⟩
  have KX : K.In s.heap := e0.mod.kin.keeps up
  refine codeAny_call_function hr.depth (KX _ _ lk) rfl S.co S.gen rfl (PySem.W.codeRec_of KX hcd) (hbd _ _ _ _ (wpAny_newFunctionEnv_cells S.kind names fun env he s1 x => ?_))
  subst he
  refine ⟨(e0.mod.nolimit.keeps up).keeps x.toInCall.keep, codeAny_func ?_⟩
  obtain ⟨t, ht, sat⟩ := hb cdv A outer s H vs Q E hg (hr.deeper _) hsp
  refine wpAny_mono (ht.run [] s1 (start N vs) H _ (inv_start (CX := L2.CX P w) (E := E) (N := N) (qual := qual) S hr.hd e0 lv rel x) sat) (fun fl s' hs => ?_) fun e s' hs => hs
  cases fl with
  | ret u => exact let ⟨v, σ', H', J, r, q⟩ := hs; ⟨v, H', J.os, J.bare, J.base, J.hok, r, q⟩
  | next => exact let ⟨σ', H', J, q⟩ := hs; ⟨V.non, H', J.os, J.bare, J.base, J.hok, rfl, q⟩
  | brk => exact hs.choose_spec.choose_spec.2.elim
  | cont => exact hs.choose_spec.choose_spec.2.elim
theorem fn_okGT {x qual n : Str} {stm s : Stmt} {rest : List Stmt} {f p : Addr} {fd : FuncData} {N : List Str} {k : Nat} {m1 m2 : MS} (F : Fun K qual qual stm f fd) (S : FnScope N [x] (defScope stm)) (hd : defBody stm = s :: rest) (hT : TabIs K mg n p)
    (hm : ∀ ρ st a st', m1 ρ st ≠ .rt a st') (hl : LawTrue (mFn N.length 1 (mSeq m1 (mSeq (mGhost n) m2))))
    (hb : ∀ (cdv : Value) (A : Around) (outer : List PySem.Env) (s0 : Shared) (H : Hp) (E : XK), A.guards = some [] → Room k (A.deeper (PyProof.Rows.envOfC qual (defScope stm) s0.heap.objs.size f cdv)) →
      PS (cxOf (L2.CX P w) P w K mg base N qual (defScope stm) f cdv A outer s0 H E) s (tS (cxOf (L2.CX P w) P w K mg base N qual (defScope stm) f cdv A outer s0 H E) (fun c d _ H' => E c d H') m1) ∧
      PSs (cxOf (L2.CX P w) P w K mg base N qual (defScope stm) f cdv A outer s0 H E) rest (tS (cxOf (L2.CX P w) P w K mg base N qual (defScope stm) f cdv A outer s0 H E) (fun c d _ H' => E c d H') m2)) :
    FnG P w K mg base (k + 1) f fd [x] (spLawT K p) := by
  refine fnG_of F S (fun vs H Q E ⟨a, ns, e, _⟩ => by rw [e]; rfl) fun cdv A outer s0 H vs Q E hg hr h => ?_
  obtain ⟨h1, h2⟩ := hb cdv A outer s0 H E hg hr
  obtain ⟨a, ns, rfl, hs, hp, hn, hbits, hq⟩ := h
  obtain ⟨st', e⟩ := hl ns hn hbits
  obtain ⟨_, ρ1, st1, st2, e1, e2⟩ := ghost_split hm e
  have hgh := pss_ghost (n := n) (P := p) h1 h2 hT
  rw [← hd] at hgh
  refine ⟨_, hgh, [], [ML.A.scr (ns.map ML.A.int)].map some ++ List.replicate (N.length - 1) none, [], ⟨rfl, List.nodup_nil, fun i a o h => by simp at h⟩, ?_, ⟨hp, by simp⟩, ⟨ρ1, st1, st2, e1, e2⟩, fun v H2 hv => ?_⟩
  · exact RE.start (.cons (.scr hs (RVs.mkInts ns)) .nil) _
  · rw [hv]
    exact hq H2
end
/-- the heap of a law's start: but the table nothing is known -/
def H0T (p : Addr) : Hp := fun b => if b = p then some (.tbl #[]) else none
theorem h0_at {p : Addr} : H0T p p = some (.tbl #[]) := if_pos rfl
theorem h0_ne {p b : Addr} (h : b ≠ p) : H0T p b = none := if_neg h
section
variable {P : Program} {w : World} {K : PySem.W.Frag} {mg mb : Str → Option Value} {k : Nat} {fa a c p : Addr} {fd : FuncData} {x : Str} {sp : Sp} {s1 : Shared}
/-- the law run, c its code object, p its table; the script belongs to K -/
theorem run_lawT (KX : K.In s1.heap) (hns : s1.heap.Ns mainGlobals mg) (hb : s1.heap.Ns builtinsNs mb) (hbb : ∀ x : Str, x ≠ "__name__" → mb x = bootBuiltins x) (hlim : s1.heap.NoLimit) (hg : s1.gens = #[])
    (hT : s1.heap.get? p = some { cls := .none, data := .fields #[] }) (nT : K.lookup p = none) (C : PySem.W.CodeHd s1.heap c p)
    (hbm : ∃ (bm : Addr) (ob : Obj), mg "__builtins__" = some (.ref bm) ∧ bm ≠ builtinsNs ∧ s1.heap.get? bm = some ob ∧ ob.cls = .type "module" ∧ ob.dict = some builtinsNs ∧ ob.data = .plain)
    (hr : Room k callerA) (F : ∀ base : Heap, K.In base → base.Ns mainGlobals mg → LamX.TabB base mg c p → FnG P w K mg base k fa fd [x] sp) (hbind : ∀ (s : Shared) (u : Value), BindsTo s fd ⟨[u], []⟩ [(x, u)])
    (hsp : sp [.ref a] (H0T p) (fun v _ => v = .bl true) fun _ _ _ => False) :
    codeAny (model P w) callerA (.call (.ref fa) ⟨[.ref a], []⟩) (fun r s' => r = .ok (.ret (.bool true)) ∧ OldK s1.heap s'.heap ∧ s'.os = s1.os ∧ AllBare s'.gens) s1 := by
  have ne : ∀ {b : Addr} {o : Obj}, s1.heap.get? b = some o → o.data ≠ .fields #[] → b ≠ p := fun {b o} e n z => by
    rw [z, hT] at e
    cases e
    exact n rfl
  have hid : ∀ {b : Addr} {o : Obj}, s1.heap.get? b = some o → b ≠ p → (hidT s1.heap (H0T p)).get? b = some o := fun e n => hidT_get e (h0_ne n)
  have nsK : ∀ {b : Addr} {m : Str → Option Value}, s1.heap.Ns b m → (hidT s1.heap (H0T p)).Ns b m := by
    rintro b m ⟨o, es, ep, e, d, r⟩
    exact ⟨o, es, ep, hid e (ne e (by rw [d]; exact fun z => by cases z)), d, r⟩
  have inB : K.In (hidT s1.heap (H0T p)) := fun b o e => hid (KX b o e) fun z => by
    rw [z, nT] at e
    cases e
  have lim : (hidT s1.heap (H0T p)).NoLimit := let ⟨mc, h1, h2⟩ := hlim; ⟨mc, nsK h1, h2⟩
  have gP : mainGlobals ≠ p := fun z => by
    obtain ⟨o, es, ep, e, hd, _⟩ := hns
    exact ne e (by rw [hd]; exact fun z => by cases z) z
  have TB : LamX.TabB (hidT s1.heap (H0T p)) mg c p := by
    refine { code := ?_, bm := ?_, gP := gP }
    · obtain ⟨o, us, file, tf, flags, tg, inF, text, tt, e1, r1, r2, r3, q⟩ := C
      exact ⟨o, us, file, tf, flags, tg, inF, text, tt, hid e1 (ne e1 fun z => by rw [r2] at z; cases z; simp at r3), r1, r2, r3, q⟩
    · obtain ⟨bm, ob, b1, b2, b3, b4, b5, b6⟩ := hbm
      have nG : bm ≠ mainGlobals := by
        rintro rfl
        obtain ⟨o, es, ep, e, hd, _⟩ := hns
        rw [b3] at e
        cases e
        rw [hd] at b6
        cases b6
      have nP : bm ≠ p := ne b3 (by rw [b6]; exact fun z => by cases z)
      exact ⟨bm, ob, b1, b2, nG, nP, hid b3 nP, b4, b5, b6⟩
  have hok : HOk P w (H0T p) s1.heap := fun b u z => by
    by_cases e : b = p
    · rw [e, h0_at] at z
      cases z
      rw [e]
      exact hT
    · rw [h0_ne e] at z
      cases z
  have e0 : Env0 P w K mg (hidT s1.heap (H0T p)) callerA [] s1 (H0T p) := ⟨rfl, ⟨inB, nsK hns, ⟨mb, nsK hb, hbb⟩, lim⟩, fun b o e => of_hidT e, Nat.le_of_eq (hidT_size _ _), trivial, (by intro b hb; cases hb), hok, .of_eq hg⟩
  refine codeAny_mono ((F _ inB (nsK hns) TB).run callerA [] s1 (H0T p) ⟨[.ref a], []⟩ [.ref a] [.ref a] _ _ rfl hr e0 (hbind s1 (.ref a)) (.cons rfl .nil) hsp) fun r s' h => ?_
  cases r with
  | error e => exact let ⟨_, _, _, _, _, _, _, _, _, _, _, _, z⟩ := h; z.elim
  | ok fl =>
    cases fl with
    | next => exact False.elim h
    | brk => exact False.elim h
    | cont => exact False.elim h
    | ret u =>
      obtain ⟨v, H', os, bare, un, ok', rel, q⟩ := h
      have q : v = .bl true := q
      subst q
      have rel : u = Value.bool true := rel
      subst rel
      obtain ⟨more, z⟩ := un.tbls p #[] h0_at
      have grown : s'.heap.get? p = some { cls := .none, data := .fields (#[] ++ more) } := ok' p _ z
      have key : ∀ b o, b ≠ p → s1.heap.get? b = some o → s'.heap.get? b = some o := fun b o nb e => un.keep b o e (h0_ne nb) (by simp [frs]) (by simp)
      refine ⟨rfl, ⟨fun b o e => ?_, fun b o e => ?_⟩, os, bare⟩
      · by_cases hbp : b = p
        · rw [hbp] at e ⊢
          rw [hT] at e
          cases e
          exact .inr (.inl ⟨(C.tab hT).isCodeTable, rfl, #[], more, rfl, grown⟩)
        · exact .inl (key b o hbp e)
      · by_cases hbp : b = p
        · exact ⟨_, by rw [hbp]; exact grown⟩
        · exact ⟨o, key b o hbp e⟩
end
open PySem.W in
theorem law_endGT {l : PySem.W.OpenLaw} {k : Nat} {q : Program} {loose : List Str} {XP : (Str → Option Value) → Heap → Prop} {YP : World → Heap → Prop} {d : DefRec} {K : Params → PySem.W.Frag} {ts : List Addr} {x : Str}
    (hn : l.most = some 63) (hdf : d.params.defaults = []) (hr : Room k callerA) (hY : ∀ (w : World) (h : Heap), YP w h → (K w.params).In h ∧ ∀ P ∈ ts, h.get? P = some { cls := .none, data := .fields #[] })
    (F : ∀ (w : World) (mg : Str → Option Value) (fa : Addr) (h : Heap) (K' : PySem.W.Frag), K'.In h → (∀ b o, (K w.params).lookup b = some o → K'.lookup b = some o) → h.Ns mainGlobals mg → mg d.name = some (.ref fa) →
      ∃ (fd : FuncData) (c p : Addr), p ∈ ts ∧ (K w.params).lookup p = none ∧ codeHdIn (K w.params) c p = true ∧ (∀ (s : Shared) (u : Value), BindsTo s fd ⟨[u], []⟩ [(x, u)]) ∧
        ∀ base : Heap, K'.In base → base.Ns mainGlobals mg → LamX.TabB base mg c p → FnG l.prog w K' mg base k fa fd [x] (spLawT K' p)) :
    PySem.W.WalkO q loose XP YP l.row.toRowW d [] (fun f vs => PySem.call f vs) := by
  refine Att.attach_callB hn hdf fun w s0 s1 mg mb fa o pm cd doc a vs ns G Y ho hd hcd hmg hobj hints hlen hbits hg => ?_
  obtain ⟨KX, hts⟩ := hY w _ Y
  obtain ⟨ob, hob⟩ : ∃ ob : Obj, ob = ({ cls := .type "list", data := .seq vs.toArray } : Obj) := ⟨_, rfl⟩
  have hobj0 := hobj
  rw [← hob] at hobj
  have sub : ∀ b o, (K w.params).lookup b = some o → (K w.params ++ [(a, ob)]).lookup b = some o := fun b o e => by
    rw [List.lookup_append, e]
    rfl
  have lka : (K w.params ++ [(a, ob)]).lookup a = some ob := by
    rw [List.lookup_append]
    cases e : (K w.params).lookup a with
    | none => simp [List.lookup]
    | some o' =>
      have := KX a o' e
      rw [hobj] at this
      rw [← this]
      rfl
  have KX' : Frag.In (K w.params ++ [(a, ob)]) s1.heap := fun b o e => by
    by_cases hb : b = a
    · rw [hb, lka] at e
      rw [hb, ← e]
      exact hobj
    · rw [List.lookup_append] at e
      cases e2 : (K w.params).lookup b with
      | none =>
        rw [e2] at e
        have hb' : (b == a) = false := by simpa using hb
        simp [List.lookup, hb'] at e
      | some o' =>
        rw [e2] at e
        rw [← e]
        exact KX b o' e2
  generalize hK' : (K w.params ++ [(a, ob)]) = K' at sub lka KX'
  obtain ⟨fd, c, p, hp, hpn, hch, hb, hF⟩ := F w mg fa _ K' KX' sub G.T.g hmg
  have hTp := hts p hp
  have pa : p ≠ a := fun z => by
    rw [z, hobj0] at hTp
    cases hTp
  have hpn' : K'.lookup p = none := by
    have pa' : (p == a) = false := by simpa using pa
    rw [← hK', List.lookup_append, hpn]
    simp [List.lookup, pa']
  have lenV := hints.length
  refine run_lawT KX' G.T.g G.T.b G.T.builtins G.T.nolimit hg hTp hpn' (codeHd_of_K KX hch) G.T.bmain hr hF hb ⟨a, ns, rfl, .inr ⟨_, vs.toArray, _, lka, by rw [hob], by rw [hob], by rw [hob], ?_, ?_⟩, h0_at, hlen, hbits, fun _ => rfl⟩
  · have : vs.length ≤ 63 := by omega
    simp [sizeLine]
    omega
  · have := L2.vals_ints hints
    simpa using this
end ML
/-! ML34: a property of an own class, read. -/
namespace ML
open PySem PySem.Spec L2 PyProof.Rows
def mProp (cls : Str) (mf : MF) (mo : MX) : MX := fun ρ st => (mo ρ st).bind fun x st1 => match insA cls x st1 with
  | some _ => match mf [x] st1 with
    | .ok a st2 => .ok a st2
    | _ => .bad
  | none => .bad
/-- a def that is the getter of a property, as the top has left it -/
structure GP (K : PySem.W.Frag) (mg : Str → Option Value) (cls f qual : Str) (st : Stmt) (ps : List Str) : Prop where
  ex : ∃ (C p g : Addr) (fd : FuncData), mg cls = some (.ref C) ∧ L2.Cls K C ∧ PropOf K C f p g ∧ Fun K f qual st g fd ∧ Binds K fd ps []
structure CalP (P : Program) (w : World) (K : PySem.W.Frag) (mg : Str → Option Value) (base : Heap) (cls f : Str) (k : Nat) (mf : MF) : Prop where
  ex : ∃ (C p g : Addr) (fd : FuncData) (ps : List Str), mg cls = some (.ref C) ∧ L2.Cls K C ∧ PropOf K C f p g ∧ Binds K fd ps [] ∧ FnOk P w K mg base (L2.CX P w) k g fd ps (spM K w mg mf)
theorem calp_of {P : Program} {w : World} {K : PySem.W.Frag} {mg : Str → Option Value} {base : Heap} {cls m qual : Str} {st : Stmt} {N ps : List Str} {k : Nat} {body : MS} (G : GP K mg cls m qual st ps) (S : FnScope N ps (defScope st))
    (hb : ∀ (f : Addr) (cdv : Value) (A : Around) (outer : List PySem.Env) (s : Shared) (H : Hp) (E : XK), Room k (A.deeper (PyProof.Rows.envOfC qual (defScope st) s.heap.objs.size f cdv)) →
      PSs (cxOf (L2.CX P w) P w K mg base N qual (defScope st) f cdv A outer s H E) (defBody st) (tS (cxOf (L2.CX P w) P w K mg base N qual (defScope st) f cdv A outer s H E) (fun c d _ H' => E c d H') body)) :
    CalP P w K mg base cls m (k + 1) (mFn N.length ps.length body) := by
  obtain ⟨C, p, f, fd, h1, h2, h3, F, b⟩ := G.ex
  exact ⟨C, p, f, fd, ps, h1, h2, h3, b, fn_ok F S (hb f)⟩
section
variable {X : Cx} {W : WX} {o : Expr} {f cls : Str} {pos : Pos} {mo : MX} {mf : MF} {k : Nat}
theorem me_prop (M : CalP X.prog X.w X.K X.mg X.base cls f k mf) (hr : Room (k + 1) X.A) (ho : PE X o (tE X W mo)) (hab : attributeBase o f X.env (eval o X.env) = eval o X.env := by rfl) :
    PE X (.Attribute o f pos) (tE X W (mProp cls mf mo)) := by
  obtain ⟨C, p, g, fd, ps, hC, hc, hp, hb, F⟩ := M.ex
  refine (pe_prop (E := fun _ _ _ => False) ho hc hp F hr hb .nil (fun pins σ H s e s' I c => by obtain ⟨_, _, _, _, _, _, _, _, _, _, _, _, z⟩ := c; exact z.elim) hab).imp fun σ H Q ⟨φ, ρ, st, rs, re, h⟩ => ?_
  refine ⟨φ, ρ, st, rs, re, h.seq fun φ1 d x H1 st1 e1 rs1 rv1 h1 => ?_⟩
  cases q : insA cls d st1 with
  | none => rw [q] at h1; exact h1.elim
  | some fs =>
    rw [q] at h1
    simp only at h1
    obtain ⟨r, p', C', dx, vs, rfl, rfl, g1, g2, g3, g4, g5, g6, g7⟩ := ins_at rs1 rv1 q
    rw [hC] at g3
    cases g3
    refine ⟨p', dx, _, rfl, g4, φ1, [.ref r], st1, rs1, .cons rv1 .nil, ?_⟩
    cases e : mf [.ref r] st1 with
    | ok a st2 =>
      rw [e] at h1
      exact h1
    | er x st2 => rw [e] at h1; exact h1.elim
    | bad => rw [e] at h1; exact h1.elim
end
theorem mono_rec {K K' : PySem.W.Frag} (sub : ∀ b o, K.lookup b = some o → K'.lookup b = some o) {a : Addr} {T : String} {vs : List Value} (h : PySem.W.recIn K a T = some vs) : PySem.W.recIn K' a T = some vs := by
  unfold PySem.W.recIn at h ⊢
  cases e : K.lookup a with
  | none => rw [e] at h; cases h
  | some o => rw [e] at h; rw [sub _ _ e]; exact h
theorem mono_inst {K K' : PySem.W.Frag} (sub : ∀ b o, K.lookup b = some o → K'.lookup b = some o) {v t : Value} {b : Bool} (h : PySem.W.instIn K v t = some b) : PySem.W.instIn K' v t = some b := by
  unfold PySem.W.instIn at h ⊢
  cases e : PySem.W.typeIn K v with
  | none => rw [e] at h; cases h
  | some c => rw [e] at h; rw [mono_type sub e]; exact mono_sub sub h
theorem mono_makes {K K' : PySem.W.Frag} (sub : ∀ b o, K.lookup b = some o → K'.lookup b = some o) {C : Addr} (h : PySem.W.makesIn K C = true) : PySem.W.makesIn K' C = true := by
  unfold PySem.W.makesIn at h ⊢
  cases e : K.lookup C with
  | none => rw [e] at h; cases h
  | some o =>
    rw [e] at h
    rw [sub _ _ e]
    obtain ⟨c, d, u, sl⟩ := o
    cases u <;> first | exact h | skip
    simp only [Bool.and_eq_true, beq_iff_eq] at h ⊢
    exact ⟨⟨h.1.1, mono_special sub h.1.2⟩, mono_inst sub h.2⟩
end ML
/-! ML35: len(x) of an instance whose class has its own __len__. -/
namespace ML
open PySem PySem.Spec L2 PyProof.Rows
def lenO (cls : Str) (mf : MF) : List A → Store → R A
  | [x], st => match insA cls x st with
    | some _ => match mf [x] st with
      | .ok (.int n) st2 => if 0 ≤ n ∧ n < 2 ^ 62 then .ok (.int n) st2 else .bad
      | _ => .bad
    | none => .bad
  | _, _ => .bad
section
variable {X : Cx} {cls : Str} {mf : MF} {k : Nat}
def rLenO (X : Cx) (C : Addr) (mf : MF) : List V → Hp → VK → Prop := fun vs H Q => ∃ a dx fs, vs = [.ref a] ∧ H a = some (.ins C dx fs) ∧ spM X.K X.w X.mg mf [.ref a] H (fun v H' => ∃ n : Int, v = .int n ∧ 0 ≤ n ∧ n < 2 ^ 62 ∧ Q (.int n) H') fun _ _ _ => False
theorem call_lenO {C f : Addr} {fd : FuncData} {ps : List Str} (hm : Meth X.K C "__len__" f) (hb : Binds X.K fd ps []) (F : FnOk X.prog X.w X.K X.mg X.base (L2.CX X.prog X.w) k f fd ps (spM X.K X.w X.mg mf)) (hr : Room (k + 2) X.A) : CallR X (.builtin "len") (rLenO X C mf) := by
  intro pins s σ H vs us Q I r ⟨a, dx, fs, e1, ea, h⟩
  subst e1
  obtain rfl := Vals.ref1 r
  obtain ⟨mA, J, _⟩ := ins_get I.hok ea
  obtain ⟨od, J, _⟩ := J.look
  refine Calls.call_function_entry kind_len plain_len entry_len (args_len1 _) ?_
  unfold Builtin.«len»
  refine wpAny_bind (m := oneArg "len" _) (wpAny_pure ?_)
  refine wpAny_bind (m := callSpecial? (.ref a) (PySem.Str.ofString "__len__")) (PySem.W.special_fn (args := []) I.kIn J hm.at_ (beq_iff_eq.mp hm.fn) ?_)
  have hl : ([Value.ref a] ++ ([] : List Value)).length = ps.length := by
    rw [← F.len _ _ _ _ h]
    rfl
  have bt := hb s [.ref a] I.kIn hl
  rw [List.append_nil] at bt
  refine wpAny_call (codeAny_mono (F.run X.A.in1 X.stack s H ⟨[.ref a], []⟩ [.ref a] [.ref a] _ _ (hr.in1.mono (by omega)) I.env0.in1 bt (.cons rfl .nil) h) fun r s' hq => ?_)
  cases r with
  | error er =>
    obtain ⟨_, _, _, _, _, _, _, _, _, _, _, _, z⟩ := hq
    exact z.elim
  | ok fl =>
    cases fl with
    | ret u =>
      obtain ⟨v, H', I3, rv, n, e2, h0, h1, q⟩ := I.after hq
      subst e2
      obtain ⟨t, rfl⟩ : ∃ t, u = .int n t := rv
      refine wpAny_bind (wpAny_holding (wpAny_pure ?_))
      refine wpAny_bind (wpAny_letGo ?_)
      show wpAny _ _ (if n < 0 then _ else _) _ _ _
      rw [if_neg (by omega)]
      show wpAny _ _ (if n ≥ 2 ^ 63 then _ else _) _ _ _
      rw [if_neg (by omega)]
      exact wpAny_bind (wpAny_mkInt (wpAny_pure ⟨_, rfl, .int n, H', I3.tok _, ⟨_, rfl⟩, q⟩))
    | next => exact False.elim hq
    | brk => exact False.elim hq
    | cont => exact False.elim hq
theorem cs_lenO {C : Addr} (hC : X.mg cls = some (.ref C)) : CaS X (rLenO X C mf) (lenO cls mf) := fun W φ H st vs as Q rs rv h => by
  unfold lenO at h
  split at h
  · rename_i x
    obtain ⟨v, rfl, r⟩ := one_rv rv
    cases q : insA cls x st with
    | none => rw [q] at h; exact h.elim
    | some fs =>
      rw [q] at h
      simp only at h
      obtain ⟨i, p, C', dx, ws, rfl, rfl, g1, g2, g3, g4, g5, g6, g7⟩ := ins_at rs r q
      rw [hC] at g3
      cases g3
      refine ⟨p, dx, _, rfl, g4, φ, [.ref i], st, rs, .cons r .nil, ?_⟩
      cases e : mf [.ref i] st with
      | ok a st2 =>
        rw [e] at h
        cases a with
        | int n =>
          simp only at h
          split at h
          · rename_i c
            intro φ' v' H' ex rs' rv'
            cases rv'
            exact ⟨n, rfl, c.1, c.2, (h.mono ex).ok rs' (.int n)⟩
          · exact h.elim
        | _ => exact h.elim
      | er x st2 => rw [e] at h; exact h.elim
      | bad => rw [e] at h; exact h.elim
  · exact h.elim
variable {W : WX} {e : Expr} {es : List Expr} {p pos : Pos} {ms : MA}
theorem me_lenO (M : CalM X.prog X.w X.K X.mg X.base cls "__len__" k mf) (hr : Room (k + 2) X.A) (hm : X.mg "len" = none) (ha : PA X [e] (tA X W ms)) (hg : Gl X "len" := by rfl) (he : starEach [e] X.env = (false, eval e X.env) :: starEach [] X.env := by rfl)
    (hpl : (backTo pos (starEach [] X.env)).any (·.1) = false := by rfl) : PE X (.Call (.Name "len" p) [e] [] pos) (tE X W (mCa (lenO cls mf) ms)) := by
  obtain ⟨C, f, fd, ps, hC, hc, hm2, hb, F⟩ := M.ex
  exact me_callB (call_lenO hm2 hb F hr) (cs_lenO hC) PySem.boot_len hm ha hg (by decide) (by decide) he hpl
end
end ML
/-! ML36: o.m(e, ..) within a try: what is raised is wished for at the caller's slots. -/
namespace ML
open PySem PySem.Spec L2 PyProof.Rows
section
variable {X : Cx} {W : WX} {o e : Expr} {es : List Expr} {m cls : Str} {pos apos : Pos} {mo : MX} {ms : MA} {mf : MF} {k : Nat} {pl : Sem Bool}
theorem me_methS (M : CalM X.prog X.w X.K X.mg X.base cls m k mf) (hr : Room k X.A) (tk : Takes X W) (ho : PE X o (tE X W mo)) (ha : PA X (e :: es) (tA X W ms))
    (hst : starEach (e :: es) X.env = (false, eval e X.env) :: starEach es X.env := by rfl) (hpl : (backTo pos (starEach es X.env)).any (·.1) = false := by rfl)
    (ht : eval (.Call (.Attribute o m apos) (e :: es) [] pos) X.env = (do
      let ov ← eval o X.env
      standAt apos.atName
      let (f, first) ← holding [ov] (getMethod ov m pl)
      callWith pos f first (backTo pos (starEach (e :: es) X.env)) (backToKw pos (keywordEach [] X.env))) := by rfl) :
    PE X (.Call (.Attribute o m apos) (e :: es) [] pos) (tE X W (mMeth cls m mf mo ms)) := by
  obtain ⟨C, f, fd, ps, hC, hc, hm, hb, F⟩ := M.ex
  refine ⟨fun pins s σ H Q I ⟨φ, ρ, st, rs, re, h⟩ => ?_⟩
  have h2 := ho.run pins s σ H (fun x H1 => ∃ (p dx : Addr) (fs : List (Str × V)), x = .ref p ∧ H1 p = some (.ins C dx fs) ∧ fs.lookup m = none ∧ tA X W ms σ H1 fun vs H2 => spM X.K X.w X.mg mf (.ref p :: vs) H2 Q (WE W σ)) I ⟨φ, ρ, st, rs, re, h.seq fun φ1 a x H1 st1 e1 rs1 rv1 h1 => by
    cases q : insA cls a st1 with
    | none => rw [q] at h1; exact h1.elim
    | some fs =>
      rw [q] at h1
      simp only at h1
      obtain ⟨r, p, C', dx, vs, rfl, rfl, g1, g2, g3, g4, g5, g6, g7⟩ := ins_at rs1 rv1 q
      rw [hC] at g3
      cases g3
      split at h1
      · rename_i hl
        refine ⟨p, dx, _, rfl, g4, look_none (by have := g7.length; simpa using this) hl, φ1, ρ, st1, rs1, re.ext e1, h1.seq fun φ2 ds us H2 st2 e2 rs2 rv2 h2 => ?_⟩
        exact ⟨φ2, .ref r :: ds, st2, rs2, .cons (rv1.ext e2) rv2, h2⟩
      · exact h1.elim⟩
  refine PySem.W.methodCall_KW (pl := pl) (thn h2 fun u s1 ⟨x, H1, I1, rx, a, dx, fs, ex, ea, l, q⟩ => ?_) ht
  subst ex
  have rx : u = Value.ref a := rx
  subst rx
  refine getmeth_ok I1 ea hc hm l ?_
  refine PySem.W.callWith_K (first := [.ref a]) (h₀ := X.base) I.ok.mod.kin hm.kp (thn (ha.run pos pins s1 σ H1 _ I1 q) fun us s2 ⟨vs, H2, I2, r, q2⟩ => ⟨I2.kIn, ?_⟩) hst hpl
  exact run_fnS (E := WE W) (us := .ref a :: us) (vs := .ref a :: vs) F hr hb (passAt tk σ) I2 (.cons rfl r) q2
end
end ML
/-! ML37: a def with one positional parameter and a keyword-only one whose default is (); all(list of bools). -/
namespace ML
open PySem PySem.Spec L2 PyProof.Rows
section
variable {P : Program} {w : World} {K : PySem.W.Frag} {mg : Str → Option Value} {base : Heap}
structure GK (K : PySem.W.Frag) (mg : Str → Option Value) (x kw : Str) (st : Stmt) (ps : List Str) : Prop where
  ex : ∃ (f : Addr) (fd : FuncData) (T : Addr), mg x = some (.ref f) ∧ Fun K x x st f fd ∧ KTup K T [] ∧ KBn K fd ps 1 [kw] (fun us ws => us ++ ws) (fun vs zs => vs ++ zs) ∧ Binds K fd ps [.ref T]
structure CalK (P : Program) (w : World) (K : PySem.W.Frag) (mg : Str → Option Value) (base : Heap) (x kw : Str) (k : Nat) (m : MF) : Prop where
  ex : ∃ (f : Addr) (fd : FuncData) (ps : List Str) (T : Addr), mg x = some (.ref f) ∧ PySem.W.keepIn K (.ref f) = true ∧ KTup K T [] ∧ KBn K fd ps 1 [kw] (fun us ws => us ++ ws) (fun vs zs => vs ++ zs) ∧ Binds K fd ps [.ref T] ∧ FnOk P w K mg base (L2.CX P w) k f fd ps (spM K w mg m)
theorem calk_of {x kw : Str} {st : Stmt} {N ps : List Str} {k : Nat} {body : MS} (G : GK K mg x kw st ps) (S : FnScope N ps (defScope st))
    (hb : ∀ (f : Addr) (cdv : Value) (A : Around) (outer : List PySem.Env) (s : Shared) (H : Hp) (E : XK), Room k (A.deeper (PyProof.Rows.envOfC x (defScope st) s.heap.objs.size f cdv)) →
      PSs (cxOf (L2.CX P w) P w K mg base N x (defScope st) f cdv A outer s H E) (defBody st) (tS (cxOf (L2.CX P w) P w K mg base N x (defScope st) f cdv A outer s H E) (fun c d _ H' => E c d H') body)) :
    CalK P w K mg base x kw (k + 1) (mFn N.length ps.length body) := by
  obtain ⟨f, fd, T, h1, F, hT, b1, b2⟩ := G.ex
  exact ⟨f, fd, ps, T, h1, F.kp, hT, b1, b2, fn_ok F S (hb f)⟩
/-- as the top has left it: D the dict of its keyword's default, T the empty tuple -/
theorem gk_mk {x kw : Str} {st : Stmt} {ps : List Str} {f D T : Addr} {oc : Value} {od : Option Addr} {doc pm : Value} {an : Option Addr} {cdv ct : Value} {osl : Array (Option Value)} {tn : Nat} {ts : Array (Option Value)}
    (hm : mg x = some (.ref f)) (lk : K.lookup f = some ⟨oc, od, .func (PySem.W.fnOf x x (defArgs st) (defBody st) (defScope st) .none (.ref D) doc pm an cdv ct), osl⟩) (hc : PySem.W.codeIn K cdv x = true) (hk : PySem.W.keepIn K (.ref f) = true)
    (hD : PySem.W.nsIn K D kw = some (some (.ref T))) (hT : K.lookup T = some ⟨.type "tuple", none, .seq #[] tn, ts⟩) (hn : ps.length = 2)
    (h0 : ∀ (D : Addr) (doc pm : Value) (an : Option Addr) (cdv ct : Value) (us ks : List Value), us.length = 1 → ks.length = 1 →
      KwChain D ([kw].zip ks) (bindArgs (PySem.W.fnOf x x (defArgs st) (defBody st) (defScope st) .none (.ref D) doc pm an cdv ct) ⟨us, []⟩) (ps.zip (us ++ ks)))
    (h1 : ∀ (doc pm : Value) (an : Option Addr) (D : Addr) (cdv ct u w : Value), bindArgs (PySem.W.fnOf x x (defArgs st) (defBody st) (defScope st) .none (.ref D) doc pm an cdv ct) ⟨[u], [(kw, w)]⟩ = pure (ps.zip [u, w])) : GK K mg x kw st ps := by
  have FD : FunD K x x (defArgs st) (defBody st) (defScope st) [] [(kw, V.ref T)] f (PySem.W.fnOf x x (defArgs st) (defBody st) (defScope st) .none (.ref D) doc pm an cdv ct) := ⟨⟨_, _, _, _, _, _, _, _, _, _, rfl, lk, hc, .inl ⟨rfl, rfl⟩, .inr ⟨D, rfl, fun q hq => by
    rw [List.mem_singleton.mp hq]
    exact ⟨_, hD, rfl⟩⟩⟩, hk⟩
  obtain ⟨ds, rv, b⟩ := FD.binds0 (ps := ps) 1 (by simp) (by rw [hn]; rfl) (fun D doc pm an cdv ct us ks q1 q2 => h0 D doc pm an cdv ct us ks q1 q2)
  obtain ⟨u, rfl, ru⟩ := vals1 rv
  have ru : u = Value.ref T := ru
  subst ru
  refine ⟨f, _, T, hm, ⟨⟨_, _, _, _, _, _, _, _, _, rfl, lk, hc⟩, hk⟩, ⟨_, _, _, hT, rfl, rfl, rfl, by simp, .nil⟩, ⟨fun s us ws X l1 l2 => ?_, fun r1 r2 => r1.append r2⟩, b⟩
  match us, ws, l1, l2 with
  | [u], [w], _, _ => exact .of_eq (h1 _ _ _ _ _ _ _ _)
end
section
variable {X : Cx} {W : WX} {x kw : Str} {m : MF} {k : Nat} {e b : Expr} {p pos kpos : Pos} {ma mb : MX}
/-- f(e) -/
theorem me_callK0 (C : CalK X.prog X.w X.K X.mg X.base x kw k m) (hr : Room k X.A) (tk : Takes X W) (ha : PA X [e] (tA X W (mCons ma mNil))) (hg : Gl X x := by rfl)
    (hdb : (x == ("__debug__" : Str)) = false := by decide) (he : starEach [e] X.env = (false, eval e X.env) :: starEach [] X.env := by rfl) (hpl : (backTo pos (starEach [] X.env)).any (·.1) = false := by rfl) :
    PE X (.Call (.Name x p) [e] [] pos) (tE X W (mCall m (mCons ma (mCons (mC (.tup [])) mNil)))) := by
  obtain ⟨f, fd, ps, T, hm, hk, hT, hb1, hb, F⟩ := C.ex
  refine (pe_callSD (dvs := [V.ref T]) (ds := [.ref T]) F hr hg hm hk hb (.cons rfl .nil) (E := WE W) (fun σ => passAt tk σ) ha hdb he hpl).imp fun σ H Q ⟨φ, ρ, st, rs, re, h⟩ => ?_
  refine ⟨φ, ρ, st, rs, re, ?_⟩
  have e1 : mCall m (mCons ma (mCons (mC (.tup [])) mNil)) ρ st = ((mCons ma mNil) ρ st).bind fun xs st1 => m (xs ++ [.tup []]) st1 := by
    unfold mCall mCons mNil mC
    cases ma ρ st <;> rfl
  rw [e1] at h
  exact h.seq fun φ1 ds vs H1 st1 e1 rs1 rv1 h1 => ⟨φ1, ds ++ [.tup []], st1, rs1, rv1.app (.cons (.tup (.inr hT) .nil) .nil), h1⟩
/-- f(e, kw=b) -/
theorem me_callK1 (C : CalK X.prog X.w X.K X.mg X.base x kw k m) (hr : Room k X.A) (tk : Takes X W) (ha : PE X e (tE X W ma)) (hkw : PE X b (tE X W mb)) (hg : Gl X x := by rfl)
    (hall : (backToKw pos (keywordEach [⟨some kw, b, kpos⟩] X.env)).all (·.1.isSome) = true := by rfl) (hks : (backToKw pos (keywordEach [⟨some kw, b, kpos⟩] X.env)).filterMap (·.1) = [kw] := by rfl)
    (hdb : (x == ("__debug__" : Str)) = false := by decide) (he : starEach [e] X.env = (false, eval e X.env) :: starEach [] X.env := by rfl)
    (hpl : ((backTo pos (starEach [e] X.env)).any (·.1) || (backToKw pos (keywordEach [⟨some kw, b, kpos⟩] X.env)).any (·.1.isNone)) = false := by rfl) :
    PE X (.Call (.Name x p) [e] [⟨some kw, b, kpos⟩] pos) (tE X W (mCall m (mCons ma (mCons mb mNil)))) := by
  obtain ⟨f, fd, ps, T, hm, hk, hT, hb1, hb, F⟩ := C.ex
  refine ⟨fun pins s σ H Q I ⟨φ, ρ, st, rs, re, h⟩ => ?_⟩
  refine wpAny_Call_Name_kw (ld_glob I hg hm ?_ hdb)
  have e1 : mCall m (mCons ma (mCons mb mNil)) ρ st = (ma ρ st).bind fun y st1 => (mb ρ st1).bind fun z st2 => m [y, z] st2 := by
    unfold mCall mCons mNil
    cases q : ma ρ st with
    | ok y st1 =>
      show R.bind (R.bind (R.bind (mb ρ st1) _) _) _ = R.bind (mb ρ st1) _
      cases mb ρ st1 <;> rfl
    | er e st1 => rfl
    | bad => rfl
  rw [e1] at h
  have h1 : tCons (tE X W ma) tNil σ H (fun vs H1 => ∃ v, vs = [v] ∧ tE X W mb σ H1 fun z H2 => spM X.K X.w X.mg m [v, z] H2 Q (WE W σ)) :=
    ⟨φ, ρ, st, rs, re, h.seq fun φ1 y v H1 st1 e1 rs1 rv1 h1 => ⟨v, rfl, φ1, ρ, st1, rs1, re.ext e1, h1.seq fun φ2 z v2 H2 st2 e2 rs2 rv2 h2 => ⟨φ2, [y, z], st2, rs2, .cons (rv1.ext e2) (.cons rv2 .nil), h2⟩⟩⟩
  refine PySem.W.callWith_KW (h₀ := X.base) I.ok.mod.kin hk hall (thn ((pa_cons ha pa_nil he).run pos pins s σ H _ I h1) fun us s1 ⟨vs, H1, I1, r, v, ev, q⟩ => ?_) hpl he
  subst ev
  have h2 : tCons (tE X W mb) tNil σ H1 (fun zs H2 => ∃ z, zs = [z] ∧ spM X.K X.w X.mg m [v, z] H2 Q (WE W σ)) := by
    obtain ⟨φ1, ρ1, st1, rs1, re1, h2⟩ := q
    exact ⟨φ1, ρ1, st1, rs1, re1, h2.imp fun z H2 q2 => ⟨z, rfl, q2⟩⟩
  refine thn ((pk_cons (nm := some kw) (kpos := kpos) hkw pk_nil).run pos pins s1 σ H1 _ I1 h2) fun ws s2 ⟨zs, H2, I2, rz, z, ez, q2⟩ => ⟨I2.kIn, ?_⟩
  subst ez
  rw [hks]
  have r2 := hb1.rel r rz
  refine wpAny_call (codeAny_mono (F.run X.A X.stack s2 H2 ⟨us, [kw].zip ws⟩ (us ++ ws) ([v] ++ [z]) Q (WE W σ) hr I2.env0 (hb1.to s2 us ws I2.kIn r.length.symm rz.length.symm) r2 q2) fun r s' hq => ?_)
  cases r with
  | error er => exact passAt tk σ pins H2 s2 er s' I2 hq
  | ok fl =>
    cases fl with
    | ret u => exact I2.after hq
    | next => exact False.elim hq
    | brk => exact False.elim hq
    | cont => exact False.elim hq
/-! all -/
def blsOf : List A → Option (List Bool)
  | [] => some []
  | .bl b :: r => (blsOf r).map (b :: ·)
  | _ => none
theorem blsOf_eq : ∀ {ds : List A} {ns : List Bool}, blsOf ds = some ns → ds = ns.map A.bl
  | [], _, h => by cases h; rfl
  | .bl i :: r, ns, h => by
    simp only [blsOf] at h
    cases e : blsOf r with
    | none => rw [e] at h; cases h
    | some ms =>
      rw [e] at h
      cases h
      rw [List.map_cons, blsOf_eq e]
  | .non :: _, _, h => by cases h
  | .int _ :: _, _, h => by cases h
  | .str _ :: _, _, h => by cases h
  | .tup _ :: _, _, h => by cases h
  | .scr _ :: _, _, h => by cases h
  | .ref _ :: _, _, h => by cases h
theorem blsOf_map : ∀ ns : List Bool, blsOf (ns.map A.bl) = some ns
  | [] => rfl
  | n :: r => by rw [List.map_cons, blsOf, blsOf_map r]; rfl
def allA : List A → Store → R A
  | [x], st => match (itemsL x st).bind blsOf with
    | some ns => .ok (.bl (ns.all id)) st
    | none => .bad
  | _, _ => .bad
theorem RVs.bools {K : PySem.W.Frag} {φ : List Addr} {H : Hp} : ∀ {vs : List V} {ns : List Bool}, RVs K φ H vs (ns.map A.bl) → vs = ns.map V.bl
  | [], [], _ => rfl
  | [], _ :: _, h => by cases h
  | _ :: _, [], h => by cases h
  | v :: vs, n :: ns, h => by
    cases h with
    | cons h q =>
      cases h
      rw [RVs.bools q, List.map_cons]
theorem cs_all : CaS X (rAll X.K) allA := fun W φ H st vs as Q rs rv h => by
  unfold allA at h
  split at h
  · rename_i x
    obtain ⟨v, rfl, r⟩ := one_rv rv
    cases e : itemsL x st with
    | none => rw [e] at h; exact h.elim
    | some ds =>
      rw [e] at h
      simp only [Option.bind_some] at h
      cases e2 : blsOf ds with
      | none => rw [e2] at h; exact h.elim
      | some ns =>
        rw [e2] at h
        obtain ⟨p, xs, rfl, hq, hs⟩ := itemsL_ok rs r e
        rw [blsOf_eq e2] at hs
        rw [hs.bools] at hq
        exact ⟨p, ns, rfl, hq, h.ok rs (.bl _)⟩
  · exact h.elim
end
end ML
/-! MP1: plain: what mirrors do, by what is wanted behind them. -/
namespace ML
open PySem L2
def R.wp {α : Type} (r : R α) (Q : α → Store → Prop) : Prop := match r with
  | .ok a st => Q a st
  | _ => False
def SR.wp (r : SR) (N B C : Env → Store → Prop) (Rt : A → Store → Prop) : Prop := match r with
  | .nx ρ st => N ρ st
  | .bk ρ st => B ρ st
  | .ct ρ st => C ρ st
  | .rt a st => Rt a st
  | .er _ _ _ => False
  | .bad => False
abbrev NoS : Env → Store → Prop := fun _ _ => False
section
variable {α β : Type} {Q : A → Store → Prop} {QB : Bool → Store → Prop} {ρ : Env} {st : Store} {N B C : Env → Store → Prop} {Rt : A → Store → Prop}
theorem R.wp.ex {r : R α} {Q : α → Store → Prop} (h : r.wp Q) : ∃ a st, r = .ok a st ∧ Q a st := by
  cases r with
  | ok a st => exact ⟨a, st, rfl, h⟩
  | er e st => exact h.elim
  | bad => exact h.elim
theorem R.wp.imp {r : R α} {Q Q' : α → Store → Prop} (h : r.wp Q) (k : ∀ a st, Q a st → Q' a st) : r.wp Q' := by
  cases r with
  | ok a st => exact k _ _ h
  | er e st => exact h.elim
  | bad => exact h.elim
theorem SR.wp.imp {r : SR} {N' B' C' : Env → Store → Prop} {Rt' : A → Store → Prop} (h : r.wp N B C Rt) (k1 : ∀ ρ st, N ρ st → N' ρ st) (k2 : ∀ ρ st, B ρ st → B' ρ st) (k3 : ∀ ρ st, C ρ st → C' ρ st) (k4 : ∀ a st, Rt a st → Rt' a st) : r.wp N' B' C' Rt' := by
  cases r with
  | nx ρ st => exact k1 _ _ h
  | bk ρ st => exact k2 _ _ h
  | ct ρ st => exact k3 _ _ h
  | rt a st => exact k4 _ _ h
  | er e ρ st => exact h.elim
  | bad => exact h.elim
@[simp] theorem wp_ok {a : α} {Q : α → Store → Prop} : (R.ok a st).wp Q ↔ Q a st := Iff.rfl
@[simp] theorem wp_bad {Q : α → Store → Prop} : (R.bad : R α).wp Q ↔ False := Iff.rfl
theorem wp_er {e : Er} {Q : α → Store → Prop} : (R.er e st : R α).wp Q ↔ False := Iff.rfl
theorem wp_bind {r : R α} {f : α → Store → R β} {Q : β → Store → Prop} : (r.bind f).wp Q ↔ r.wp fun a st => (f a st).wp Q := by
  cases r <;> rfl
theorem wp_toS {r : R α} {f : α → Store → SR} : (r.toS ρ f).wp N B C Rt ↔ r.wp fun a st => (f a st).wp N B C Rt := by
  cases r <;> rfl
theorem wp_if {c : Prop} [Decidable c] {r r' : R α} {Q : α → Store → Prop} : (if c then r else r').wp Q ↔ if c then r.wp Q else r'.wp Q := by split <;> rfl
theorem sp_if {c : Prop} [Decidable c] {r r' : SR} : (if c then r else r').wp N B C Rt ↔ if c then r.wp N B C Rt else r'.wp N B C Rt := by split <;> rfl
theorem sp_nx : (SR.nx ρ st).wp N B C Rt ↔ N ρ st := Iff.rfl
theorem sp_bk : (SR.bk ρ st).wp N B C Rt ↔ B ρ st := Iff.rfl
theorem sp_ct : (SR.ct ρ st).wp N B C Rt ↔ C ρ st := Iff.rfl
theorem sp_rt {a : A} : (SR.rt a st).wp N B C Rt ↔ Rt a st := Iff.rfl
theorem sp_bad : (SR.bad).wp N B C Rt ↔ False := Iff.rfl
@[simp] theorem sp_seq {m1 m2 : MS} : (mSeq m1 m2 ρ st).wp N B C Rt ↔ (m1 ρ st).wp (fun ρ st => (m2 ρ st).wp N B C Rt) B C Rt := by
  unfold mSeq
  cases m1 ρ st <;> rfl
/-- a cut behind the first statement -/
theorem seq_cut {m1 m2 : MS} (I : Env → Store → Prop) (h1 : (m1 ρ st).wp I (fun _ _ => False) (fun _ _ => False) (fun _ _ => False)) (h2 : ∀ ρ st, I ρ st → (m2 ρ st).wp N B C Rt) : (mSeq m1 m2 ρ st).wp N B C Rt := by
  rw [sp_seq]
  exact h1.imp h2 (fun _ _ h => h.elim) (fun _ _ h => h.elim) (fun _ _ h => h.elim)
theorem seq_cutR {m1 m2 : MS} (I : Env → Store → Prop) (h1 : (m1 ρ st).wp I (fun _ _ => False) (fun _ _ => False) Rt) (h2 : ∀ ρ st, I ρ st → (m2 ρ st).wp N B C Rt) : (mSeq m1 m2 ρ st).wp N B C Rt := by
  rw [sp_seq]
  exact h1.imp h2 (fun _ _ h => h.elim) (fun _ _ h => h.elim) (fun _ _ h => h)
@[simp] theorem wp_fn {n k : Nat} {body : MS} {as : List A} : (mFn n k body as st).wp Q ↔ as.length = k ∧ (body (as.map some ++ List.replicate (n - k) none) st).wp (fun _ st => Q .non st) NoS NoS Q := by
  unfold mFn
  by_cases h : as.length = k
  · rw [if_pos h]
    cases body (as.map some ++ List.replicate (n - k) none) st <;> simp [R.wp, SR.wp, h, NoS]
  · rw [if_neg h]
    simp [R.wp, h]
/-! the pieces -/
@[simp] theorem wp_var {i : Nat} : (mVar i ρ st).wp Q ↔ ∃ a, ρ[i]? = some (some a) ∧ Q a st := by
  unfold mVar
  cases e : ρ[i]? with
  | none => simp [R.wp]
  | some o => cases o <;> simp [R.wp]
@[simp] theorem wp_c {a : A} : (mC a ρ st).wp Q ↔ Q a st := Iff.rfl
@[simp] theorem wp_bin {g : A → A → Store → R A} {ma mb : MX} : (mBin g ma mb ρ st).wp Q ↔ (ma ρ st).wp fun x st1 => (mb ρ st1).wp fun y st2 => (g x y st2).wp Q := by
  unfold mBin
  rw [wp_bind]
  simp only [wp_bind]
@[simp] theorem wp_un {g : A → Store → R A} {ma : MX} : (mUn g ma ρ st).wp Q ↔ (ma ρ st).wp fun x st1 => (g x st1).wp Q := by
  unfold mUn
  rw [wp_bind]
@[simp] theorem wp_tru {ma : MX} : (mTru ma ρ st).wp QB ↔ (ma ρ st).wp fun x st1 => (truA x st1).wp QB := by
  unfold mTru
  rw [wp_bind]
@[simp] theorem wp_gb {ma : MX} : (mGB ma ρ st).wp QB ↔ (ma ρ st).wp fun x st1 => (getB x st1).wp QB := by
  unfold mGB
  rw [wp_bind]
@[simp] theorem wp_and {ma mb : MT} : (mAnd ma mb ρ st).wp QB ↔ (ma ρ st).wp fun x st1 => if x = true then (mb ρ st1).wp QB else QB false st1 := by
  unfold mAnd
  simp only [wp_bind, wp_if, wp_ok]
@[simp] theorem wp_or {ma mb : MT} : (mOr ma mb ρ st).wp QB ↔ (ma ρ st).wp fun x st1 => if x = true then QB true st1 else (mb ρ st1).wp QB := by
  unfold mOr
  simp only [wp_bind, wp_if, wp_ok]
@[simp] theorem wp_not {ma : MT} : (mNot ma ρ st).wp QB ↔ (ma ρ st).wp fun x st1 => QB (!x) st1 := by
  unfold mNot
  simp only [wp_bind, wp_ok]
@[simp] theorem wp_andV {ma mb : MX} : (mAndV ma mb ρ st).wp Q ↔ (ma ρ st).wp fun x st1 => (getB x st1).wp fun k st2 => if k = true then (mb ρ st2).wp Q else Q (.bl false) st2 := by
  unfold mAndV
  simp only [wp_bind, wp_if, wp_ok]
@[simp] theorem wp_orV {ma mb : MX} : (mOrV ma mb ρ st).wp Q ↔ (ma ρ st).wp fun x st1 => (getB x st1).wp fun k st2 => if k = true then Q (.bl true) st2 else (mb ρ st2).wp Q := by
  unfold mOrV
  simp only [wp_bind, wp_if, wp_ok]
@[simp] theorem wp_notV {ma : MX} : (mNotV ma ρ st).wp Q ↔ (ma ρ st).wp fun x st1 => (getB x st1).wp fun k st2 => Q (.bl (!k)) st2 := by
  unfold mNotV
  simp only [wp_bind, wp_ok]
@[simp] theorem wp_ifx {mc : MT} {ma mb : MX} : (mIf mc ma mb ρ st).wp Q ↔ (mc ρ st).wp fun x st1 => if x = true then (ma ρ st1).wp Q else (mb ρ st1).wp Q := by
  unfold mIf
  simp only [wp_bind, wp_if]
variable {QA : List A → Store → Prop}
@[simp] theorem wp_nil : (mNil ρ st).wp QA ↔ QA [] st := Iff.rfl
@[simp] theorem wp_cons {ma : MX} {mr : MA} : (mCons ma mr ρ st).wp QA ↔ (ma ρ st).wp fun x st1 => (mr ρ st1).wp fun xs st2 => QA (x :: xs) st2 := by
  unfold mCons
  simp only [wp_bind, wp_ok]
@[simp] theorem wp_tup {ms : MA} : (mTup ms ρ st).wp Q ↔ (ms ρ st).wp fun xs st1 => xs.length ≤ sizeLine ∧ Q (.tup xs) st1 := by
  unfold mTup
  simp only [wp_bind, wp_if, wp_ok, wp_bad]
  have : ∀ (xs : List A) (st1 : Store), (if xs.length ≤ sizeLine then Q (.tup xs) st1 else False) ↔ (xs.length ≤ sizeLine ∧ Q (.tup xs) st1) := fun xs st1 => by
    by_cases h : xs.length ≤ sizeLine <;> simp [h]
  simp only [this]
@[simp] theorem wp_lst {ms : MA} : (mLst ms ρ st).wp Q ↔ (ms ρ st).wp fun xs st1 => xs.length ≤ sizeLine ∧ Q (.ref st1.length) (st1 ++ [.lst xs]) := by
  unfold mLst
  simp only [wp_bind, wp_if, wp_ok, wp_bad]
  have : ∀ (xs : List A) (st1 : Store), (if xs.length ≤ sizeLine then Q (.ref st1.length) (st1 ++ [.lst xs]) else False) ↔ (xs.length ≤ sizeLine ∧ Q (.ref st1.length) (st1 ++ [.lst xs])) := fun xs st1 => by
    by_cases h : xs.length ≤ sizeLine <;> simp [h]
  simp only [this]
@[simp] theorem wp_ca {g : List A → Store → R A} {ms : MA} : (mCa g ms ρ st).wp Q ↔ (ms ρ st).wp fun xs st1 => (g xs st1).wp Q := by
  unfold mCa
  rw [wp_bind]
@[simp] theorem wp_call {m : MF} {ms : MA} : (mCall m ms ρ st).wp Q ↔ (ms ρ st).wp fun xs st1 => (m xs st1).wp Q := by
  unfold mCall
  rw [wp_bind]
variable {QO : Option Int → Store → Prop}
@[simp] theorem wp_noPart : (mNoPart ρ st).wp QO ↔ QO none st := Iff.rfl
@[simp] theorem wp_part {m : MX} : (mPart m ρ st).wp QO ↔ (m ρ st).wp fun x st1 => (getI x st1).wp fun i st2 => QO (some i) st2 := by
  unfold mPart
  simp only [wp_bind, wp_ok]
@[simp] theorem wp_sl {ma : MX} {ml mh : MO} : (mSl ma ml mh ρ st).wp Q ↔ (ma ρ st).wp fun x st1 => (ml ρ st1).wp fun lo st2 => (mh ρ st2).wp fun hi st3 => (slA x lo hi st3).wp Q := by
  unfold mSl
  simp only [wp_bind]
@[simp] theorem wp_bm {g : A → List A → Store → R A} {mo : MX} {ms : MA} : (mBm g mo ms ρ st).wp Q ↔ (mo ρ st).wp fun x st1 => isL x st1 = true ∧ (ms ρ st1).wp fun xs st2 => (g x xs st2).wp Q := by
  unfold mBm
  simp only [wp_bind, wp_if, wp_bad]
  have : ∀ (x : A) (st1 : Store), (if isL x st1 = true then (ms ρ st1).wp fun xs st2 => (g x xs st2).wp Q else False) ↔ (isL x st1 = true ∧ (ms ρ st1).wp fun xs st2 => (g x xs st2).wp Q) := fun x st1 => by
    by_cases h : isL x st1 = true <;> simp [h]
  simp only [this]
@[simp] theorem wp_bm0 {g : A → List A → Store → R A} {mo : MX} : (mBm0 g mo ρ st).wp Q ↔ (mo ρ st).wp fun x st1 => isL x st1 = true ∧ (g x [] st1).wp Q := by
  unfold mBm0
  simp only [wp_bind, wp_if, wp_bad]
  have : ∀ (x : A) (st1 : Store), (if isL x st1 = true then (g x [] st1).wp Q else False) ↔ (isL x st1 = true ∧ (g x [] st1).wp Q) := fun x st1 => by
    by_cases h : isL x st1 = true <;> simp [h]
  simp only [this]
/-! statements -/
@[simp] theorem sp_set {i : Nat} {ma : MX} : (mSet i ma ρ st).wp N B C Rt ↔ (ma ρ st).wp fun a st1 => N (ρ.set i (some a)) st1 := by
  unfold mSet
  rw [wp_toS]
  rfl
@[simp] theorem sp_asg {tg : Tg} {ma : MX} : (mAsg tg ma ρ st).wp N B C Rt ↔ (ma ρ st).wp fun a st1 => ∃ ρ', asgT tg a ρ st1 = some ρ' ∧ N ρ' st1 := by
  unfold mAsg
  cases ma ρ st with
  | ok a st1 =>
    show SR.wp (match asgT tg a ρ st1 with
      | some ρ' => .nx ρ' st1
      | none => .bad) N B C Rt ↔ ∃ ρ', asgT tg a ρ st1 = some ρ' ∧ N ρ' st1
    cases asgT tg a ρ st1 <;> simp [SR.wp]
  | _ => rfl
@[simp] theorem sp_expr {ma : MX} : (mExpr ma ρ st).wp N B C Rt ↔ (ma ρ st).wp fun _ st1 => N ρ st1 := by
  unfold mExpr
  rw [wp_toS]
  rfl
@[simp] theorem sp_ret {ma : MX} : (mRet ma ρ st).wp N B C Rt ↔ (ma ρ st).wp Rt := by
  unfold mRet
  rw [wp_toS]
  rfl
@[simp] theorem sp_retN : (mRetN ρ st).wp N B C Rt ↔ Rt .non st := Iff.rfl
@[simp] theorem sp_next : (mNext ρ st).wp N B C Rt ↔ N ρ st := Iff.rfl
@[simp] theorem sp_break : (mBreak ρ st).wp N B C Rt ↔ B ρ st := Iff.rfl
@[simp] theorem sp_cont : (mCont ρ st).wp N B C Rt ↔ C ρ st := Iff.rfl
@[simp] theorem sp_ifs {c : MT} {m1 m2 : MS} : (mIfS c m1 m2 ρ st).wp N B C Rt ↔ (c ρ st).wp fun b st1 => if b = true then (m1 ρ st1).wp N B C Rt else (m2 ρ st1).wp N B C Rt := by
  unfold mIfS
  rw [wp_toS]
  simp only [sp_if]
@[simp] theorem sp_put {mo mi ma : MX} : (mPut mo mi ma ρ st).wp N B C Rt ↔ (ma ρ st).wp fun d st1 => (mo ρ st1).wp fun o st2 => (mi ρ st2).wp fun i st3 => ∃ st4, setA o i d st3 = some st4 ∧ N ρ st4 := by
  unfold mPut
  cases ma ρ st with
  | ok d st1 =>
    show ((mo ρ st1).toS ρ _).wp N B C Rt ↔ (mo ρ st1).wp _
    cases mo ρ st1 with
    | ok o st2 =>
      show ((mi ρ st2).toS ρ _).wp N B C Rt ↔ (mi ρ st2).wp _
      cases mi ρ st2 with
      | ok i st3 =>
        show SR.wp (match setA o i d st3 with
          | some st4 => .nx ρ st4
          | none => .bad) N B C Rt ↔ ∃ st4, setA o i d st3 = some st4 ∧ N ρ st4
        cases setA o i d st3 <;> simp [SR.wp]
      | _ => rfl
    | _ => rfl
  | _ => rfl
@[simp] theorem sp_aug {i : Nat} {g : A → A → Store → R A} {ma : MX} : (mAug i g ma ρ st).wp N B C Rt ↔ (mVar i ρ st).wp fun x st0 => (ma ρ st0).wp fun y st1 => (g x y st1).wp fun z st2 => N (ρ.set i (some z)) st2 := by
  simp only [mAug, wp_toS, sp_nx]
/-! loops -/
@[simp] theorem sp_for {ms : Env → Store → R Src} {tg : Tg} {body : MS} : (mFor ms tg body ρ st).wp N B C Rt ↔ (ms ρ st).wp fun s st1 => (loopF s tg body (s.size st1 + 1) 0 ρ st1).wp N B C Rt := by
  unfold mFor
  rw [wp_toS]
@[simp] theorem wp_rng {ms : MA} {QS : Src → Store → Prop} : (mRng ms ρ st).wp QS ↔ (ms ρ st).wp fun xs st1 => (rngA xs st1).wp QS := by
  unfold mRng
  rw [wp_bind]
@[simp] theorem wp_src {ma : MX} {QS : Src → Store → Prop} : (mSrc ma ρ st).wp QS ↔ (ma ρ st).wp fun x st1 => (srcA x st1).wp QS := by
  unfold mSrc
  rw [wp_bind]
@[simp] theorem wp_zip {ms : MA} {QS : Src → Store → Prop} : (mZip ms ρ st).wp QS ↔ (ms ρ st).wp fun xs st1 => (zipA xs st1).wp QS := by
  unfold mZip
  rw [wp_bind]
/-- a loop over n items: I holds ahead of each turn -/
theorem loop_wp {s : Src} {tg : Tg} {body : MS} (n : Nat) (it : Nat → A) (I : Nat → Env → Store → Prop) (hat : ∀ i ρ st, I i ρ st → (i < n → s.at i st = some (some (it i))) ∧ (¬ i < n → s.at i st = some none))
    (hs : ∀ i ρ st, i < n → I i ρ st → ∃ ρ1, asgT tg (it i) ρ st = some ρ1 ∧ (body ρ1 st).wp (I (i + 1)) N (I (i + 1)) Rt) (hd : ∀ ρ st, I n ρ st → N ρ st) :
    ∀ (k i : Nat) (ρ : Env) (st : Store), i + k = n + 1 → i ≤ n → I i ρ st → (loopF s tg body k i ρ st).wp N B C Rt
  | 0, i, ρ, st, hk, hi, h => by omega
  | k + 1, i, ρ, st, hk, hle, h => by
    unfold loopF
    by_cases hi : i < n
    · rw [(hat i ρ st h).1 hi]
      obtain ⟨ρ1, e, hb⟩ := hs i ρ st hi h
      simp only [e]
      cases q : body ρ1 st with
      | nx ρ2 st2 => rw [q] at hb; exact loop_wp n it I hat hs hd k (i + 1) ρ2 st2 (by omega) (by omega) hb
      | ct ρ2 st2 => rw [q] at hb; exact loop_wp n it I hat hs hd k (i + 1) ρ2 st2 (by omega) (by omega) hb
      | bk ρ2 st2 => rw [q] at hb; exact hb
      | rt a st2 => rw [q] at hb; exact hb
      | er e ρ2 st2 => rw [q] at hb; exact hb.elim
      | bad => rw [q] at hb; exact hb.elim
    · rw [(hat i ρ st h).2 hi]
      have : i = n := by omega
      subst this
      exact hd ρ st h
/-- a loop over n turns of range -/
theorem for_rng {tg : Tg} {body : MS} {lo : Int} {n : Nat} (I : Nat → Env → Store → Prop) (h0 : I 0 ρ st)
    (hs : ∀ i ρ st, i < n → I i ρ st → ∃ ρ1, asgT tg (.int (lo + (i : Nat))) ρ st = some ρ1 ∧ (body ρ1 st).wp (I (i + 1)) N (I (i + 1)) Rt) (hd : ∀ ρ st, I n ρ st → N ρ st) :
    (loopF (.rng lo n) tg body (Src.size (.rng lo n) st + 1) 0 ρ st).wp N B C Rt :=
  loop_wp n (fun i => .int (lo + (i : Nat))) I (fun i ρ st _ => ⟨fun h => by simp [Src.at, h], fun h => by simp [Src.at, h]⟩) hs hd _ _ _ _ (by simp [Src.size]) (Nat.zero_le _) h0
theorem for_vals {tg : Tg} {body : MS} {xs : List A} (I : Nat → Env → Store → Prop) (h0 : I 0 ρ st)
    (hs : ∀ i x ρ st, xs[i]? = some x → I i ρ st → ∃ ρ1, asgT tg x ρ st = some ρ1 ∧ (body ρ1 st).wp (I (i + 1)) N (I (i + 1)) Rt) (hd : ∀ ρ st, I xs.length ρ st → N ρ st) :
    (loopF (.vals xs) tg body (Src.size (.vals xs) st + 1) 0 ρ st).wp N B C Rt :=
  loop_wp xs.length (fun i => xs.getD i .non) I (fun i ρ st _ => ⟨fun h => by simp [Src.at, h], fun h => by simp [Src.at]; omega⟩) (fun i ρ st h q => hs i _ ρ st (by simp [h]) q) hd _ _ _ _ (by simp [Src.size]) (Nat.zero_le _) h0
/-- over a list of the store that stays -/
theorem for_lst {tg : Tg} {body : MS} {xs : List A} {r : Nat} (I : Nat → Env → Store → Prop) (hx : stL st r = some xs) (h0 : I 0 ρ st) (hl : ∀ i ρ st, I i ρ st → stL st r = some xs)
    (hs : ∀ i x ρ st, xs[i]? = some x → I i ρ st → ∃ ρ1, asgT tg x ρ st = some ρ1 ∧ (body ρ1 st).wp (I (i + 1)) N (I (i + 1)) Rt) (hd : ∀ ρ st, I xs.length ρ st → N ρ st) :
    (loopF (.lst r) tg body (Src.size (.lst r) st + 1) 0 ρ st).wp N B C Rt :=
  loop_wp xs.length (fun i => xs.getD i .non) I (fun i ρ st q => ⟨fun h => by simp [Src.at, hl i ρ st q, h], fun h => by simp [Src.at, hl i ρ st q]; omega⟩) (fun i ρ st h q => hs i _ ρ st (by simp [h]) q) hd _ _ _ _ (by simp [Src.size, hx]) (Nat.zero_le _) h0
theorem for_chars {tg : Tg} {body : MS} {x : Str} (I : Nat → Env → Store → Prop) (h0 : I 0 ρ st)
    (hs : ∀ i c ρ st, x.cps[i]? = some c → I i ρ st → ∃ ρ1, asgT tg (.str ⟨#[c]⟩) ρ st = some ρ1 ∧ (body ρ1 st).wp (I (i + 1)) N (I (i + 1)) Rt) (hd : ∀ ρ st, I x.cps.size ρ st → N ρ st) :
    (loopF (.chars x) tg body (Src.size (.chars x) st + 1) 0 ρ st).wp N B C Rt :=
  loop_wp x.cps.size (fun i => .str ⟨#[x.cps.getD i 0]⟩) I (fun i ρ st _ => ⟨fun h => by simp [Src.at, h], fun h => by simp [Src.at]; omega⟩) (fun i ρ st h q => hs i _ ρ st (by simp [h]) q) hd _ _ _ _ (by simp [Src.size]) (Nat.zero_le _) h0
theorem for_zipv {tg : Tg} {body : MS} {xs ys : List A} (I : Nat → Env → Store → Prop) (hl : ys.length ≤ xs.length) (h0 : I 0 ρ st)
    (hs : ∀ i x y ρ st, xs[i]? = some x → ys[i]? = some y → I i ρ st → ∃ ρ1, asgT tg (.tup [x, y]) ρ st = some ρ1 ∧ (body ρ1 st).wp (I (i + 1)) N (I (i + 1)) Rt) (hd : ∀ ρ st, I ys.length ρ st → N ρ st) :
    ∀ k, ys.length + 1 ≤ k → (loopF (.zipv xs ys) tg body k 0 ρ st).wp N B C Rt := fun k hk => by
  have key : ∀ (k i : Nat) (ρ : Env) (st : Store), ys.length + 1 ≤ i + k → i ≤ ys.length → I i ρ st → (loopF (.zipv xs ys) tg body k i ρ st).wp N B C Rt := by
    intro k
    induction k with
    | zero => intro i ρ st h1 h2; omega
    | succ k ih =>
      intro i ρ st h1 h2 h
      unfold loopF
      by_cases hi : i < ys.length
      · have e1 : xs[i]? = some xs[i] := List.getElem?_eq_getElem (by omega)
        have e2 : ys[i]? = some ys[i] := List.getElem?_eq_getElem hi
        have e3 : Src.at (.zipv xs ys) i st = some (some (.tup [xs[i], ys[i]])) := by simp only [Src.at, e1, e2]
        rw [e3]
        obtain ⟨ρ1, e, hb⟩ := hs i _ _ ρ st e1 e2 h
        simp only [e]
        cases q : body ρ1 st with
        | nx ρ2 st2 => rw [q] at hb; exact ih (i + 1) ρ2 st2 (by omega) (by omega) hb
        | ct ρ2 st2 => rw [q] at hb; exact ih (i + 1) ρ2 st2 (by omega) (by omega) hb
        | bk ρ2 st2 => rw [q] at hb; exact hb
        | rt a st2 => rw [q] at hb; exact hb
        | er e ρ2 st2 => rw [q] at hb; exact hb.elim
        | bad => rw [q] at hb; exact hb.elim
      · have e2 : ys[i]? = none := List.getElem?_eq_none (by omega)
        have e3 : Src.at (.zipv xs ys) i st = some none := by
          simp only [Src.at, e2]
          cases xs[i]? <;> rfl
        rw [e3]
        have : i = ys.length := by omega
        subst this
        exact hd ρ st h
  exact key k 0 ρ st (by omega) (Nat.zero_le _) h0
/-! comprehensions -/
@[simp] theorem wp_yes : (mYes ρ st).wp QB ↔ QB true st := Iff.rfl
@[simp] theorem wipeA_nil {ρ : Env} : wipeA ρ [] = ρ := rfl
@[simp] theorem wipeA_cons {ρ : Env} {i : Nat} {l : List Nat} : wipeA ρ (i :: l) = (wipeA ρ l).set i none := rfl
@[simp] theorem wp_lc {mi : Env → Store → R Src} {tg : Tg} {own : List Nat} {tt : MT} {elt : MX} : (mLc mi tg own tt elt ρ st).wp Q ↔ (mi ρ st).wp fun s st1 => (loopC s tg own tt elt (wipeA ρ own) (s.size st1 + 1) 0 st1 []).wp fun xs st2 => Q (.ref st2.length) (st2 ++ [.lst xs]) := by
  simp only [mLc, wp_bind, wp_ok]
theorem lc_wp {s : Src} {tg : Tg} {own : List Nat} {tt : MT} {elt : MX} {ρ0 : Env} {QL : List A → Store → Prop} (n : Nat) (it : Nat → A) (I : Nat → Store → List A → Prop) (hat : ∀ i st acc, I i st acc → (i < n → s.at i st = some (some (it i))) ∧ (¬ i < n → s.at i st = some none))
    (hs : ∀ i st acc, i < n → I i st acc → ∃ ρ1, asgT tg (it i) ρ0 st = some ρ1 ∧ (tt ρ1 st).wp fun b st1 => if b = true then (elt ρ1 st1).wp fun y st2 => acc.length < sizeLine ∧ I (i + 1) st2 (acc ++ [y]) else I (i + 1) st1 acc)
    (hd : ∀ st acc, I n st acc → QL acc st) : ∀ (k i : Nat) (st : Store) (acc : List A), i + k = n + 1 → i ≤ n → I i st acc → (loopC s tg own tt elt ρ0 k i st acc).wp QL
  | 0, i, st, acc, hk, hi, h => by omega
  | k + 1, i, st, acc, hk, hle, h => by
    unfold loopC
    by_cases hi : i < n
    · rw [(hat i st acc h).1 hi]
      obtain ⟨ρ1, e, hb⟩ := hs i st acc hi h
      simp only [e]
      obtain ⟨b, st1, e1, hb⟩ := R.wp.ex hb
      simp only [e1]
      cases b with
      | false =>
        simp only [Bool.false_eq_true, if_false] at hb ⊢
        exact lc_wp n it I hat hs hd k (i + 1) st1 acc (by omega) (by omega) hb
      | true =>
        simp only [if_true] at hb ⊢
        obtain ⟨y, st2, e2, hz, hb⟩ := R.wp.ex hb
        simp only [e2, if_pos hz]
        exact lc_wp n it I hat hs hd k (i + 1) st2 (acc ++ [y]) (by omega) (by omega) hb
    · rw [(hat i st acc h).2 hi]
      have : i = n := by omega
      subst this
      exact hd st acc h
theorem lc_rng {tg : Tg} {own : List Nat} {tt : MT} {elt : MX} {ρ0 : Env} {lo : Int} {n : Nat} {QL : List A → Store → Prop} (I : Nat → Store → List A → Prop) (h0 : I 0 st [])
    (hs : ∀ i st acc, i < n → I i st acc → ∃ ρ1, asgT tg (.int (lo + (i : Nat))) ρ0 st = some ρ1 ∧ (tt ρ1 st).wp fun b st1 => if b = true then (elt ρ1 st1).wp fun y st2 => acc.length < sizeLine ∧ I (i + 1) st2 (acc ++ [y]) else I (i + 1) st1 acc)
    (hd : ∀ st acc, I n st acc → QL acc st) : (loopC (.rng lo n) tg own tt elt ρ0 (Src.size (.rng lo n) st + 1) 0 st []).wp QL :=
  lc_wp n (fun i => .int (lo + (i : Nat))) I (fun i st acc _ => ⟨fun h => by simp [Src.at, h], fun h => by simp [Src.at, h]⟩) hs hd _ _ _ _ (by simp [Src.size]) (Nat.zero_le _) h0
theorem lc_vals {tg : Tg} {own : List Nat} {tt : MT} {elt : MX} {ρ0 : Env} {xs : List A} {QL : List A → Store → Prop} (I : Nat → Store → List A → Prop) (h0 : I 0 st [])
    (hs : ∀ i x st acc, xs[i]? = some x → I i st acc → ∃ ρ1, asgT tg x ρ0 st = some ρ1 ∧ (tt ρ1 st).wp fun b st1 => if b = true then (elt ρ1 st1).wp fun y st2 => acc.length < sizeLine ∧ I (i + 1) st2 (acc ++ [y]) else I (i + 1) st1 acc)
    (hd : ∀ st acc, I xs.length st acc → QL acc st) : (loopC (.vals xs) tg own tt elt ρ0 (Src.size (.vals xs) st + 1) 0 st []).wp QL :=
  lc_wp xs.length (fun i => xs.getD i .non) I (fun i st acc _ => ⟨fun h => by simp [Src.at, h], fun h => by simp [Src.at]; omega⟩) (fun i st acc h q => hs i _ st acc (by simp [h]) q) hd _ _ _ _ (by simp [Src.size]) (Nat.zero_le _) h0
theorem lc_lst {tg : Tg} {own : List Nat} {tt : MT} {elt : MX} {ρ0 : Env} {xs : List A} {r : Nat} {QL : List A → Store → Prop} (I : Nat → Store → List A → Prop) (hx : stL st r = some xs) (h0 : I 0 st []) (hl : ∀ i st acc, I i st acc → stL st r = some xs)
    (hs : ∀ i x st acc, xs[i]? = some x → I i st acc → ∃ ρ1, asgT tg x ρ0 st = some ρ1 ∧ (tt ρ1 st).wp fun b st1 => if b = true then (elt ρ1 st1).wp fun y st2 => acc.length < sizeLine ∧ I (i + 1) st2 (acc ++ [y]) else I (i + 1) st1 acc)
    (hd : ∀ st acc, I xs.length st acc → QL acc st) : (loopC (.lst r) tg own tt elt ρ0 (Src.size (.lst r) st + 1) 0 st []).wp QL :=
  lc_wp xs.length (fun i => xs.getD i .non) I (fun i st acc q => ⟨fun h => by simp [Src.at, hl i st acc q, h], fun h => by simp [Src.at, hl i st acc q]; omega⟩) (fun i st acc h q => hs i _ st acc (by simp [h]) q) hd _ _ _ _ (by simp [Src.size, hx]) (Nat.zero_le _) h0
/-! while -/
theorem while_wp {c : MT} {b : MS} (I : Env → Store → Prop) (μ : Env → Store → Nat) (hs : ∀ ρ st, I ρ st → (c ρ st).wp fun x st1 => if x = true then (b ρ st1).wp (fun ρ' st' => I ρ' st' ∧ μ ρ' st' < μ ρ st) N (fun ρ' st' => I ρ' st' ∧ μ ρ' st' < μ ρ st) Rt else N ρ st1) (h0 : I ρ st) : (mWhile c b ρ st).wp N B C Rt := by
  have key : ∀ (n : Nat) (ρ : Env) (st : Store), μ ρ st < n → I ρ st → (whileF n c b ρ st).wp N B C Rt := by
    intro n
    induction n with
    | zero => intro ρ st h; omega
    | succ n ih =>
      intro ρ st hn h
      unfold whileF
      obtain ⟨x, st1, e, hx⟩ := R.wp.ex (hs ρ st h)
      rw [e]
      simp only [R.toS]
      cases x with
      | false => exact hx
      | true =>
        simp only [if_true] at hx ⊢
        cases q : b ρ st1 with
        | nx ρ2 st2 => rw [q] at hx; exact ih ρ2 st2 (by have := hx.2; omega) hx.1
        | ct ρ2 st2 => rw [q] at hx; exact ih ρ2 st2 (by have := hx.2; omega) hx.1
        | bk ρ2 st2 => rw [q] at hx; exact hx
        | rt a st2 => rw [q] at hx; exact hx
        | er e ρ2 st2 => rw [q] at hx; exact hx.elim
        | bad => rw [q] at hx; exact hx.elim
  have h1 := key (μ ρ st + 1) ρ st (Nat.lt_succ_self _) h0
  rw [mWhile_of (μ ρ st + 1) rfl fun z => by rw [z] at h1; exact h1]
  exact h1
end
/-! ### stores -/
/-- more may stand behind -/
def Grown (st st' : Store) : Prop := ∃ g, st' = st ++ g
theorem Grown.refl (st : Store) : Grown st st := ⟨[], by simp⟩
theorem Grown.trans {a b c : Store} (h : Grown a b) (k : Grown b c) : Grown a c := by
  obtain ⟨g, rfl⟩ := h
  obtain ⟨g', rfl⟩ := k
  exact ⟨g ++ g', by simp⟩
theorem Grown.one (st : Store) (o : Ob) : Grown st (st ++ [o]) := ⟨[o], rfl⟩
theorem Grown.get {st st' : Store} (h : Grown st st') {i : Nat} {o : Ob} (e : st[i]? = some o) : st'[i]? = some o := by
  obtain ⟨g, rfl⟩ := h
  rw [List.getElem?_append_left (List.getElem?_eq_some_iff.mp e).1]
  exact e
theorem Grown.stL {st st' : Store} (h : Grown st st') {i : Nat} {xs : List A} (e : ML.stL st i = some xs) : ML.stL st' i = some xs := by
  unfold ML.stL
  rw [h.get (stL_eq e)]
theorem stL_of {st : Store} {i : Nat} {xs : List A} (e : st[i]? = some (.lst xs)) : stL st i = some xs := by
  unfold stL
  rw [e]
@[simp] theorem stL_new {st : Store} {xs : List A} : stL (st ++ [.lst xs]) st.length = some xs := stL_of (by simp)
/-! ### operators on known kinds of data -/
section
variable {Q : A → Store → Prop} {QB : Bool → Store → Prop} {QI : Int → Store → Prop} {QS : Src → Store → Prop} {st : Store} {i j k : Int} {x y : Str} {xs ys : List A} {r q : Nat} {b c : Bool} {a d : A}
theorem w_if {p : Prop} [Decidable p] {α : Type} {v : α} {Q : α → Store → Prop} : (if p then R.ok v st else R.bad).wp Q ↔ p ∧ Q v st := by
  by_cases h : p <;> simp [h, R.wp]
@[simp] theorem w_add : (addA (.int i) (.int j) st).wp Q ↔ Q (.int (i + j)) st := Iff.rfl
@[simp] theorem w_addS : (addA (.str x) (.str y) st).wp Q ↔ x.length + y.length ≤ sizeLine ∧ Q (.str (x ++ y)) st := w_if
@[simp] theorem w_addT : (addA (.tup xs) (.tup ys) st).wp Q ↔ xs.length + ys.length ≤ sizeLine ∧ Q (.tup (xs ++ ys)) st := w_if
@[simp] theorem w_addL : (addA (.ref r) (.ref q) st).wp Q ↔ ∃ xs, stL st r = some xs ∧ ∃ ys, stL st q = some ys ∧ xs.length + ys.length ≤ sizeLine ∧ Q (.ref st.length) (st ++ [.lst (xs ++ ys)]) := by
  simp only [addA, stL]
  cases st[r]? with
  | none => simp [R.wp]
  | some o =>
    cases o with
    | oth u => simp [R.wp]
    | lst xs =>
      cases st[q]? with
      | none => simp [R.wp]
      | some o2 =>
        cases o2 with
        | oth u => simp [R.wp]
        | lst ys => simp [w_if]
@[simp] theorem w_sub : (subA (.int i) (.int j) st).wp Q ↔ Q (.int (i - j)) st := Iff.rfl
@[simp] theorem w_mul : (mulA (.int i) (.int j) st).wp Q ↔ CMulA i j ∧ Q (.int (i * j)) st := w_if
@[simp] theorem w_mulL : (mulA (.ref r) (.int k) st).wp Q ↔ ∃ xs, stL st r = some xs ∧ (-(2 ^ 63) ≤ k ∧ k < 2 ^ 63 ∧ xs.length * k.toNat ≤ sizeLine) ∧ Q (.ref st.length) (st ++ [.lst (List.replicate k.toNat xs).flatten]) := by
  simp only [mulA, stL]
  cases st[r]? with
  | none => simp [R.wp]
  | some o =>
    cases o with
    | oth u => simp [R.wp]
    | lst xs => simp only [w_if, Option.some.injEq, exists_eq_left']
@[simp] theorem w_mulT : (mulA (.tup xs) (.int k) st).wp Q ↔ (0 ≤ k ∧ k ≤ 1000000 ∧ xs.length * k.toNat ≤ sizeLine) ∧ Q (.tup (List.replicate k.toNat xs).flatten) st := w_if
@[simp] theorem w_fdiv : (fdivA (.int i) (.int j) st).wp Q ↔ (0 < j ∧ j.natAbs.log2 < 9000) ∧ Q (.int (i / j)) st := w_if
@[simp] theorem w_mod : (modA (.int i) (.int j) st).wp Q ↔ 0 < j ∧ Q (.int (i % j)) st := w_if
@[simp] theorem w_pow : (powA (.int i) (.int j) st).wp Q ↔ (0 ≤ j ∧ j ≤ 1000000 ∧ i.natAbs < 2 ^ 64) ∧ Q (.int (i ^ j.toNat)) st := w_if
@[simp] theorem w_and : (andA (.int i) (.int j) st).wp Q ↔ Q (.int (Builtin.bitAnd i j)) st := Iff.rfl
@[simp] theorem w_xor : (xorA (.int i) (.int j) st).wp Q ↔ Q (.int (Builtin.bitXor i j)) st := Iff.rfl
@[simp] theorem w_shr : (shrA (.int i) (.int j) st).wp Q ↔ 0 ≤ j ∧ Q (.int (i / 2 ^ j.toNat)) st := w_if
@[simp] theorem w_neg : (negA (.int i) st).wp Q ↔ Q (.int (-i)) st := Iff.rfl
@[simp] theorem w_lt : (ltA (.int i) (.int j) st).wp Q ↔ Q (.bl (decide (i < j))) st := Iff.rfl
@[simp] theorem w_gt : (gtA (.int i) (.int j) st).wp Q ↔ Q (.bl (decide (j < i))) st := Iff.rfl
@[simp] theorem w_le : (leA (.int i) (.int j) st).wp Q ↔ Q (.bl (decide (i ≤ j))) st := Iff.rfl
@[simp] theorem w_ge : (geA (.int i) (.int j) st).wp Q ↔ Q (.bl (decide (j ≤ i))) st := Iff.rfl
@[simp] theorem w_ltS : (ltA (.str x) (.str y) st).wp Q ↔ Q (.bl (decide (x.cps.toList < y.cps.toList))) st := Iff.rfl
@[simp] theorem w_gtS : (gtA (.str x) (.str y) st).wp Q ↔ Q (.bl (decide (y.cps.toList < x.cps.toList))) st := Iff.rfl
@[simp] theorem w_eq : (eqA (.int i) (.int j) st).wp Q ↔ Q (.bl (decide (i = j))) st := Iff.rfl
@[simp] theorem w_eqS : (eqA (.str x) (.str y) st).wp Q ↔ Q (.bl (decide (x = y))) st := Iff.rfl
@[simp] theorem w_eqB : (eqA (.bl b) (.bl c) st).wp Q ↔ Q (.bl (decide (b = c))) st := Iff.rfl
@[simp] theorem w_eqN : (eqA .non .non st).wp Q ↔ Q (.bl true) st := Iff.rfl
@[simp] theorem w_eqIS : (eqA (.int i) (.str y) st).wp Q ↔ Q (.bl false) st := Iff.rfl
@[simp] theorem w_eqSI : (eqA (.str x) (.int j) st).wp Q ↔ Q (.bl false) st := Iff.rfl
@[simp] theorem w_ne : (neA (.int i) (.int j) st).wp Q ↔ Q (.bl (!decide (i = j))) st := Iff.rfl
@[simp] theorem w_neS : (neA (.str x) (.str y) st).wp Q ↔ Q (.bl (!decide (x = y))) st := Iff.rfl
@[simp] theorem w_neB : (neA (.bl b) (.bl c) st).wp Q ↔ Q (.bl (!decide (b = c))) st := Iff.rfl
@[simp] theorem w_isN : (isNA a .non st).wp Q ↔ Q (.bl (isNonA a)) st := by cases a <;> rfl
@[simp] theorem w_notN : (notNA a .non st).wp Q ↔ Q (.bl (!isNonA a)) st := by cases a <;> rfl
@[simp] theorem isNon_non : isNonA .non = true := rfl
@[simp] theorem isNon_int : isNonA (.int i) = false := rfl
@[simp] theorem isNon_str : isNonA (.str x) = false := rfl
@[simp] theorem isNon_tup : isNonA (.tup xs) = false := rfl
@[simp] theorem isNon_bl : isNonA (.bl b) = false := rfl
@[simp] theorem isNon_ref : isNonA (.ref r) = false := rfl
@[simp] theorem w_truN : (truA .non st).wp QB ↔ QB false st := Iff.rfl
@[simp] theorem w_truB : (truA (.bl b) st).wp QB ↔ QB b st := Iff.rfl
@[simp] theorem w_truI : (truA (.int i) st).wp QB ↔ QB (i != 0) st := Iff.rfl
@[simp] theorem w_truS : (truA (.str x) st).wp QB ↔ x.length ≤ sizeLine ∧ QB ((x.length : Int) != 0) st := w_if
@[simp] theorem w_truT : (truA (.tup xs) st).wp QB ↔ QB (!xs.isEmpty) st := Iff.rfl
@[simp] theorem w_truL : (truA (.ref r) st).wp QB ↔ ∃ xs, stL st r = some xs ∧ QB (!xs.isEmpty) st := by
  simp only [truA, stL]
  cases st[r]? with
  | none => simp [R.wp]
  | some o =>
    cases o with
    | oth u => simp [R.wp]
    | lst xs => simp [R.wp]
@[simp] theorem w_getB : (getB (.bl b) st).wp QB ↔ QB b st := Iff.rfl
@[simp] theorem w_getI : (getI (.int i) st).wp QI ↔ QI i st := Iff.rfl
theorem w_opt {α : Type} {o : Option α} {f : α → A} : (match o with
    | some d => R.ok (f d) st
    | none => R.bad).wp Q ↔ ∃ d, o = some d ∧ Q (f d) st := by
  cases o <;> simp [R.wp]
@[simp] theorem w_ixT : (ixA (.tup xs) (.int i) st).wp Q ↔ ∃ d, atI xs i = some d ∧ Q d st := by
  simp only [ixA]
  cases atI xs i <;> simp [R.wp]
@[simp] theorem w_ixC : (ixA (.scr xs) (.int i) st).wp Q ↔ ∃ d, atI xs i = some d ∧ Q d st := by
  simp only [ixA]
  cases atI xs i <;> simp [R.wp]
@[simp] theorem w_ixL : (ixA (.ref r) (.int i) st).wp Q ↔ ∃ xs, stL st r = some xs ∧ ∃ d, atI xs i = some d ∧ Q d st := by
  simp only [ixA, stL]
  cases st[r]? with
  | none => simp [R.wp]
  | some o =>
    cases o with
    | oth u => simp [R.wp]
    | lst xs =>
      simp only [Option.some.injEq, exists_eq_left']
      cases atI xs i <;> simp [R.wp]
@[simp] theorem w_ixS : (ixA (.str x) (.int i) st).wp Q ↔ x.length ≤ sizeLine ∧ ∃ c, atI x.cps.toList i = some c ∧ Q (.str ⟨#[c]⟩) st := by
  simp only [ixA]
  by_cases h : x.length ≤ sizeLine
  · rw [if_pos h]
    cases atI x.cps.toList i <;> simp [R.wp, h]
  · rw [if_neg h]
    simp [R.wp, h]
@[simp] theorem w_abs : (absA [.int i] st).wp Q ↔ Q (.int (if i < 0 then -i else i)) st := Iff.rfl
@[simp] theorem w_int : (intA [.int i] st).wp Q ↔ Q (.int i) st := Iff.rfl
@[simp] theorem w_intB : (intA [.bl b] st).wp Q ↔ Q (.int (if b then 1 else 0)) st := Iff.rfl
@[simp] theorem w_max2 : (maxA [.int i, .int j] st).wp Q ↔ Q (.int (if j > i then j else i)) st := Iff.rfl
@[simp] theorem w_min2 : (minA [.int i, .int j] st).wp Q ↔ Q (.int (if j < i then j else i)) st := Iff.rfl
@[simp] theorem w_lenS : (lenA [.str x] st).wp Q ↔ x.length ≤ sizeLine ∧ Q (.int (x.length : Nat)) st := w_if
@[simp] theorem w_lenT : (lenA [.tup xs] st).wp Q ↔ Q (.int (xs.length : Nat)) st := Iff.rfl
@[simp] theorem w_lenC : (lenA [.scr xs] st).wp Q ↔ Q (.int (xs.length : Nat)) st := Iff.rfl
theorem itemsL_ref : itemsL (.ref r) st = stL st r := rfl
theorem itemsL_scr : itemsL (.scr xs) st = some xs := rfl
theorem itemsQ_tup : itemsQ (.tup xs) st = some xs := rfl
theorem itemsQ_ref : itemsQ (.ref r) st = stL st r := rfl
theorem itemsQ_scr : itemsQ (.scr xs) st = some xs := rfl
@[simp] theorem w_lenL : (lenA [.ref r] st).wp Q ↔ ∃ xs, stL st r = some xs ∧ Q (.int (xs.length : Nat)) st := by
  simp only [lenA]
  simp only [itemsQ_ref]
  cases stL st r <;> simp [R.wp]
@[simp] theorem w_listT : (listA [.tup xs] st).wp Q ↔ Q (.ref st.length) (st ++ [.lst xs]) := Iff.rfl
@[simp] theorem w_listC : (listA [.scr xs] st).wp Q ↔ Q (.ref st.length) (st ++ [.lst xs]) := Iff.rfl
@[simp] theorem w_listL : (listA [.ref r] st).wp Q ↔ ∃ xs, stL st r = some xs ∧ Q (.ref st.length) (st ++ [.lst xs]) := by
  simp only [listA]
  simp only [itemsQ_ref]
  cases stL st r <;> simp [R.wp]
@[simp] theorem w_tupT : (tupleA [.tup xs] st).wp Q ↔ Q (.tup xs) st := Iff.rfl
@[simp] theorem w_tupC : (tupleA [.scr xs] st).wp Q ↔ Q (.tup xs) st := Iff.rfl
@[simp] theorem w_tupL : (tupleA [.ref r] st).wp Q ↔ ∃ xs, stL st r = some xs ∧ Q (.tup xs) st := by
  simp only [tupleA]
  simp only [itemsL_ref]
  cases stL st r <;> simp [R.wp]
@[simp] theorem w_sumL : (sumA [.ref r] st).wp Q ↔ ∃ xs, stL st r = some xs ∧ ∃ ns, intsOf xs = some ns ∧ Q (.int ns.sum) st := by
  simp only [sumA]
  simp only [itemsL_ref]
  cases stL st r with
  | none => simp [R.wp]
  | some xs =>
    simp only [Option.bind_some, Option.some.injEq, exists_eq_left']
    cases intsOf xs <;> simp [R.wp]
@[simp] theorem w_ord : (ordA [.str x] st).wp Q ↔ x.length = 1 ∧ Q (.int (x.cps.getD 0 0 : Nat)) st := w_if
@[simp] theorem w_bits : (bitsA (.int i) st).wp Q ↔ Q (.int (Builtin.Int.intBits i : Nat)) st := Iff.rfl
@[simp] theorem w_isi {T : Ty} (h : isTy T a st = some b) : (isiA T a st).wp Q ↔ Q (.bl b) st := by
  unfold isiA
  rw [h]
  exact Iff.rfl
theorem w_isi' {T : Ty} : (isiA T a st).wp Q ↔ ∃ b, isTy T a st = some b ∧ Q (.bl b) st := by
  unfold isiA
  cases isTy T a st <;> simp [R.wp]
@[simp] theorem ty_tt : isTy .tup (.tup xs) st = some true := rfl
@[simp] theorem ty_ti : isTy .tup (.int i) st = some false := rfl
@[simp] theorem ty_ts : isTy .tup (.str x) st = some false := rfl
@[simp] theorem ty_tn : isTy .tup .non st = some false := rfl
@[simp] theorem ty_tb : isTy .tup (.bl b) st = some false := rfl
@[simp] theorem ty_st : isTy .str (.tup xs) st = some false := rfl
@[simp] theorem ty_si : isTy .str (.int i) st = some false := rfl
@[simp] theorem ty_ss : isTy .str (.str x) st = some true := rfl
@[simp] theorem ty_sn : isTy .str .non st = some false := rfl
@[simp] theorem ty_sb : isTy .str (.bl b) st = some false := rfl
@[simp] theorem ty_it : isTy .int (.tup xs) st = some false := rfl
@[simp] theorem ty_ii : isTy .int (.int i) st = some true := rfl
@[simp] theorem ty_is : isTy .int (.str x) st = some false := rfl
@[simp] theorem ty_in : isTy .int .non st = some false := rfl
@[simp] theorem ty_ib : isTy .int (.bl b) st = some true := rfl
@[simp] theorem ty_bt : isTy .bool (.tup xs) st = some false := rfl
@[simp] theorem ty_bi : isTy .bool (.int i) st = some false := rfl
@[simp] theorem ty_bs : isTy .bool (.str x) st = some false := rfl
@[simp] theorem ty_bn : isTy .bool .non st = some false := rfl
@[simp] theorem ty_bb : isTy .bool (.bl b) st = some true := rfl
@[simp] theorem isL_ref : isL (.ref r) st = (stL st r).isSome := by
  simp only [isL, stL]
  cases st[r]? with
  | none => rfl
  | some o => cases o <;> rfl
@[simp] theorem w_extendT {ys : List A} : (extendA (.ref r) [.tup ys] st).wp Q ↔ ∃ xs, stL st r = some xs ∧ xs.length + ys.length ≤ sizeLine ∧ Q .non (st.set r (.lst (xs ++ ys))) := by
  simp only [extendA, stL]
  cases st[r]? with
  | none => simp [R.wp]
  | some o =>
    cases o with
    | oth u => simp [R.wp]
    | lst xs => simp only [w_if, Option.some.injEq, exists_eq_left']
@[simp] theorem w_append : (appendA (.ref r) [a] st).wp Q ↔ ∃ xs, stL st r = some xs ∧ xs.length < sizeLine ∧ Q .non (st.set r (.lst (xs ++ [a]))) := by
  simp only [appendA, stL]
  cases st[r]? with
  | none => simp [R.wp]
  | some o =>
    cases o with
    | oth u => simp [R.wp]
    | lst xs => simp only [w_if, Option.some.injEq, exists_eq_left']
@[simp] theorem w_rng1 : (rngA [.int j] st).wp QS ↔ (-(2 ^ 62) ≤ j ∧ j < 2 ^ 62) ∧ QS (.rng 0 j.toNat) st := w_if
@[simp] theorem w_rng2 : (rngA [.int i, .int j] st).wp QS ↔ (-(2 ^ 62) ≤ i ∧ i < 2 ^ 62 ∧ -(2 ^ 62) ≤ j ∧ j < 2 ^ 62) ∧ QS (.rng i (j - i).toNat) st := w_if
@[simp] theorem w_srcT : (srcA (.tup xs) st).wp QS ↔ QS (.vals xs) st := Iff.rfl
@[simp] theorem w_srcC : (srcA (.scr xs) st).wp QS ↔ QS (.vals xs) st := Iff.rfl
@[simp] theorem w_srcS : (srcA (.str x) st).wp QS ↔ QS (.chars x) st := Iff.rfl
@[simp] theorem w_srcL : (srcA (.ref r) st).wp QS ↔ (stL st r).isSome = true ∧ QS (.lst r) st := by
  simp only [srcA, stL]
  cases st[r]? with
  | none => simp [R.wp]
  | some o =>
    cases o with
    | oth u => simp [R.wp]
    | lst xs => simp [R.wp]
@[simp] theorem w_zipT : (zipA [.tup xs, .tup ys] st).wp QS ↔ QS (.zipv xs ys) st := Iff.rfl
@[simp] theorem w_slT {lo hi : Option Int} : (slA (.tup xs) lo hi st).wp Q ↔ Q (.tup (cutA xs lo hi)) st := Iff.rfl
@[simp] theorem w_slL {lo hi : Option Int} : (slA (.ref r) lo hi st).wp Q ↔ ∃ xs, stL st r = some xs ∧ Q (.ref st.length) (st ++ [.lst (cutA xs lo hi)]) := by
  simp only [slA, stL]
  cases st[r]? with
  | none => simp [R.wp]
  | some o =>
    cases o with
    | oth u => simp [R.wp]
    | lst xs => simp [R.wp]
@[simp] theorem w_slS {lo hi : Option Int} : (slA (.str x) lo hi st).wp Q ↔ x.length ≤ sizeLine ∧ Q (.str (L2.cutS x lo hi)) st := w_if
@[simp] theorem ex_setA {N : Store → Prop} : (∃ st4, setA (.ref r) (.int k) d st = some st4 ∧ N st4) ↔ ∃ xs, stL st r = some xs ∧ ∃ j, L2.ixN xs.length k = some j ∧ N (st.set r (.lst (xs.set j d))) := by
  simp only [setA, stL]
  cases st[r]? with
  | none => simp
  | some o =>
    cases o with
    | oth u => simp
    | lst xs =>
      simp only [Option.some.injEq, exists_eq_left']
      cases L2.ixN xs.length k <;> simp
@[simp] theorem stL_set_some {st : Store} {r : Nat} {ys : List A} (h : (stL st r).isSome = true) : stL (st.set r (.lst ys)) r = some ys := by
  obtain ⟨xs, e⟩ := Option.isSome_iff_exists.mp h
  have := (List.getElem?_eq_some_iff.mp (stL_eq e)).1
  unfold stL
  rw [List.getElem?_set_self this]
theorem stL_set_self {st : Store} {r : Nat} {xs ys : List A} (h : stL st r = some xs) : stL (st.set r (.lst ys)) r = some ys := by
  have := (List.getElem?_eq_some_iff.mp (stL_eq h)).1
  unfold stL
  rw [List.getElem?_set_self this]
@[simp] theorem stL_set_ne {st : Store} {r q : Nat} {ys : List A} (h : r ≠ q) : stL (st.set r (.lst ys)) q = stL st q := by
  unfold stL
  rw [List.getElem?_set_ne h]
@[simp] theorem stL_pre {st g : Store} {r : Nat} (h : (stL st r).isSome = true) : stL (st ++ g) r = stL st r := by
  obtain ⟨xs, e⟩ := Option.isSome_iff_exists.mp h
  have e' := stL_eq e
  rw [e]
  exact stL_of (by rw [List.getElem?_append_left (List.getElem?_eq_some_iff.mp e').1, e'])
@[simp] theorem stL_end {st g : Store} : stL (st ++ g) st.length = stL g 0 := by
  unfold stL
  rw [List.getElem?_append_right (Nat.le_refl _), Nat.sub_self]
@[simp] theorem stL_end1 {st g : Store} {k : Nat} : stL (st ++ g) (st.length + k) = stL g k := by
  unfold stL
  rw [List.getElem?_append_right (Nat.le_add_right _ _), Nat.add_sub_cancel_left]
@[simp] theorem stL_end2 {st g : Store} {k m : Nat} : stL (st ++ g) (st.length + k + m) = stL g (k + m) := by
  rw [Nat.add_assoc]
  exact stL_end1
@[simp] theorem stL_z {xs : List A} {g : Store} : stL (.lst xs :: g) 0 = some xs := rfl
@[simp] theorem stL_s {o : Ob} {g : Store} {k : Nat} : stL (o :: g) (k + 1) = stL g k := by
  unfold stL
  rw [List.getElem?_cons_succ]
theorem stL_app {st g : Store} {r : Nat} {xs : List A} (h : stL st r = some xs) : stL (st ++ g) r = some xs := by
  have e := stL_eq h
  unfold stL
  rw [List.getElem?_append_left (List.getElem?_eq_some_iff.mp e).1, e]
end
@[simp] theorem ixN_nn {n : Nat} {i : Int} (h : 0 ≤ i) : ixN n i = if i < n then some i.toNat else none := by
  unfold ixN
  rw [if_pos h]
@[simp] theorem atI_nn {α : Type} {xs : List α} {i : Int} (h : 0 ≤ i) : atI xs i = xs[i.toNat]? := by
  unfold atI
  rw [ixN_nn h]
  by_cases c : i < xs.length
  · rw [if_pos c]
    rfl
  · rw [if_neg c]
    exact (List.getElem?_eq_none (by omega)).symm
theorem ex_eq {α : Type} {p : α → Prop} {v : α} : (∃ a, v = a ∧ p a) ↔ p v := exists_eq_left'
@[simp] theorem cut_to {α : Type} {xs : List α} {j : Int} (h : 0 ≤ j) : cutA xs none (some j) = xs.take j.toNat := by
  unfold cutA HT.sIx
  have : ¬ j < 0 := by omega
  simp only [this, if_false, Nat.sub_zero, List.drop_zero]
  by_cases c : j.toNat ≤ xs.length
  · rw [Nat.min_eq_left c]
  · rw [Nat.min_eq_right (by omega), List.take_of_length_le (Nat.le_refl _), List.take_of_length_le (by omega)]
@[simp] theorem cut_from {α : Type} {xs : List α} {i : Int} (h : 0 ≤ i) : cutA xs (some i) none = xs.drop i.toNat := by
  unfold cutA HT.sIx
  have : ¬ i < 0 := by omega
  simp only [this, if_false]
  rw [List.take_of_length_le (by rw [List.length_drop]; exact Nat.le_refl _)]
  by_cases c : i.toNat ≤ xs.length
  · rw [Nat.min_eq_left c]
  · rw [Nat.min_eq_right (by omega), List.drop_of_length_le (Nat.le_refl _), List.drop_of_length_le (by omega)]
@[simp] theorem cut_mid {α : Type} {xs : List α} {i j : Int} (h : 0 ≤ i) (h2 : 0 ≤ j) : cutA xs (some i) (some j) = (xs.take j.toNat).drop i.toNat := by
  unfold cutA HT.sIx
  have q1 : ¬ i < 0 := by omega
  have q2 : ¬ j < 0 := by omega
  simp only [q1, q2, if_false]
  refine List.ext_getElem? fun k => ?_
  simp only [List.getElem?_take, List.getElem?_drop]
  by_cases c : k < min j.toNat xs.length - min i.toNat xs.length
  · have e : min i.toNat xs.length = i.toNat := by omega
    rw [if_pos c, e, if_pos (by omega)]
  · rw [if_neg c]
    by_cases d : i.toNat + k < j.toNat
    · rw [if_pos d, List.getElem?_eq_none (by omega)]
    · rw [if_neg d]
@[simp] theorem cut_all' {α : Type} {xs : List α} : cutA xs none none = xs := by
  unfold cutA HT.sIx
  simp
@[simp] theorem size_eq : sizeLine = 16777216 := PySem.sizeLine_eq
end ML
/-! MP2: plain: the tape of numbers that every law draws from; telling alike. -/
namespace ML
open PySem L2
end ML
namespace Law
open PySem L2 ML
def m_law_tape : MF := mFn 3 1 (mSeq (mSet 1 (mC (.int 7)))
    (mSeq (mFor (mSrc (mVar 0)) (.one 2) (mSet 1 (mBin modA (mCa intA (mCons (mBin addA (mBin mulA (mVar 1) (mC (.int 31))) (mCa absA (mCons (mCa intA (mCons (mVar 2) mNil)) mNil))) mNil)) (mC (.int 2147483647)))))
    (mRet (mLst (mCons (mCa listA (mCons (mVar 0) mNil)) (mCons (mC (.int 0)) (mCons (mC (.int 0)) (mCons (mVar 1) mNil))))))))
def m_law_draw : MF := mFn 4 2 (mSeq (mIfS (mGB (mBin eqA (mBin ixA (mVar 0) (mC (.int 2))) (mC (.int 0)))) (mSeq (mSet 2 (mBin ixA (mVar 0) (mC (.int 1))))
    (mSeq (mSet 3 (mC (.int 0)))
    (mSeq (mIfS (mGB (mBin ltA (mVar 2) (mCa lenA (mCons (mBin ixA (mVar 0) (mC (.int 0))) mNil)))) (mSet 3 (mCa absA (mCons (mCa intA (mCons (mBin ixA (mBin ixA (mVar 0) (mC (.int 0))) (mVar 2)) mNil)) mNil))) (mSeq (mPut (mVar 0) (mC (.int 3)) (mBin modA (mCa intA (mCons (mBin addA (mBin addA (mBin mulA (mBin ixA (mVar 0) (mC (.int 3))) (mC (.int 48271))) (mVar 2)) (mC (.int 1))) mNil)) (mC (.int 2147483647))))
    (mSet 3 (mBin ixA (mVar 0) (mC (.int 3))))))
    (mSeq (mPut (mVar 0) (mC (.int 1)) (mBin addA (mVar 2) (mC (.int 1))))
    (mSeq (mIfS (mGB (mBin ltA (mVar 3) (mBin powA (mC (.int 10)) (mC (.int 18))))) (mSeq (mSet 3 (mBin modA (mCa intA (mCons (mBin addA (mBin addA (mBin mulA (mVar 3) (mC (.int 48271))) (mBin mulA (mVar 2) (mC (.int 69621)))) (mC (.int 5))) mNil)) (mC (.int 2147483647))))
    (mSeq (mSet 3 (mBin modA (mCa intA (mCons (mBin mulA (mVar 3) (mC (.int 69621))) mNil)) (mC (.int 2147483629))))
    (mRet (mBin modA (mCa intA (mCons (mVar 3) mNil)) (mCa maxA (mCons (mVar 1) (mCons (mC (.int 1)) mNil))))))) mNext)
    (mPut (mVar 0) (mC (.int 2)) (mVar 3))))))) mNext)
    (mSeq (mSet 3 (mBin ixA (mVar 0) (mC (.int 2))))
    (mSeq (mPut (mVar 0) (mC (.int 2)) (mBin fdivA (mVar 3) (mCa maxA (mCons (mVar 1) (mCons (mC (.int 2)) mNil)))))
    (mRet (mBin modA (mCa intA (mCons (mVar 3) mNil)) (mCa maxA (mCons (mVar 1) (mCons (mC (.int 1)) mNil))))))))
/-- the tape in the store: the numbers at 0, the tape itself at 1 -/
structure TpOk (st : Store) : Prop where
  ex : ∃ (ns : List Int) (p r t : Int), 0 ≤ p ∧ st[0]? = some (.lst (ns.map .int)) ∧ st[1]? = some (.lst [.ref 0, .int p, .int r, .int t])
/-- all but the tape stays; more may stand behind -/
structure Kp (st st' : Store) : Prop where
  len : st.length ≤ st'.length
  get : ∀ i, 1 < i → i < st.length → st'[i]? = st[i]?
theorem Kp.refl (st : Store) : Kp st st := ⟨Nat.le_refl _, fun _ _ _ => rfl⟩
theorem Kp.trans {a b c : Store} (h : Kp a b) (k : Kp b c) : Kp a c := ⟨Nat.le_trans h.len k.len, fun i h1 h2 => by rw [k.get i h1 (Nat.lt_of_lt_of_le h2 h.len), h.get i h1 h2]⟩
theorem Kp.grown {a b : Store} (h : Grown a b) : Kp a b := by
  obtain ⟨g, rfl⟩ := h
  exact ⟨by simp, fun i _ h => List.getElem?_append_left h⟩
theorem Kp.lst {a b : Store} (h : Kp a b) {i : Nat} {o : Ob} (hi : 1 < i) (e : a[i]? = some o) : b[i]? = some o := by
  rw [h.get i hi (List.getElem?_eq_some_iff.mp e).1]
  exact e
theorem Kp.stL {a b : Store} (h : Kp a b) {i : Nat} {xs : List A} (hi : 1 < i) (e : ML.stL a i = some xs) : ML.stL b i = some xs := stL_of (h.lst hi (stL_eq e))
theorem TpOk.grown {a b : Store} (t : TpOk a) (h : Grown a b) : TpOk b := by
  obtain ⟨ns, p, r, q, h0, h1, h2⟩ := t.ex
  exact ⟨ns, p, r, q, h0, h.get h1, h.get h2⟩
theorem TpOk.len {a : Store} (t : TpOk a) : 2 ≤ a.length := by
  obtain ⟨ns, p, r, q, h0, h1, h2⟩ := t.ex
  exact (List.getElem?_eq_some_iff.mp h2).1
theorem tape_set {st : Store} {ns : List Int} {p r q : Int} (h0 : 0 ≤ p) (h1 : st[0]? = some (.lst (ns.map .int))) (h2 : st[1]?.isSome = true) : TpOk (st.set 1 (.lst [.ref 0, .int p, .int r, .int q])) := by
  obtain ⟨o, e⟩ := Option.isSome_iff_exists.mp h2
  refine ⟨ns, p, r, q, h0, ?_, ?_⟩
  · rw [List.getElem?_set_ne (by decide)]
    exact h1
  · rw [List.getElem?_set_self (List.getElem?_eq_some_iff.mp e).1]
theorem kp_set {st : Store} {o : Ob} : Kp st (st.set 1 o) := ⟨by simp, fun i h _ => by rw [List.getElem?_set_ne (by omega)]⟩
theorem max_pos {many : Int} : 0 < (if many < 1 then 1 else many) := by split <;> omega
theorem max_pos2 {many : Int} : 0 < (if many < 2 then 2 else many) := by split <;> omega
theorem max_eq {many : Int} : (if many < 1 then 1 else many) = max many 1 := by
  split <;> omega
theorem max_log {many : Int} (h : many.natAbs < 2 ^ 200) : (if many < 2 then 2 else many).natAbs.log2 < 9000 := by
  split
  · decide
  · exact Nat.lt_of_lt_of_le (PySem.Flt.log2_lt_of (by decide) h) (by decide)
theorem small64 {i : Int} (h : -1000000000000000000 ≤ i) (h2 : i ≤ 1000000000000000000) : -(2 ^ 64) < i ∧ i < 2 ^ 64 := by omega
theorem cmul_r {i j : Int} (h : -1000000000000000000 ≤ j) (h2 : j ≤ 1000000000000000000) : CMulA i j := .inl (.inr (small64 h h2))
theorem cmul_l {i j : Int} (h : -1000000000000000000 ≤ i) (h2 : i ≤ 1000000000000000000) : CMulA i j := .inl (.inl (small64 h h2))
theorem draw_wp {st : Store} {many : Int} {Q : A → Store → Prop} (t : TpOk st) (hm : many.natAbs < 2 ^ 200) (k : ∀ (n : Int) st', 0 ≤ n → n < max many 1 → TpOk st' → Kp st st' → st'.length = st.length → Q (.int n) st') : (m_law_draw [.ref 1, .int many] st).wp Q := by
  obtain ⟨ns, p, r, q, h0, h1, h2⟩ := t.ex
  have g1 := stL_of h1
  have g2 := stL_of h2
  have hs : st[1]?.isSome = true := by rw [h2]; rfl
  have fin : ∀ (n r' p' q' : Int) st', 0 ≤ p' → st' = st.set 1 (.lst [.ref 0, .int p', .int r', .int q']) → Q (.int (n % (if many < 1 then 1 else many))) st' := fun n r' p' q' st' hp e => by
    subst e
    refine k _ _ (Int.emod_nonneg _ (by have := max_pos (many := many); omega)) ?_ (tape_set hp h1 hs) kp_set (by simp)
    rw [← max_eq]
    exact Int.emod_lt_of_pos _ max_pos
  have c1 : CMulA p 69621 := cmul_r (by decide) (by decide)
  have c2 : CMulA q 48271 := cmul_r (by decide) (by decide)
  have c3 : ∀ i, CMulA i 48271 := fun i => cmul_r (by decide) (by decide)
  have c4 : ∀ i, CMulA i 69621 := fun i => cmul_r (by decide) (by decide)
  by_cases hr : r = 0
  · by_cases hp : p < ns.length
    · have hpn : p.toNat < ns.length := by omega
      simp only [m_law_draw] 
      simp [g1, g2, hr, hp, h0, hpn, max_pos, max_pos2, max_log hm, c3, c4]
      split <;> split <;> exact fin _ _ (p + 1) _ _ (by omega) rfl
    · simp only [m_law_draw] 
      simp [g1, g2, hr, hp, h0, max_pos, max_pos2, max_log hm, c3, c4]
      split <;> exact fin _ _ (p + 1) _ _ (by omega) rfl
  · simp only [m_law_draw] 
    simp [g1, g2, hr, max_pos, max_pos2, max_log hm]
    exact fin _ _ _ _ _ h0 rfl
theorem tape_wp {ns : List Int} {Q : A → Store → Prop} (k : ∀ st, TpOk st → st.length = 2 → Q (.ref 1) st) : (m_law_tape [.scr (ns.map .int)] []).wp Q := by
  simp only [m_law_tape]
  simp
  refine for_vals (fun i ρ st => st = [] ∧ ∃ t v, ρ = [some (.scr (ns.map .int)), some (.int t), v]) ⟨rfl, 7, none, rfl⟩ ?_ ?_
  · rintro i x ρ st hx ⟨rfl, t, v, rfl⟩
    rw [List.getElem?_map] at hx
    cases e : ns[i]? with
    | none => rw [e] at hx; cases hx
    | some n =>
      rw [e] at hx
      cases hx
      refine ⟨_, rfl, ?_⟩
      simp
      exact cmul_r (by decide) (by decide)
  · rintro ρ st ⟨rfl, t, v, rfl⟩
    simp
    exact k _ ⟨ns, 0, 0, t, by decide, rfl, rfl⟩ rfl
/-! ### told alike -/
mutual
/-- no list, no instance in it -/
def plainA : A → Bool
  | .tup xs => plainAs xs
  | .scr _ => false
  | .ref _ => false
  | _ => true
def plainAs : List A → Bool
  | [] => true
  | x :: xs => plainA x && plainAs xs
end
mutual
def depA : A → Nat
  | .tup xs => depAs xs + 1
  | _ => 0
def depAs : List A → Nat
  | [] => 0
  | x :: xs => max (depA x) (depAs xs)
end
theorem plain_get : ∀ {xs : List A} {i : Nat} {x : A}, plainAs xs = true → xs[i]? = some x → plainA x = true
  | [], _, _, _, h => by simp at h
  | y :: ys, 0, x, hp, h => by
    simp at h
    subst h
    simp only [plainAs, Bool.and_eq_true] at hp
    exact hp.1
  | y :: ys, i + 1, x, hp, h => by
    simp only [plainAs, Bool.and_eq_true] at hp
    exact plain_get (i := i) hp.2 (by simpa using h)
theorem dep_get : ∀ {xs : List A} {i : Nat} {x : A}, xs[i]? = some x → depA x ≤ depAs xs
  | [], _, _, h => by simp at h
  | y :: ys, 0, x, h => by
    simp at h
    subst h
    simp only [depAs]
    omega
  | y :: ys, i + 1, x, h => by
    have := dep_get (xs := ys) (i := i) (x := x) (by simpa using h)
    simp only [depAs]
    omega
def m_law_alike : Nat → MF
  | 0 => fun _ _ => .bad
  | n + 1 => mFn 3 2 (mSeq (mIfS (mTru (mUn (isiA .tup) (mVar 1))) (mSeq (mIfS (mOr (mNot (mTru (mUn (isiA .tup) (mVar 0)))) (mGB (mBin neA (mCa lenA (mCons (mVar 0) mNil)) (mCa lenA (mCons (mVar 1) mNil))))) (mRet (mC (.bl false))) mNext)
    (mSeq (mFor (mRng (mCons (mCa lenA (mCons (mVar 1) mNil)) mNil)) (.one 2) (mIfS (mNot (mTru (mCall (m_law_alike n) (mCons (mBin ixA (mVar 0) (mVar 2)) (mCons (mBin ixA (mVar 1) (mVar 2)) mNil))))) (mRet (mC (.bl false))) mNext))
    (mRet (mC (.bl true))))) mNext)
    (mSeq (mIfS (mGB (mBin isNA (mVar 1) (mC .non))) (mRet (mBin isNA (mVar 0) (mC .non))) mNext)
    (mSeq (mIfS (mTru (mUn (isiA .str) (mVar 1))) (mRet (mAndV (mUn (isiA .str) (mVar 0)) (mBin eqA (mVar 0) (mVar 1)))) mNext)
    (mSeq (mIfS (mGB (mBin neA (mUn (isiA .bool) (mVar 0)) (mUn (isiA .bool) (mVar 1)))) (mRet (mC (.bl false))) mNext)
    (mRet (mAndV (mUn (isiA .int) (mVar 0)) (mBin eqA (mVar 0) (mVar 1))))))))
/-! small enough for a loop over its places -/
mutual
def fewA : A → Bool
  | .tup xs => decide (xs.length ≤ 16777216) && fewAs xs
  | _ => true
def fewAs : List A → Bool
  | [] => true
  | x :: xs => fewA x && fewAs xs
end
theorem few_get : ∀ {xs : List A} {i : Nat} {x : A}, fewAs xs = true → xs[i]? = some x → fewA x = true
  | [], _, _, _, h => by simp at h
  | y :: ys, 0, x, hp, h => by
    simp at h
    subst h
    simp only [fewAs, Bool.and_eq_true] at hp
    exact hp.1
  | y :: ys, i + 1, x, hp, h => by
    simp only [fewAs, Bool.and_eq_true] at hp
    exact few_get (i := i) hp.2 (by simpa using h)
theorem alike_wp : ∀ (n : Nat) {a : A} {st : Store} {Q : A → Store → Prop}, plainA a = true → fewA a = true → depA a < n → Q (.bl true) st → (m_law_alike n [a, a] st).wp Q
  | 0, a, st, Q, _, _, h, _ => by omega
  | n + 1, a, st, Q, hp, hf, hd, hq => by
    cases a with
    | tup xs =>
      simp only [plainA] at hp
      simp only [fewA, Bool.and_eq_true, decide_eq_true_eq] at hf
      simp only [depA] at hd
      simp [m_law_alike]
      refine ⟨by omega, ?_⟩
      refine for_rng (fun i ρ st' => st' = st ∧ ∃ v, ρ = [some (.tup xs), some (.tup xs), v]) ⟨rfl, none, rfl⟩ ?_ ?_
      · rintro i ρ st' hi ⟨rfl, v, rfl⟩
        refine ⟨_, rfl, ?_⟩
        have e : xs[i]? = some xs[i] := List.getElem?_eq_getElem hi
        simp [e]
        have := dep_get e
        refine alike_wp n (plain_get hp e) (few_get hf.2 e) (by omega) ?_
        simp
      · rintro ρ st' ⟨rfl, v, rfl⟩
        simpa using hq
    | scr xs => cases hp
    | ref r => cases hp
    | non => simpa [m_law_alike] using hq
    | bl b => simpa [m_law_alike] using hq
    | int i => simpa [m_law_alike] using hq
    | str x => simpa [m_law_alike] using hq
/-! ### == of data without bools -/
mutual
def cleanA : A → Bool
  | .non => true
  | .int _ => true
  | .str x => PySem.PyData.strOk x
  | .tup xs => cleanAs xs
  | _ => false
def cleanAs : List A → Bool
  | [] => true
  | x :: xs => cleanA x && cleanAs xs
end
mutual
def toD : A → PyData
  | .int i => .int i
  | .str x => .str x
  | .tup xs => .tuple (toDs xs)
  | _ => .none
def toDs : List A → List PyData
  | [] => []
  | x :: xs => toD x :: toDs xs
end
mutual
theorem clean_data (f : Nat → Option PyData) : ∀ {a : A}, cleanA a = true → dataW f a = some (toD a)
  | .non, _ => rfl
  | .int _, _ => rfl
  | .str _, _ => rfl
  | .tup xs, h => by
    simp only [cleanA] at h
    simp only [dataW, toD, clean_datas f h]
    rfl
  | .bl _, h => nomatch h
  | .scr _, h => nomatch h
  | .ref _, h => nomatch h
theorem clean_datas (f : Nat → Option PyData) : ∀ {xs : List A}, cleanAs xs = true → dataWs f xs = some (toDs xs)
  | [], _ => rfl
  | x :: xs, h => by
    simp only [cleanAs, Bool.and_eq_true] at h
    simp only [dataWs, toDs, clean_data f h.1, clean_datas f h.2]
end
mutual
theorem clean_lay : ∀ {a : A}, cleanA a = true → (toD a).canLay0 = true ∧ (toD a).depth = depA a
  | .non, _ => ⟨rfl, rfl⟩
  | .int _, _ => ⟨rfl, rfl⟩
  | .str x, h => ⟨h, rfl⟩
  | .tup xs, h => by
    simp only [cleanA] at h
    obtain ⟨h1, h2⟩ := clean_lays h
    exact ⟨h1, by simp only [toD, PyData.depth, depA, h2]⟩
  | .bl _, h => nomatch h
  | .scr _, h => nomatch h
  | .ref _, h => nomatch h
theorem clean_lays : ∀ {xs : List A}, cleanAs xs = true → PyData.canLayAll0 (toDs xs) = true ∧ PyData.depthAll (toDs xs) = depAs xs
  | [], _ => ⟨rfl, rfl⟩
  | x :: xs, h => by
    simp only [cleanAs, Bool.and_eq_true] at h
    obtain ⟨h1, h2⟩ := clean_lay h.1
    obtain ⟨h3, h4⟩ := clean_lays h.2
    exact ⟨by simp only [toDs, PyData.canLayAll0, h1, h3, Bool.and_self], by simp only [toDs, PyData.depthAll, depAs, h2, h4]⟩
end
mutual
theorem clean_eqv : ∀ {a b : A}, cleanA a = true → cleanA b = true → (PyData.eqv (toD a) (toD b) = true ↔ a = b)
  | .non, b, _, hb => by
    cases b <;> first | (simp [toD, PyData.eqv]; done) | cases hb
  | .int i, b, _, hb => by
    cases b <;> first | (simp [toD, PyData.eqv]; done) | cases hb
  | .str x, b, _, hb => by
    cases b <;> first | (simp [toD, PyData.eqv]; done) | cases hb
  | .tup xs, b, ha, hb => by
    cases b with
    | tup ys =>
      simp only [cleanA] at ha hb
      simp only [toD, PyData.eqv, A.tup.injEq]
      exact clean_eqvs ha hb
    | non => simp [toD, PyData.eqv]
    | int i => simp [toD, PyData.eqv]
    | str x => simp [toD, PyData.eqv]
    | _ => cases hb
  | .bl _, _, h, _ => nomatch h
  | .scr _, _, h, _ => nomatch h
  | .ref _, _, h, _ => nomatch h
theorem clean_eqvs : ∀ {xs ys : List A}, cleanAs xs = true → cleanAs ys = true → (PyData.eqvAll (toDs xs) (toDs ys) = true ↔ xs = ys)
  | [], [], _, _ => by simp [toDs, PyData.eqvAll]
  | [], _ :: _, _, _ => by simp [toDs, PyData.eqvAll]
  | _ :: _, [], _, _ => by simp [toDs, PyData.eqvAll]
  | x :: xs, y :: ys, ha, hb => by
    simp only [cleanAs, Bool.and_eq_true] at ha hb
    simp only [toDs, PyData.eqvAll, Bool.and_eq_true, List.cons.injEq]
    rw [clean_eqv ha.1 hb.1, clean_eqvs ha.2 hb.2]
end
theorem clean_shaped {a : A} (h : cleanA a = true) (hd : depA a ≤ 64) : SeqAt.shaped (toD a) = true := by
  obtain ⟨h1, h2⟩ := clean_lay h
  unfold SeqAt.shaped
  rw [h1, h2]
  simpa using hd
open Classical in
theorem eqS_clean {a b : A} {k : Bool} (h : eqS a b = some k) (ha : cleanA a = true) (hb : cleanA b = true) : k = decide (a = b) := by
  cases a <;> cases b <;> first | (cases h; simp; done) | cases h | cases ha | cases hb
open Classical in
theorem eqB_clean {a b : A} {st : Store} (ha : cleanA a = true) (hb : cleanA b = true) (da : depA a ≤ 64) (db : depA b ≤ 64) : eqB a b st = some (decide (a = b)) := by
  unfold eqB
  cases e : eqS a b with
  | some k => rw [eqS_clean e ha hb]
  | none =>
    unfold dataOf
    rw [clean_data _ ha, clean_data _ hb]
    simp only [clean_shaped ha da, clean_shaped hb db, and_self, if_true, Option.some.injEq]
    rw [Bool.eq_iff_iff, clean_eqv ha hb]
    simp
/-! lists of such data -/
open Classical in
theorem eqB_list {r q : Nat} {xs ys : List A} {st : Store} (hr : stL st r = some xs) (hq : stL st q = some ys) (ha : cleanAs xs = true) (hb : cleanAs ys = true) (da : depAs xs ≤ 60) (db : depAs ys ≤ 60) : eqB (.ref r) (.ref q) st = some (decide (xs = ys)) := by
  unfold eqB
  have e1 : dataOf st (.ref r) = some (.list (toDs xs)) := by
    unfold dataOf
    simp only [dataW, derefN, stL_eq hr, clean_datas _ ha, Option.map_some]
  have e2 : dataOf st (.ref q) = some (.list (toDs ys)) := by
    unfold dataOf
    simp only [dataW, derefN, stL_eq hq, clean_datas _ hb, Option.map_some]
  simp only [eqS, e1, e2]
  obtain ⟨h1, h2⟩ := clean_lays ha
  obtain ⟨h3, h4⟩ := clean_lays hb
  have s1 : SeqAt.shaped (.list (toDs xs)) = true := by
    unfold SeqAt.shaped
    simp only [PyData.canLay0, h1, PyData.depth, h2]
    simp
    omega
  have s2 : SeqAt.shaped (.list (toDs ys)) = true := by
    unfold SeqAt.shaped
    simp only [PyData.canLay0, h3, PyData.depth, h4]
    simp
    omega
  simp only [s1, s2, and_self, if_true, Option.some.injEq, PyData.eqv]
  rw [Bool.eq_iff_iff, clean_eqvs ha hb]
  simp
open Classical in
theorem w_eqL {r q : Nat} {xs ys : List A} {st : Store} {Q : A → Store → Prop} (hr : stL st r = some xs) (hq : stL st q = some ys) (ha : cleanAs xs = true) (hb : cleanAs ys = true) (da : depAs xs ≤ 60) (db : depAs ys ≤ 60) (k : Q (.bl (decide (xs = ys))) st) : (eqA (.ref r) (.ref q) st).wp Q := by
  unfold eqA
  rw [eqB_list hr hq ha hb da db]
  exact k
open Classical in
theorem w_neL {r q : Nat} {xs ys : List A} {st : Store} {Q : A → Store → Prop} (hr : stL st r = some xs) (hq : stL st q = some ys) (ha : cleanAs xs = true) (hb : cleanAs ys = true) (da : depAs xs ≤ 60) (db : depAs ys ≤ 60) (k : Q (.bl (!decide (xs = ys))) st) : (neA (.ref r) (.ref q) st).wp Q := by
  unfold neA
  rw [eqB_list hr hq ha hb da db]
  exact k
open Classical in
theorem w_eqT {xs ys : List A} {st : Store} {Q : A → Store → Prop} (ha : cleanAs xs = true) (hb : cleanAs ys = true) (da : depAs xs ≤ 60) (db : depAs ys ≤ 60) (k : Q (.bl (decide (xs = ys))) st) : (eqA (.tup xs) (.tup ys) st).wp Q := by
  unfold eqA
  rw [eqB_clean (a := .tup xs) (b := .tup ys) ha hb (by simp only [depA]; omega) (by simp only [depA]; omega)]
  simpa using k
open Classical in
theorem w_neT {xs ys : List A} {st : Store} {Q : A → Store → Prop} (ha : cleanAs xs = true) (hb : cleanAs ys = true) (da : depAs xs ≤ 60) (db : depAs ys ≤ 60) (k : Q (.bl (!decide (xs = ys))) st) : (neA (.tup xs) (.tup ys) st).wp Q := by
  unfold neA
  rw [eqB_clean (a := .tup xs) (b := .tup ys) ha hb (by simp only [depA]; omega) (by simp only [depA]; omega)]
  simpa using k
theorem clean_ints : ∀ ns : List Int, cleanAs (ns.map A.int) = true
  | [] => rfl
  | n :: ns => by simp only [List.map_cons, cleanAs, cleanA, clean_ints ns, Bool.and_self]
theorem dep_ints : ∀ ns : List Int, depAs (ns.map A.int) = 0
  | [] => rfl
  | n :: ns => by simp only [List.map_cons, depAs, depA, dep_ints ns, Nat.max_self]
theorem plain_of_clean : ∀ {a : A}, cleanA a = true → plainA a = true := fun {a} => by
  refine A.rec (motive_1 := fun a => cleanA a = true → plainA a = true) (motive_2 := fun xs => cleanAs xs = true → plainAs xs = true) ?_ ?_ ?_ ?_ ?_ ?_ ?_ ?_ ?_ a
  · intro _; rfl
  · intro _ h; cases h
  · intro _ _; rfl
  · intro _ _; rfl
  · intro xs ih h; exact ih h
  · intro _ _ h; cases h
  · intro _ h; cases h
  · intro _; rfl
  · intro x xs h1 h2 h
    simp only [cleanAs, Bool.and_eq_true] at h
    simp only [plainAs, h1 h.1, h2 h.2, Bool.and_self]
end Law
/-! MP5: plain: elements drawn from the tape, and their codes. -/
namespace Law
open PySem L2 ML
def m_law_sign : MF := mFn 2 1 (mSeq (mSet 1 (mC (.str " !\"#$&'()*+,-./0123456789:;<=>?@ABCDEFGHIJKLMNOPQRSTUVWXYZ[\\]^_`")))
    (mSeq (mSet 1 (mBin addA (mVar 1) (mC (.str "abcdefghijklmnopqrstuvwxyz{|}~"))))
    (mRet (mBin ixA (mVar 1) (mCall m_law_draw (mCons (mVar 0) (mCons (mC (.int 94)) mNil)))))))
def m_law_word : MF := mFn 3 1 (mSeq (mSet 1 (mBin ixA (mLst (mCons (mC (.str "")) (mCons (mC (.str "")) (mCons (mC (.str "to")) (mCons (mC (.str "abcdefghij0123456")) mNil))))) (mCall m_law_draw (mCons (mVar 0) (mCons (mC (.int 4)) mNil)))))
    (mSeq (mFor (mRng (mCons (mCall m_law_draw (mCons (mVar 0) (mCons (mC (.int 4)) mNil))) mNil)) (.one 2) (mSet 1 (mBin addA (mVar 1) (mCall m_law_sign (mCons (mVar 0) mNil)))))
    (mRet (mVar 1))))
def m_law_scalar : MF := mFn 3 1 (mSeq (mSet 1 (mCall m_law_draw (mCons (mVar 0) (mCons (mC (.int 7)) mNil))))
    (mSeq (mIfS (mGB (mBin eqA (mVar 1) (mC (.int 0)))) (mRet (mCall m_law_word (mCons (mVar 0) mNil))) mNext)
    (mSeq (mIfS (mGB (mBin eqA (mVar 1) (mC (.int 1)))) (mSeq (mSet 2 (mLst (mCons (mC (.int 0)) (mCons (mC (.int 1)) (mCons (mC (.int 65535)) (mCons (mC (.int 65536)) (mCons (mC (.int 65537)) (mCons (mC (.int 4294967295)) (mCons (mC (.int 4294967296)) (mCons (mC (.int 281474976710656)) (mCons (mBin subA (mBin powA (mC (.int 10)) (mC (.int 15))) (mC (.int 1))) (mCons (mBin powA (mC (.int 10)) (mC (.int 15))) mNil))))))))))))
    (mRet (mBin mulA (mBin ixA (mVar 2) (mCall m_law_draw (mCons (mVar 0) (mCons (mC (.int 10)) mNil)))) (mBin subA (mC (.int 1)) (mBin mulA (mC (.int 2)) (mCall m_law_draw (mCons (mVar 0) (mCons (mC (.int 2)) mNil)))))))) mNext)
    (mSeq (mIfS (mGB (mBin eqA (mVar 1) (mC (.int 2)))) (mRet (mBin mulA (mBin subA (mCall m_law_draw (mCons (mVar 0) (mCons (mC (.int 2000001)) mNil))) (mC (.int 1000000))) (mBin ixA (mLst (mCons (mC (.int 1)) (mCons (mC (.int 65536)) (mCons (mC (.int 1000000000)) mNil)))) (mCall m_law_draw (mCons (mVar 0) (mCons (mC (.int 3)) mNil)))))) mNext)
    (mSeq (mIfS (mGB (mBin eqA (mVar 1) (mC (.int 3)))) (mRet (mBin subA (mCall m_law_draw (mCons (mVar 0) (mCons (mBin addA (mBin mulA (mC (.int 2)) (mBin powA (mC (.int 10)) (mC (.int 15)))) (mC (.int 1))) mNil))) (mBin powA (mC (.int 10)) (mC (.int 15))))) mNext)
    (mRet (mCall m_law_draw (mCons (mVar 0) (mCons (mC (.int 9)) mNil)))))))))
def m_law_element : MF := mFn 2 1 (mSeq (mSet 1 (mCall m_law_scalar (mCons (mVar 0) mNil)))
    (mSeq (mIfS (mGB (mBin eqA (mCall m_law_draw (mCons (mVar 0) (mCons (mC (.int 4)) mNil))) (mC (.int 0)))) (mRet (mTup (mCons (mVar 1) (mCons (mCall m_law_scalar (mCons (mVar 0) mNil)) mNil)))) mNext)
    (mRet (mVar 1))))
/-- printable, short -/
structure SStr (x : Str) : Prop where
  len : x.length ≤ 20
  ch : ∀ (c : Nat), c ∈ x.cps.toList → 32 ≤ c ∧ c < 127
def Sca (a : A) : Prop := (∃ x, a = .str x ∧ SStr x) ∨ ∃ i : Int, a = .int i ∧ -1000000000000000 ≤ i ∧ i ≤ 1000000000000000
def El (a : A) : Prop := Sca a ∨ ∃ x y, a = .tup [x, y] ∧ Sca x ∧ Sca y
def signL : List Nat := [32,33,34,35,36,38,39,40,41,42,43,44,45,46,47,48,49,50,51,52,53,54,55,56,57,58,59,60,61,62,63,64,65,66,67,68,69,70,71,72,73,74,75,76,77,78,79,80,81,82,83,84,85,86,87,88,89,90,91,92,93,94,95,96,97,98,99,100,101,102,103,104,105,106,107,108,109,110,111,112,113,114,115,116,117,118,119,120,121,122,123,124,125,126]
theorem sign_eq : ((Str.ofString " !\"#$&'()*+,-./0123456789:;<=>?@ABCDEFGHIJKLMNOPQRSTUVWXYZ[\\]^_`") ++ (Str.ofString "abcdefghijklmnopqrstuvwxyz{|}~") : Str) = ⟨signL.toArray⟩ := by decide +kernel
theorem sign_wp {st : Store} {Q : A → Store → Prop} (t : TpOk st) (k : ∀ (c : Nat) st', 32 ≤ c → c < 127 → TpOk st' → Kp st st' → st'.length = st.length → Q (.str ⟨#[c]⟩) st') : (m_law_sign [.ref 1] st).wp Q := by
  simp only [m_law_sign]
  simp only [wp_fn, sp_seq, sp_set, wp_c, wp_bin, wp_var, sp_ret, wp_call, wp_cons, wp_nil, w_addS, List.map_cons, List.map_nil, List.set_cons_succ, List.set_cons_zero, List.getElem?_cons_succ, List.getElem?_cons_zero, Option.some.injEq, ex_eq, List.length_cons, List.length_nil, List.cons_append, List.nil_append, List.replicate]
  refine ⟨trivial, by decide +kernel, ?_⟩
  rw [sign_eq]
  refine draw_wp t (by decide) fun n st1 na nb t1 k1 l1 => ?_
  rw [w_ixS]
  refine ⟨by decide +kernel, ?_⟩
  have hn : n.toNat < signL.length := by
    have : signL.length = 94 := by decide +kernel
    omega
  have hs : ∀ c ∈ signL, 32 ≤ c ∧ c < 127 := by decide +kernel
  refine ⟨signL[n.toNat], ?_, ?_⟩
  · rw [atI_nn na]
    exact List.getElem?_eq_getElem hn
  · obtain ⟨h1, h2⟩ := hs _ (List.getElem_mem hn)
    exact k _ _ h1 h2 t1 k1 l1
theorem sstr_lit {x : Str} (h : x.length ≤ 17 ∧ ∀ (c : Nat), c ∈ x.cps.toList → 32 ≤ c ∧ c < 127) : x.length ≤ 17 ∧ ∀ (c : Nat), c ∈ x.cps.toList → 32 ≤ c ∧ c < 127 := h
def WdI (st0 : Store) (i : Nat) (ρ : ML.Env) (st : Store) : Prop := ∃ (x : Str) (v : Option A), x.length ≤ 17 + i ∧ (∀ (c : Nat), c ∈ x.cps.toList → 32 ≤ c ∧ c < 127) ∧ TpOk st ∧ Kp st0 st ∧ ρ = [some (.ref 1), some (.str x), v]
theorem word_wp {st : Store} {Q : A → Store → Prop} (t : TpOk st) (k : ∀ (x : Str) st', SStr x → TpOk st' → Kp st st' → Q (.str x) st') : (m_law_word [.ref 1] st).wp Q := by
  simp only [m_law_word]
  simp only [wp_fn, List.map_cons, List.map_nil, List.length_cons, List.length_nil, List.cons_append, List.nil_append, List.replicate]
  refine ⟨trivial, ?_⟩
  refine seq_cut (WdI st 0) ?_ ?_
  · simp only [sp_set, wp_bin, wp_lst, wp_cons, wp_c, wp_nil, wp_call, wp_var, List.getElem?_cons_zero, Option.some.injEq, ex_eq]
    refine ⟨by simp [sizeLine], ?_⟩
    have g : Grown st (st ++ [.lst [.str "", .str "", .str "to", .str "abcdefghij0123456"]]) := ⟨_, rfl⟩
    refine draw_wp (t.grown g) (by decide) fun n st1 na nb t1 k1 l1 => ?_
    have hl : stL (st ++ [.lst [.str "", .str "", .str "to", .str "abcdefghij0123456"]]) st.length = some [.str "", .str "", .str "to", .str "abcdefghij0123456"] := by simp
    have h2 := t.len
    have h1 := k1.stL (by omega) hl
    rw [w_ixL]
    have hk := (Kp.grown g).trans k1
    have hn : n = 0 ∨ n = 1 ∨ n = 2 ∨ n = 3 := by omega
    have e0 : (Str.ofString "").length ≤ 17 + 0 ∧ ∀ (c : Nat), c ∈ (Str.ofString "").cps.toList → 32 ≤ c ∧ c < 127 := by decide +kernel
    have e1 : (Str.ofString "to").length ≤ 17 + 0 ∧ ∀ (c : Nat), c ∈ (Str.ofString "to").cps.toList → 32 ≤ c ∧ c < 127 := by decide +kernel
    have e2 : (Str.ofString "abcdefghij0123456").length ≤ 17 + 0 ∧ ∀ (c : Nat), c ∈ (Str.ofString "abcdefghij0123456").cps.toList → 32 ≤ c ∧ c < 127 := by decide +kernel
    refine ⟨_, h1, ?_⟩
    rcases hn with rfl | rfl | rfl | rfl
    · exact ⟨_, rfl, _, _, e0.1, e0.2, t1, hk, rfl⟩
    · exact ⟨_, rfl, _, _, e0.1, e0.2, t1, hk, rfl⟩
    · exact ⟨_, rfl, _, _, e1.1, e1.2, t1, hk, rfl⟩
    · exact ⟨_, rfl, _, _, e2.1, e2.2, t1, hk, rfl⟩
  rintro ρ st1 ⟨x, v, hx, hc, t1, k1, rfl⟩
  refine seq_cut (WdI st 3) ?_ ?_
  · simp only [sp_for, wp_rng, wp_cons, wp_nil, wp_call, wp_var, wp_c, List.getElem?_cons_zero, Option.some.injEq, ex_eq]
    refine draw_wp t1 (by decide) fun n st2 na nb t2 k2 l2 => ?_
    rw [w_rng1]
    refine ⟨by omega, ?_⟩
    refine for_rng (WdI st) ⟨x, v, hx, hc, t2, k1.trans k2, rfl⟩ ?_ ?_
    · rintro i ρ st3 hi ⟨x, v, hx, hc, t3, k3, rfl⟩
      refine ⟨_, rfl, ?_⟩
      simp only [sp_set, wp_bin, wp_var, wp_call, wp_cons, wp_nil, List.set_cons_succ, List.set_cons_zero, List.getElem?_cons_succ, List.getElem?_cons_zero, Option.some.injEq, ex_eq]
      refine sign_wp t3 fun c st4 ca cb t4 k4 _ => ?_
      rw [w_addS]
      have hz : Str.length ⟨#[c]⟩ = 1 := rfl
      refine ⟨by rw [hz]; simp only [sizeLine]; omega, _, _, ?_, ?_, t4, k3.trans k4, rfl⟩
      · show (x.cps ++ #[c]).size ≤ _
        have : x.cps.size ≤ 17 + i := hx
        simp
        omega
      · intro d hd
        have : d ∈ (x.cps ++ #[c]).toList := hd
        simp at this
        rcases this with h | rfl
        · exact hc d (by simpa using h)
        · exact ⟨ca, cb⟩
    · rintro ρ st3 ⟨x, v, hx, hc, t3, k3, rfl⟩
      exact ⟨x, v, by omega, hc, t3, k3, rfl⟩
  rintro ρ st2 ⟨x, v, hx, hc, t2, k2, rfl⟩
  simp
  exact k x st2 ⟨by omega, hc⟩ t2 k2
theorem pow15 : (10 : Int) ^ 15 = 1000000000000000 := by decide +kernel
def edgeL : List Int := [0, 1, 65535, 65536, 65537, 4294967295, 4294967296, 281474976710656, 999999999999999, 1000000000000000]
theorem scalar_wp {st : Store} {Q : A → Store → Prop} (t : TpOk st) (k : ∀ (a : A) st', Sca a → TpOk st' → Kp st st' → Q a st') : (m_law_scalar [.ref 1] st).wp Q := by
  have ki : ∀ (i : Int) st', -1000000000000000 ≤ i → i ≤ 1000000000000000 → TpOk st' → Kp st st' → Q (.int i) st' := fun i st' h1 h2 t' k' => k _ _ (.inr ⟨i, rfl, h1, h2⟩) t' k'
  simp only [m_law_scalar]
  simp only [wp_fn, List.map_cons, List.map_nil, List.length_cons, List.length_nil, List.cons_append, List.nil_append, List.replicate, sp_seq, sp_set, wp_call, wp_cons, wp_nil, wp_var, wp_c, List.getElem?_cons_zero, Option.some.injEq, ex_eq, List.set_cons_succ, List.set_cons_zero]
  refine ⟨trivial, ?_⟩
  refine draw_wp t (by decide) fun c st1 ca cb t1 k1 l1 => ?_
  simp only [sp_ifs, wp_gb, wp_bin, wp_var, wp_c, List.getElem?_cons_succ, List.getElem?_cons_zero, Option.some.injEq, ex_eq, w_eq, w_getB, decide_eq_true_eq]
  split
  · simp only [sp_ret, wp_call, wp_cons, wp_nil, wp_var, List.getElem?_cons_zero, Option.some.injEq, ex_eq]
    exact word_wp t1 fun x st2 hx t2 k2 => k _ _ (.inl ⟨x, rfl, hx⟩) t2 (k1.trans k2)
  simp only [sp_next, sp_ifs, wp_gb, wp_bin, wp_var, wp_c, List.getElem?_cons_succ, List.getElem?_cons_zero, Option.some.injEq, ex_eq, w_eq, w_getB, decide_eq_true_eq]
  split
  · have g : Grown st1 (st1 ++ [.lst (edgeL.map .int)]) := ⟨_, rfl⟩
    have hl : stL (st1 ++ [.lst (edgeL.map .int)]) st1.length = some (edgeL.map .int) := by simp
    simp [pow15, -List.getD_eq_getElem?_getD]
    refine draw_wp (t1.grown g) (by decide) fun n st2 na nb t2 k2 l2 => ?_
    have h2 := k2.stL (by have := t1.len; omega) hl
    have hk := k1.trans ((Kp.grown g).trans k2)
    rw [w_ixL]
    refine ⟨_, h2, ?_⟩
    have hn : n.toNat < edgeL.length := by
      have : edgeL.length = 10 := rfl
      omega
    have he : ∀ z ∈ edgeL, 0 ≤ z ∧ z ≤ 1000000000000000 := by decide +kernel
    refine ⟨.int edgeL[n.toNat], ?_, ?_⟩
    · rw [atI_nn na, List.getElem?_map, List.getElem?_eq_getElem hn]
      rfl
    obtain ⟨z1, z2⟩ := he _ (List.getElem_mem hn)
    generalize edgeL[n.toNat] = z at *
    refine draw_wp t2 (by decide) fun m st3 ma mb t3 k3 l3 => ?_
    simp
    refine ⟨cmul_l (by decide) (by decide), cmul_l (by omega) (by omega), ?_⟩
    have hm : m = 0 ∨ m = 1 := by omega
    rcases hm with rfl | rfl
    · exact ki _ _ (by omega) (by omega) t3 (hk.trans k3)
    · exact ki _ _ (by omega) (by omega) t3 (hk.trans k3)
  split
  · simp only [sp_ret, wp_bin, wp_call, wp_cons, wp_nil, wp_var, wp_c, wp_lst, List.getElem?_cons_zero, Option.some.injEq, ex_eq]
    refine draw_wp t1 (by decide) fun n st2 na nb t2 k2 l2 => ?_
    rw [w_sub]
    have g : Grown st2 (st2 ++ [.lst [.int 1, .int 65536, .int 1000000000]]) := ⟨_, rfl⟩
    have hl : stL (st2 ++ [.lst [.int 1, .int 65536, .int 1000000000]]) st2.length = some [.int 1, .int 65536, .int 1000000000] := by simp
    refine ⟨by simp [sizeLine], ?_⟩
    refine draw_wp (t2.grown g) (by decide) fun m st3 ma mb t3 k3 l3 => ?_
    have h3 := k3.stL (by have := t2.len; omega) hl
    have hk := k1.trans (k2.trans ((Kp.grown g).trans k3))
    rw [w_ixL]
    have hn : m = 0 ∨ m = 1 ∨ m = 2 := by omega
    refine ⟨_, h3, ?_⟩
    rcases hn with rfl | rfl | rfl
    · refine ⟨_, rfl, ?_⟩
      rw [w_mul]
      exact ⟨cmul_r (by decide) (by decide), ki _ _ (by omega) (by omega) t3 hk⟩
    · refine ⟨_, rfl, ?_⟩
      rw [w_mul]
      exact ⟨cmul_r (by decide) (by decide), ki _ _ (by omega) (by omega) t3 hk⟩
    · refine ⟨_, rfl, ?_⟩
      rw [w_mul]
      exact ⟨cmul_r (by decide) (by decide), ki _ _ (by omega) (by omega) t3 hk⟩
  split
  · simp [pow15]
    refine ⟨cmul_l (by decide) (by decide), ?_⟩
    refine draw_wp t1 (by decide) fun n st2 na nb t2 k2 l2 => ?_
    simp
    exact ki _ _ (by omega) (by omega) t2 (k1.trans k2)
  simp
  exact draw_wp t1 (by decide) fun n st2 na nb t2 k2 l2 => ki _ _ (by omega) (by omega) t2 (k1.trans k2)
theorem element_wp {st : Store} {Q : A → Store → Prop} (t : TpOk st) (k : ∀ (a : A) st', El a → TpOk st' → Kp st st' → Q a st') : (m_law_element [.ref 1] st).wp Q := by
  simp only [m_law_element]
  simp
  refine scalar_wp t fun a st1 ha t1 k1 => ?_
  refine draw_wp t1 (by decide) fun n st2 na nb t2 k2 l2 => ?_
  simp
  split
  · refine scalar_wp t2 fun b st3 hb t3 k3 => ?_
    exact k _ _ (.inr ⟨a, b, rfl, ha, hb⟩) t3 ((k1.trans k2).trans k3)
  · exact k _ _ (.inl ha) t2 (k1.trans k2)
theorem few_ints : ∀ ns : List Int, fewAs (ns.map A.int) = true
  | [] => rfl
  | n :: ns => by simp only [List.map_cons, fewAs, fewA, few_ints ns, Bool.and_self]
/-- the harness's likeness of two tuples of ints -/
theorem alike_ints {ns : List Int} {st : Store} {Q : A → Store → Prop} (hl : ns.length ≤ 1000000) (k : Q (.bl true) st) : (m_law_alike 40 [.tup (ns.map A.int), .tup (ns.map A.int)] st).wp Q := by
  refine alike_wp 40 (plain_of_clean (a := .tup _) (clean_ints ns)) (by simp [fewA, few_ints]; omega) ?_ k
  simp only [depA, dep_ints]
  decide
end Law
/-! MP6: plain: codes of elements. -/
namespace Law
open PySem L2 ML
def m_digits_of : MF := mFn 4 2 (mSeq (mSet 2 (mTup mNil))
    (mSeq (mFor (mRng (mCons (mVar 1) mNil)) (.one 3) (mSeq (mSet 2 (mBin addA (mTup (mCons (mBin modA (mVar 0) (mC (.int 65536))) mNil)) (mVar 2)))
    (mSet 0 (mBin fdivA (mVar 0) (mC (.int 65536))))))
    (mRet (mVar 2))))
def m_code_of : Nat → MF
  | 0 => fun _ _ => .bad
  | n + 1 => mFn 2 1 (mSeq (mIfS (mTru (mUn (isiA .tup) (mVar 0))) (mRet (mBin addA (mBin addA (mTup (mCons (mC (.int 4)) mNil)) (mCall (m_code_of n) (mCons (mBin ixA (mVar 0) (mC (.int 0))) mNil))) (mCall (m_code_of n) (mCons (mBin ixA (mVar 0) (mC (.int 1))) mNil)))) mNext)
    (mSeq (mIfS (mTru (mUn (isiA .str) (mVar 0))) (mRet (mBin addA (mTup (mCons (mC (.int 3)) (mCons (mCa lenA (mCons (mVar 0) mNil)) mNil))) (mCa tupleA (mCons (mLc (mSrc (mVar 0)) (.one 1) [1] mYes (mCa ordA (mCons (mVar 1) mNil))) mNil)))) mNext)
    (mSeq (mIfS (mGB (mBin ltA (mVar 0) (mC (.int 0)))) (mRet (mBin addA (mTup (mCons (mC (.int 2)) mNil)) (mCall m_digits_of (mCons (mUn negA (mVar 0)) (mCons (mC (.int 4)) mNil))))) mNext)
    (mRet (mBin addA (mTup (mCons (mC (.int 1)) mNil)) (mCall m_digits_of (mCons (mVar 0) (mCons (mC (.int 4)) mNil))))))))
def m_law_scalar_code : MF := mFn 4 1 (mSeq (mIfS (mTru (mUn (isiA .str) (mVar 0))) (mRet (mBin addA (mLst (mCons (mC (.int 3)) (mCons (mCa lenA (mCons (mVar 0) mNil)) mNil))) (mLc (mSrc (mVar 0)) (.one 3) [3] mYes (mCa ordA (mCons (mVar 3) mNil))))) mNext)
    (mSeq (mSet 1 (mLst (mCons (mBin addA (mC (.int 1)) (mCa intA (mCons (mBin ltA (mVar 0) (mC (.int 0))) mNil))) mNil)))
    (mSeq (mFor (mSrc (mLst (mCons (mC (.int 281474976710656)) (mCons (mC (.int 4294967296)) (mCons (mC (.int 65536)) (mCons (mC (.int 1)) mNil)))))) (.one 2) (mExpr (mBm appendA (mVar 1) (mCons (mBin modA (mCa intA (mCons (mBin fdivA (mCa absA (mCons (mVar 0) mNil)) (mVar 2)) mNil)) (mC (.int 65536))) mNil))))
    (mRet (mVar 1)))))
def m_law_element_code : MF := mFn 1 1 (mSeq (mIfS (mTru (mUn (isiA .tup) (mVar 0))) (mRet (mBin addA (mBin addA (mLst (mCons (mC (.int 4)) mNil)) (mCall m_law_scalar_code (mCons (mBin ixA (mVar 0) (mC (.int 0))) mNil))) (mCall m_law_scalar_code (mCons (mBin ixA (mVar 0) (mC (.int 1))) mNil)))) mNext)
    (mRet (mCall m_law_scalar_code (mCons (mVar 0) mNil))))

theorem grown_len {a b : Store} (h : Grown a b) : a.length ≤ b.length := by
  obtain ⟨g, rfl⟩ := h
  simp
def digs (n : Nat) : Nat → List Int
  | 0 => []
  | i + 1 => ((n / 65536 ^ i % 65536 : Nat) : Int) :: digs n i
theorem digs_len (n i : Nat) : (digs n i).length = i := by
  induction i with
  | zero => rfl
  | succ i ih => simp [digs, ih]
theorem digs_lt (n i : Nat) : ∀ z ∈ digs n i, 0 ≤ z ∧ z < 65536 := by
  induction i with
  | zero => intro z hz; simp [digs] at hz
  | succ i ih =>
    intro z hz
    simp only [digs, List.mem_cons] at hz
    rcases hz with rfl | hz
    · omega
    · exact ih z hz
def scaCode : A → List Int
  | .str x => 3 :: (x.length : Int) :: x.cps.toList.map fun (c : Nat) => (c : Int)
  | .int i => (if i < 0 then 2 else 1) :: digs i.natAbs 4
  | _ => []
def elCode : A → List Int
  | .tup [x, y] => 4 :: (scaCode x ++ scaCode y)
  | .str x => scaCode (.str x)
  | .int i => scaCode (.int i)
  | _ => []
theorem sca_len {a : A} (h : Sca a) : (scaCode a).length ≤ 22 := by
  rcases h with ⟨x, rfl, hx⟩ | ⟨i, rfl, _, _⟩
  · have := hx.len
    have e : x.cps.size = x.length := rfl
    simp [scaCode]
    omega
  · simp [scaCode, digs_len]
theorem el_len {a : A} (h : El a) : (elCode a).length ≤ 45 := by
  rcases h with h | ⟨x, y, rfl, hx, hy⟩
  · have := sca_len h
    rcases h with ⟨x, rfl, hx⟩ | ⟨i, rfl, _, _⟩
    · simp only [elCode]; omega
    · simp only [elCode]; omega
  · have := sca_len hx
    have := sca_len hy
    simp [elCode]
    omega
theorem sca_el {a : A} (h : Sca a) : elCode a = scaCode a := by
  rcases h with ⟨x, rfl, hx⟩ | ⟨i, rfl, _, _⟩ <;> rfl
def DgI (n c : Nat) (st0 : Store) (i : Nat) (ρ : ML.Env) (st : Store) : Prop := ∃ v : Option A, st = st0 ∧ ρ = [some (.int ((n / 65536 ^ i : Nat) : Int)), some (.int (c : Int)), some (.tup ((digs n i).map A.int)), v]
theorem digits_wp {n c : Nat} {st : Store} {Q : A → Store → Prop} (hc : c ≤ 100000) (k : Q (.tup ((digs n c).map A.int)) st) : (m_digits_of [.int (n : Int), .int (c : Int)] st).wp Q := by
  simp only [m_digits_of]
  simp
  refine ⟨by omega, ?_⟩
  refine for_rng (DgI n c st) ⟨none, rfl, by simp [digs]⟩ ?_ ?_
  · rintro i ρ st' hi ⟨v, rfl, rfl⟩
    refine ⟨_, rfl, ?_⟩
    have e1 : n / 65536 ^ i / 65536 = n / 65536 ^ (i + 1) := by rw [Nat.div_div_eq_div_mul, Nat.pow_succ]
    have hl := digs_len n i
    simp [hl]
    refine ⟨by omega, by decide, some (.int ((i : Nat) : Int)), rfl, ?_⟩
    simp only [digs]
    rw [← e1]
    simp
  · rintro ρ st' ⟨v, rfl, rfl⟩
    simpa using k
theorem lc_chars {tg : Tg} {own : List Nat} {tt : MT} {elt : MX} {ρ0 : ML.Env} {x : Str} {st : Store} {QL : List A → Store → Prop} (I : Nat → Store → List A → Prop) (h0 : I 0 st [])
    (hs : ∀ i c st acc, x.cps[i]? = some c → I i st acc → ∃ ρ1, asgT tg (.str ⟨#[c]⟩) ρ0 st = some ρ1 ∧ (tt ρ1 st).wp fun b st1 => if b = true then (elt ρ1 st1).wp fun y st2 => acc.length < sizeLine ∧ I (i + 1) st2 (acc ++ [y]) else I (i + 1) st1 acc)
    (hd : ∀ st acc, I x.cps.size st acc → QL acc st) : (loopC (.chars x) tg own tt elt ρ0 (Src.size (.chars x) st + 1) 0 st []).wp QL :=
  lc_wp x.cps.size (fun i => .str ⟨#[x.cps.getD i 0]⟩) I (fun i st acc _ => ⟨fun h => by simp [Src.at, h], fun h => by simp [Src.at]; omega⟩) (fun i st acc h q => hs i _ st acc (by simp [h]) q) hd _ _ _ _ (by simp [Src.size]) (Nat.zero_le _) h0
theorem take_succ_map {α β : Type} {f : α → β} {xs : List α} {i : Nat} {c : α} (h : xs[i]? = some c) : (xs.take i).map f ++ [f c] = (xs.take (i + 1)).map f := by
  rw [List.take_add_one, h]
  simp
/-- the code points of a text -/
theorem ords_wp {x : Str} {st : Store} {ρ0 : ML.Env} {j : Nat} {own : List Nat} {QL : List A → Store → Prop} (hj : j < ρ0.length) (hx : x.length ≤ 100000) (k : QL (x.cps.toList.map fun (c : Nat) => A.int (c : Int)) st) :
    (loopC (.chars x) (.one j) own mYes (mCa ordA (mCons (mVar j) mNil)) ρ0 (Src.size (.chars x) st + 1) 0 st []).wp QL := by
  refine lc_chars (fun i st' acc => st' = st ∧ acc = (x.cps.toList.take i).map fun (c : Nat) => A.int (c : Int)) ⟨rfl, by simp⟩ ?_ ?_
  · rintro i c st' acc hc ⟨rfl, rfl⟩
    refine ⟨_, rfl, ?_⟩
    have hz : Str.length ⟨#[c]⟩ = 1 := rfl
    have hx' : x.cps.size ≤ 100000 := hx
    have hg : x.cps.toList[i]? = some c := by simpa using hc
    simp [List.getElem?_set, hj, hz]
    refine ⟨by omega, ?_⟩
    have := take_succ_map (f := fun (c : Nat) => A.int (c : Int)) hg
    simpa using this
  · rintro st' acc ⟨rfl, rfl⟩
    rw [List.take_of_length_le (by simp)]
    exact k
theorem code_sca_wp (n : Nat) {a : A} {st : Store} {Q : A → Store → Prop} (h : Sca a) (k : ∀ st', Grown st st' → Q (.tup ((scaCode a).map A.int)) st') : (m_code_of (n + 1) [a] st).wp Q := by
  simp only [m_code_of]
  rcases h with ⟨x, rfl, hx⟩ | ⟨i, rfl, h1, h2⟩
  · have hl := hx.len
    simp
    refine ⟨by omega, ?_⟩
    refine ords_wp (j := 1) (by simp) (by omega) ?_
    have e : x.cps.size = x.length := rfl
    simp [e]
    refine ⟨by omega, ?_⟩
    have := k (st ++ [.lst (x.cps.toList.map fun (c : Nat) => A.int (c : Int))]) (.one _ _)
    simpa [scaCode, Function.comp_def] using this
  · simp
    split
    · rename_i hn
      have e : -i = ((i.natAbs : Nat) : Int) := by omega
      rw [e]
      refine digits_wp (c := 4) (by decide) ?_
      simp [digs_len]
      have := k st (.refl _)
      simpa [scaCode, hn] using this
    · rename_i hn
      have e : i = ((i.natAbs : Nat) : Int) := by omega
      have := k st (.refl _)
      simp only [scaCode, if_neg hn] at this
      rw [e]
      refine digits_wp (c := 4) (by decide) ?_
      simp [digs_len]
      simpa using this
theorem code_wp (n : Nat) {a : A} {st : Store} {Q : A → Store → Prop} (h : El a) (k : ∀ st', Grown st st' → Q (.tup ((elCode a).map A.int)) st') : (m_code_of (n + 2) [a] st).wp Q := by
  rcases h with h | ⟨x, y, rfl, hx, hy⟩
  · rw [sca_el h] at k
    exact code_sca_wp (n + 1) h k
  · unfold m_code_of
    have l1 := sca_len hx
    have l2 := sca_len hy
    simp
    refine code_sca_wp n hx fun st1 g1 => ?_
    simp
    refine ⟨by omega, ?_⟩
    refine code_sca_wp n hy fun st2 g2 => ?_
    simp
    refine ⟨by omega, ?_⟩
    have := k st2 (g1.trans g2)
    simpa [elCode] using this
def unitL : List Int := [281474976710656, 4294967296, 65536, 1]
def ScI (i : Int) (st0 : Store) (j : Nat) (ρ : ML.Env) (st : Store) : Prop := ∃ v : Option A, st = st0 ++ [.lst (((if i < 0 then (2 : Int) else 1) :: (digs i.natAbs 4).take j).map A.int), .lst (unitL.map A.int)] ∧ ρ = [some (.int i), some (.ref st0.length), v, none]
theorem digs4 (n : Nat) : digs n 4 = [((n / 281474976710656 % 65536 : Nat) : Int), ((n / 4294967296 % 65536 : Nat) : Int), ((n / 65536 % 65536 : Nat) : Int), ((n % 65536 : Nat) : Int)] := by
  simp [digs]
theorem law_sca_wp {a : A} {st : Store} {Q : A → Store → Prop} (h : Sca a) (k : ∀ r st', Grown st st' → stL st' r = some ((scaCode a).map A.int) → st.length ≤ r → Q (.ref r) st') : (m_law_scalar_code [a] st).wp Q := by
  simp only [m_law_scalar_code]
  rcases h with ⟨x, rfl, hx⟩ | ⟨i, rfl, h1, h2⟩
  · have hl := hx.len
    simp
    refine ⟨by omega, ?_⟩
    refine ords_wp (j := 3) (by simp) (by omega) ?_
    have e : x.cps.size = x.length := rfl
    simp [e]
    refine ⟨by omega, ?_⟩
    refine k _ _ ⟨_, rfl⟩ ?_ (by omega)
    simp [scaCode, stL, Function.comp_def]
    simp only [List.getElem_append_right (show st.length ≤ st.length + 1 + 1 by omega), show st.length + 1 + 1 - st.length = 2 by omega]
    simp
  · simp
    refine for_lst (ScI i st) (xs := unitL.map A.int) (by simp [unitL]) ⟨none, by by_cases hi : i < 0 <;> simp [hi, unitL], rfl⟩ ?_ ?_ ?_
    · rintro j ρ st' ⟨v, rfl, rfl⟩
      simp
    · rintro j x ρ st' hx ⟨v, rfl, rfl⟩
      refine ⟨_, rfl, ?_⟩
      have hj : j < 4 := by
        have := (List.getElem?_eq_some_iff.mp hx).1
        simpa [unitL] using this
      have eabs : (if i < 0 then -i else i) = ((i.natAbs : Nat) : Int) := by split <;> omega
      obtain ⟨u, hu, hu2⟩ : ∃ u : Int, x = .int u ∧ 0 < u ∧ u.natAbs.log2 < 9000 ∧ ((i.natAbs : Nat) : Int) / u % 65536 = (digs i.natAbs 4).getD j 0 := by
        rw [digs4]
        rcases (by omega : j = 0 ∨ j = 1 ∨ j = 2 ∨ j = 3) with rfl | rfl | rfl | rfl
        · exact ⟨281474976710656, by simpa [unitL] using hx.symm, by decide, by decide +kernel, by simp⟩
        · exact ⟨4294967296, by simpa [unitL] using hx.symm, by decide, by decide +kernel, by simp⟩
        · exact ⟨65536, by simpa [unitL] using hx.symm, by decide, by decide +kernel, by simp⟩
        · exact ⟨1, by simpa [unitL] using hx.symm, by decide, by decide +kernel, by simp⟩
      subst hu
      obtain ⟨p1, p2, p3⟩ := hu2
      have hd := digs_len i.natAbs 4
      have e0 : stL (st ++ [.lst (((if i < 0 then (2 : Int) else 1) :: (digs i.natAbs 4).take j).map A.int), .lst (unitL.map A.int)]) st.length = some (((if i < 0 then (2 : Int) else 1) :: (digs i.natAbs 4).take j).map A.int) := by simp [stL]
      simp [eabs, p1, p2, -List.map_cons, -List.getD_eq_getElem?_getD]
      refine ⟨by simp [sizeLine, hd]; omega, ?_⟩
      rw [p3]
      refine ⟨some (.int u), ?_, rfl⟩
      rw [List.take_add_one]
      have : (digs i.natAbs 4)[j]? = some ((digs i.natAbs 4).getD j 0) := by
        rw [List.getD_eq_getElem?_getD, List.getElem?_eq_getElem (by omega)]
        rfl
      rw [this]
      simp
    · rintro ρ st' ⟨v, rfl, rfl⟩
      simp
      refine k _ _ ⟨_, rfl⟩ ?_ (by omega)
      have hd := digs_len i.natAbs 4
      have : (digs i.natAbs 4).take 4 = digs i.natAbs 4 := List.take_of_length_le (by omega)
      simp [scaCode, stL, unitL]
      rw [← List.map_take, this]
theorem law_el_wp {a : A} {st : Store} {Q : A → Store → Prop} (h : El a) (k : ∀ r st', Grown st st' → stL st' r = some ((elCode a).map A.int) → st.length ≤ r → Q (.ref r) st') : (m_law_element_code [a] st).wp Q := by
  simp only [m_law_element_code]
  rcases h with h | ⟨x, y, rfl, hx, hy⟩
  · rw [sca_el h] at k
    have h' := h
    rcases h with ⟨x, rfl, hx⟩ | ⟨i, rfl, h1, h2⟩
    · simp
      exact law_sca_wp h' k
    · simp
      exact law_sca_wp h' k
  · have l1 := sca_len hx
    have l2 := sca_len hy
    simp
    refine law_sca_wp hx fun r st1 g1 e1 _ => ?_
    have h0 : stL st1 st.length = some [.int 4] := g1.stL (by simp)
    simp [h0, e1]
    refine ⟨by omega, ?_⟩
    refine law_sca_wp hy fun q st2 g2 e2 _ => ?_
    have h3 : stL st2 st1.length = some (.int 4 :: (scaCode x).map A.int) := g2.stL (by simp)
    simp [h3, e2]
    refine ⟨by omega, ?_⟩
    refine k _ _ (((Grown.one _ _).trans g1).trans ((Grown.one _ _).trans (g2.trans (.one _ _)))) ?_ ?_
    · simp [elCode]
    · have := grown_len g1
      have := grown_len g2
      simp at *
      omega
end Law
/-! MP7: plain: nodes drawn from the tape, and their codes. -/
namespace Law
open PySem L2 ML
mutual
def m_law_base : Nat → MF
  | 0 => fun _ _ => .bad
  | n + 1 => mFn 5 3 (mSeq (mIfS (mOr (mGB (mBin eqA (mVar 1) (mC (.int 0)))) (mGB (mBin eqA (mCall m_law_draw (mCons (mVar 0) (mCons (mC (.int 4)) mNil))) (mC (.int 0))))) (mRet (mTup (mCons (mC (.str "leaf")) (mCons (mCall m_law_element (mCons (mVar 0) mNil)) mNil)))) mNext)
    (mSeq (mSet 3 (mCa minA (mCons (mBin addA (mC (.int 1)) (mCall m_law_draw (mCons (mVar 0) (mCons (mBin ixA (mLst (mCons (mC (.int 2)) (mCons (mC (.int 3)) (mCons (mC (.int 12)) mNil)))) (mCall m_law_draw (mCons (mVar 0) (mCons (mC (.int 3)) mNil)))) mNil)))) (mCons (mVar 2) mNil))))
    (mRet (mTup (mCons (mC (.str "block")) (mCons (mCa tupleA (mCons (mLc (mRng (mCons (mVar 3) mNil)) (.one 4) [4] mYes (mCall (m_law_node n) (mCons (mVar 0) (mCons (mBin subA (mVar 1) (mC (.int 1))) (mCons (mBin fdivA (mVar 2) (mVar 3)) mNil))))) mNil)) mNil))))))
def m_law_node : Nat → MF
  | 0 => fun _ _ => .bad
  | n + 1 => mFn 4 3 (mSeq (mIfS (mAnd (mGB (mBin gtA (mVar 2) (mC (.int 1)))) (mGB (mBin eqA (mCall m_law_draw (mCons (mVar 0) (mCons (mC (.int 3)) mNil))) (mC (.int 0))))) (mSeq (mSet 3 (mBin addA (mC (.int 2)) (mCall m_law_draw (mCons (mVar 0) (mCons (mCa minA (mCons (mBin subA (mVar 2) (mC (.int 1))) (mCons (mBin ixA (mLst (mCons (mC (.int 1)) (mCons (mC (.int 2)) (mCons (mC (.int 4)) (mCons (mC (.int 1999)) mNil))))) (mCall m_law_draw (mCons (mVar 0) (mCons (mC (.int 4)) mNil)))) mNil))) mNil)))))
    (mRet (mTup (mCons (mC (.str "run")) (mCons (mCall (m_law_base n) (mCons (mVar 0) (mCons (mVar 1) (mCons (mBin fdivA (mVar 2) (mVar 3)) mNil)))) (mCons (mVar 3) mNil)))))) mNext)
    (mRet (mCall (m_law_base n) (mCons (mVar 0) (mCons (mVar 1) (mCons (mVar 2) mNil))))))
end
def m_block_code : MF := mFn 3 1 (mSeq (mSet 1 (mLst (mCons (mC (.int 6)) (mCons (mCa lenA (mCons (mVar 0) mNil)) mNil))))
    (mSeq (mFor (mSrc (mVar 0)) (.one 2) (mExpr (mBm extendA (mVar 1) (mCons (mVar 2) mNil))))
    (mRet (mCa tupleA (mCons (mVar 1) mNil)))))
def m_run_code : MF := mFn 2 2 (mRet (mBin addA (mBin addA (mTup (mCons (mC (.int 5)) mNil)) (mCall m_digits_of (mCons (mVar 0) (mCons (mC (.int 2)) mNil)))) (mVar 1)))
def m_node_code : Nat → MF
  | 0 => fun _ _ => .bad
  | n + 1 => mFn 2 1 (mSeq (mIfS (mGB (mBin eqA (mBin ixA (mVar 0) (mC (.int 0))) (mC (.str "leaf")))) (mRet (mCall (m_code_of 40) (mCons (mBin ixA (mVar 0) (mC (.int 1))) mNil))) mNext)
    (mSeq (mIfS (mGB (mBin eqA (mBin ixA (mVar 0) (mC (.int 0))) (mC (.str "run")))) (mRet (mCall m_run_code (mCons (mBin ixA (mVar 0) (mC (.int 2))) (mCons (mCall (m_node_code n) (mCons (mBin ixA (mVar 0) (mC (.int 1))) mNil)) mNil)))) mNext)
    (mRet (mCall m_block_code (mCons (mLc (mSrc (mBin ixA (mVar 0) (mC (.int 1)))) (.one 1) [1] mYes (mCall (m_node_code n) (mCons (mVar 1) mNil))) mNil)))))
def m_law_node_code : Nat → MF
  | 0 => fun _ _ => .bad
  | n + 1 => mFn 3 1 (mSeq (mIfS (mGB (mBin eqA (mBin ixA (mVar 0) (mC (.int 0))) (mC (.str "leaf")))) (mRet (mCall m_law_element_code (mCons (mBin ixA (mVar 0) (mC (.int 1))) mNil))) mNext)
    (mSeq (mIfS (mGB (mBin eqA (mBin ixA (mVar 0) (mC (.int 0))) (mC (.str "run")))) (mRet (mBin addA (mLst (mCons (mC (.int 5)) (mCons (mBin fdivA (mBin ixA (mVar 0) (mC (.int 2))) (mC (.int 65536))) (mCons (mBin modA (mCa intA (mCons (mBin ixA (mVar 0) (mC (.int 2))) mNil)) (mC (.int 65536))) mNil)))) (mCall (m_law_node_code n) (mCons (mBin ixA (mVar 0) (mC (.int 1))) mNil)))) mNext)
    (mSeq (mSet 1 (mLst (mCons (mC (.int 6)) (mCons (mCa lenA (mCons (mBin ixA (mVar 0) (mC (.int 1))) mNil)) mNil))))
    (mSeq (mFor (mSrc (mBin ixA (mVar 0) (mC (.int 1)))) (.one 2) (mSet 1 (mBin addA (mVar 1) (mCall (m_law_node_code n) (mCons (mVar 2) mNil)))))
    (mRet (mVar 1))))))

inductive Nd where
  | leaf (e : A) | run (b : Nd) (t : Nat) | blk (cs : List Nd)
mutual
def ndA : Nd → A
  | .leaf e => .tup [.str "leaf", e]
  | .run b t => .tup [.str "run", ndA b, .int (t : Int)]
  | .blk cs => .tup [.str "block", .tup (ndAs cs)]
def ndAs : List Nd → List A
  | [] => []
  | c :: cs => ndA c :: ndAs cs
end
mutual
def okN : Nd → Prop
  | .leaf e => El e
  | .run b t => okN b ∧ 2 ≤ t ∧ t ≤ 2000
  | .blk cs => 1 ≤ cs.length ∧ cs.length ≤ 100 ∧ okNs cs
def okNs : List Nd → Prop
  | [] => True
  | c :: cs => okN c ∧ okNs cs
end
mutual
def szN : Nd → Nat
  | .leaf _ => 1
  | .run b t => szN b * t
  | .blk cs => szNs cs
def szNs : List Nd → Nat
  | [] => 0
  | c :: cs => szN c + szNs cs
end
mutual
def dpN : Nd → Nat
  | .leaf _ => 1
  | .run b _ => dpN b + 1
  | .blk cs => dpNs cs + 1
def dpNs : List Nd → Nat
  | [] => 0
  | c :: cs => max (dpN c) (dpNs cs)
end
theorem ndAs_map : ∀ cs : List Nd, ndAs cs = cs.map ndA
  | [] => rfl
  | c :: cs => by simp only [ndAs, ndAs_map cs, List.map_cons]
theorem ndA_leaf (e : A) : ndA (.leaf e) = .tup [.str "leaf", e] := by simp only [ndA]
theorem ndA_run (b : Nd) (t : Nat) : ndA (.run b t) = .tup [.str "run", ndA b, .int (t : Int)] := by simp only [ndA]
theorem ndA_blk (cs : List Nd) : ndA (.blk cs) = .tup [.str "block", .tup (cs.map ndA)] := by simp only [ndA, ndAs_map]
theorem okNs_iff : ∀ cs : List Nd, okNs cs ↔ ∀ c ∈ cs, okN c
  | [] => by simp [okNs]
  | c :: cs => by simp [okNs, okNs_iff cs]
theorem dpNs_le : ∀ {cs : List Nd} {d : Nat}, (∀ c ∈ cs, dpN c ≤ d) → dpNs cs ≤ d
  | [], d, h => by simp [dpNs]
  | c :: cs, d, h => by
    have h1 := h c (by simp)
    have h2 := dpNs_le (cs := cs) (d := d) fun x hx => h x (by simp [hx])
    simp only [dpNs]
    omega
theorem dp_mem : ∀ {cs : List Nd} {c : Nd}, c ∈ cs → dpN c ≤ dpNs cs
  | d :: cs, c, h => by
    simp only [dpNs]
    rcases List.mem_cons.mp h with rfl | h
    · omega
    · have := dp_mem h
      omega
theorem szNs_le : ∀ {cs : List Nd} {d : Nat}, (∀ c ∈ cs, szN c ≤ d) → szNs cs ≤ cs.length * d
  | [], d, h => by simp [szNs]
  | c :: cs, d, h => by
    have h1 := h c (by simp)
    have h2 := szNs_le (cs := cs) (d := d) fun x hx => h x (by simp [hx])
    simp only [szNs, List.length_cons, Nat.succ_mul]
    omega
def isRun : Nd → Bool
  | .run _ _ => true
  | _ => false
/-- a child of a drawn block -/
structure Kid (r d : Nat) (c : Nd) : Prop where
  ok : okN c
  sz : szN c ≤ r
  dp : dpN c ≤ d
def BsI (i0 : Nat) (st0 : Store) (r d : Nat) (i : Nat) (st : Store) (acc : List A) : Prop := ∃ cs : List Nd, cs.length = i ∧ acc = cs.map ndA ∧ (∀ c ∈ cs, Kid r d c) ∧ TpOk st ∧ Kp st0 st
theorem draw3_wp {st : Store} {xs : List Int} {many : Int} {Q : A → Store → Prop} (t : TpOk st) (hm : many = xs.length) (hl : xs.length ≤ 1000) (k : ∀ x st', x ∈ xs → TpOk st' → Kp st st' → Q (.int x) st') (hne : xs ≠ []) :
    (m_law_draw [.ref 1, .int many] (st ++ [.lst (xs.map .int)])).wp fun a st1 => (ixA (.ref st.length) a st1).wp Q := by
  have g : Grown st (st ++ [.lst (xs.map .int)]) := ⟨_, rfl⟩
  have hl2 : stL (st ++ [.lst (xs.map .int)]) st.length = some (xs.map .int) := by simp
  have hp := List.length_pos_iff.mpr hne
  refine draw_wp (t.grown g) (by subst hm; omega) fun n st1 na nb t1 k1 l1 => ?_
  rw [w_ixL]
  have hn : n.toNat < xs.length := by omega
  refine ⟨_, k1.stL (by have := t.len; omega) hl2, .int xs[n.toNat], ?_, k _ _ (List.getElem_mem hn) t1 ((Kp.grown g).trans k1)⟩
  rw [atI_nn na, List.getElem?_map, List.getElem?_eq_getElem hn]
  rfl
theorem nodes_wp : ∀ n : Nat, (∀ (d r : Nat) (st : Store) (Q : A → Store → Prop), TpOk st → 2 * d + 1 ≤ n → 1 ≤ r → r ≤ 2000 → d ≤ 1000 → (∀ nd st', okN nd → szN nd ≤ r → dpN nd ≤ 2 * d + 1 → isRun nd = false → TpOk st' → Kp st st' → Q (ndA nd) st') → (m_law_base n [.ref 1, .int (d : Int), .int (r : Int)] st).wp Q) ∧
    (∀ (d r : Nat) (st : Store) (Q : A → Store → Prop), TpOk st → 2 * d + 2 ≤ n → 1 ≤ r → r ≤ 2000 → d ≤ 1000 → (∀ nd st', okN nd → szN nd ≤ r → dpN nd ≤ 2 * d + 2 → TpOk st' → Kp st st' → Q (ndA nd) st') → (m_law_node n [.ref 1, .int (d : Int), .int (r : Int)] st).wp Q)
  | 0 => ⟨fun d r st Q t h => by omega, fun d r st Q t h => by omega⟩
  | n + 1 => by
    obtain ⟨ihB, ihN⟩ := nodes_wp n
    refine ⟨fun d r st Q t hn h1 h2 hd k => ?_, fun d r st Q t hn h1 h2 hd k => ?_⟩
    · simp only [m_law_base]
      have leafk : ∀ st1, TpOk st1 → Kp st st1 → (m_law_element [.ref 1] st1).wp fun a st2 => Q (.tup [.str "leaf", a]) st2 := fun st1 t1 k1 => element_wp t1 fun a st2 ha t2 k2 => by
        have := k (.leaf a) st2 (by simpa [okN] using ha) (by simp [szN]; omega) (by simp [dpN]) rfl t2 (k1.trans k2)
        rwa [ndA_leaf] at this
      simp only [wp_fn, List.map_cons, List.map_nil, List.length_cons, List.length_nil, List.cons_append, List.nil_append, List.replicate, sp_seq, sp_ifs, wp_or, wp_gb, wp_bin, wp_var, wp_c, wp_call, wp_cons, wp_nil, List.getElem?_cons_zero, List.getElem?_cons_succ, Option.some.injEq, ex_eq, w_eq, w_getB, decide_eq_true_eq, sp_ret, wp_tup, sp_next]
      refine ⟨trivial, ?_⟩
      split
      · simp
        exact leafk st t (.refl st)
      refine draw_wp t (by decide) fun c st1 ca cb t1 k1 l1 => ?_
      simp only [w_eq, w_getB, decide_eq_true_eq]
      split
      · simp
        exact leafk st1 t1 k1
      rename_i hd0 _
      obtain ⟨d', rfl⟩ : ∃ d', d = d' + 1 := ⟨d - 1, by omega⟩
      simp only [sp_set, wp_ca, wp_cons, wp_nil, wp_bin, wp_c, wp_call, wp_var, wp_lst, List.getElem?_cons_zero, List.getElem?_cons_succ, Option.some.injEq, ex_eq]
      refine ⟨by simp [sizeLine], draw3_wp (xs := [2, 3, 12]) t1 rfl (by decide) (fun x st2 hx t2 k2 => ?_) (by decide)⟩
      have hx2 : 2 ≤ x ∧ x ≤ 12 := by
        simp at hx
        omega
      refine draw_wp t2 (by omega) fun m st3 ma mb t3 k3 l3 => ?_
      simp
      obtain ⟨many, hmany, hm1, hm2, hm3⟩ : ∃ many : Nat, (if (r : Int) < 1 + m then (r : Int) else 1 + m) = (many : Int) ∧ 1 ≤ many ∧ many ≤ r ∧ many ≤ 12 := by
        refine ⟨(if (r : Int) < 1 + m then (r : Int) else 1 + m).toNat, ?_, ?_, ?_, ?_⟩ <;> split <;> omega
      rw [hmany]
      have hdiv : r / many * many ≤ r := Nat.div_mul_le_self r many
      have hdp : 1 ≤ r / many := Nat.div_pos hm2 (by omega)
      have hlog : many.log2 < 9000 := Nat.lt_of_lt_of_le (PySem.Flt.log2_lt_of (n := many) (k := 10) (by decide) (by omega)) (by decide)
      refine ⟨by omega, ?_⟩
      have hcast : (many : Int).toNat = many := Int.toNat_natCast many
      rw [hcast]
      refine lc_rng (BsI 0 st (r / many) (2 * d' + 2)) ⟨[], rfl, rfl, by simp, t3, (k1.trans k2).trans k3⟩ ?_ ?_
      · rintro i st4 acc hi ⟨cs, hcs, rfl, hk, t4, k4⟩
        refine ⟨_, rfl, ?_⟩
        simp
        refine ⟨⟨by omega, hlog⟩, ?_⟩
        have e1 : ((d' : Int) + 1 - 1) = (d' : Int) := by omega
        have e2 : ((r : Int) / (many : Int)) = ((r / many : Nat) : Int) := by simp
        rw [e2]
        refine ihN d' (r / many) st4 _ t4 (by omega) hdp (by have := Nat.div_le_self r many; omega) (by omega) fun nd st5 o1 o2 o3 t5 k5 => ?_
        refine ⟨by omega, cs ++ [nd], by simp [hcs], by simp, ?_, t5, k4.trans k5⟩
        intro c hc
        rcases List.mem_append.mp hc with h | h
        · exact hk c h
        · simp at h
          subst h
          exact ⟨o1, o2, o3⟩
      · rintro st4 acc ⟨cs, hcs, rfl, hk, t4, k4⟩
        have t5 : TpOk (st4 ++ [.lst (cs.map ndA)]) := t4.grown (.one _ _)
        have k5 : Kp st (st4 ++ [.lst (cs.map ndA)]) := k4.trans (Kp.grown (.one _ _))
        have := k (.blk cs) _ (by simp only [okN, okNs_iff]; exact ⟨by omega, by omega, fun c hc => (hk c hc).ok⟩) (by
          simp only [szN]
          have := szNs_le (cs := cs) (d := r / many) fun c hc => (hk c hc).sz
          rw [hcs, Nat.mul_comm] at this
          omega) (by
          simp only [dpN]
          have := dpNs_le (cs := cs) (d := 2 * d' + 2) fun c hc => (hk c hc).dp
          omega) rfl t5 k5
        rw [ndA_blk] at this
        simpa using this
    · simp only [m_law_node]
      have endk : ∀ st1, TpOk st1 → Kp st st1 → (m_law_base n [.ref 1, .int (d : Int), .int (r : Int)] st1).wp Q := fun st1 t1 k1 => ihB d r st1 Q t1 (by omega) h1 h2 hd fun nd st2 o1 o2 o3 _ t2 k2 => k nd st2 o1 o2 (by omega) t2 (k1.trans k2)
      simp only [wp_fn, List.map_cons, List.map_nil, List.length_cons, List.length_nil, List.cons_append, List.nil_append, List.replicate, sp_seq, sp_ifs, wp_and, wp_gb, wp_bin, wp_var, wp_c, wp_call, wp_cons, wp_nil, List.getElem?_cons_zero, List.getElem?_cons_succ, Option.some.injEq, ex_eq, w_gt, w_eq, w_getB, decide_eq_true_eq, sp_ret, wp_tup, sp_next]
      refine ⟨trivial, ?_⟩
      split
      · rename_i hr1
        refine draw_wp t (by decide) fun c st1 ca cb t1 k1 l1 => ?_
        simp only [w_eq, w_getB, decide_eq_true_eq]
        split
        · simp only [sp_set, wp_ca, wp_cons, wp_nil, wp_bin, wp_c, wp_call, wp_var, wp_lst, List.getElem?_cons_zero, List.getElem?_cons_succ, Option.some.injEq, ex_eq, w_sub]
          refine ⟨by simp [sizeLine], draw3_wp (xs := [1, 2, 4, 1999]) t1 rfl (by decide) (fun x st2 hx t2 k2 => ?_) (by decide)⟩
          have hx2 : 1 ≤ x ∧ x ≤ 1999 := by
            simp at hx
            omega
          simp
          refine draw_wp t2 (by split <;> omega) fun m st3 ma mb t3 k3 l3 => ?_
          simp
          obtain ⟨tm, htm, hm1, hm2⟩ : ∃ tm : Nat, 2 + m = (tm : Int) ∧ 2 ≤ tm ∧ tm ≤ r := by
            refine ⟨(2 + m).toNat, ?_, ?_, ?_⟩
            · omega
            · omega
            · split at mb <;> omega
          rw [htm]
          have hdiv : r / tm * tm ≤ r := Nat.div_mul_le_self r tm
          have hdp : 1 ≤ r / tm := Nat.div_pos hm2 (by omega)
          have hlog : tm.log2 < 9000 := Nat.lt_of_lt_of_le (PySem.Flt.log2_lt_of (n := tm) (k := 12) (by decide) (by omega)) (by decide)
          refine ⟨⟨by omega, hlog⟩, ?_⟩
          have e2 : ((r : Int) / (tm : Int)) = ((r / tm : Nat) : Int) := by simp
          rw [e2]
          refine ihB d (r / tm) st3 _ t3 (by omega) hdp (by have := Nat.div_le_self r tm; omega) hd fun nd st4 o1 o2 o3 _ t4 k4 => ?_
          have := k (.run nd tm) st4 (by simp only [okN]; exact ⟨o1, hm1, by omega⟩) (by
            simp only [szN]
            have := Nat.mul_le_mul_right tm o2
            omega) (by simp only [dpN]; omega) t4 (((k1.trans k2).trans k3).trans k4)
          rw [ndA_run] at this
          simpa using this
        · exact endk st1 t1 k1
      · exact endk st t (.refl st)
end Law
/-! MP8: plain: codes of nodes. -/
namespace Law
open PySem L2 ML
mutual
def codeN : Nd → List Int
  | .leaf e => elCode e
  | .run b t => 5 :: (digs t 2 ++ codeN b)
  | .blk cs => 6 :: (cs.length : Int) :: codesN cs
def codesN : List Nd → List Int
  | [] => []
  | c :: cs => codeN c ++ codesN cs
end
theorem codesN_app : ∀ (xs ys : List Nd), codesN (xs ++ ys) = codesN xs ++ codesN ys
  | [], ys => rfl
  | x :: xs, ys => by simp only [List.cons_append, codesN, codesN_app xs ys, List.append_assoc]
theorem codesN_mem : ∀ {cs : List Nd} {c : Nd}, c ∈ cs → (codeN c).length ≤ (codesN cs).length
  | d :: cs, c, h => by
    simp only [codesN, List.length_append]
    rcases List.mem_cons.mp h with rfl | h
    · omega
    · have := codesN_mem h
      omega
theorem codesN_take {cs : List Nd} {i : Nat} : (codesN (cs.take i)).length ≤ (codesN cs).length := by
  have : cs = cs.take i ++ cs.drop i := (List.take_append_drop i cs).symm
  have e := congrArg (fun z => (codesN z).length) this
  simp only [codesN_app, List.length_append] at e
  omega
mutual
theorem szN_pos : ∀ nd : Nd, okN nd → 1 ≤ szN nd
  | .leaf _, _ => by simp only [szN]; omega
  | .run b t, h => by
    simp only [okN] at h
    have := szN_pos b h.1
    simp only [szN]
    exact Nat.mul_pos this (by omega)
  | .blk cs, h => by
    simp only [okN] at h
    have := szNs_pos cs h.2.2
    simp only [szN]
    omega
theorem szNs_pos : ∀ cs : List Nd, okNs cs → cs.length ≤ szNs cs
  | [], _ => by simp
  | c :: cs, h => by
    simp only [okNs] at h
    have := szN_pos c h.1
    have := szNs_pos cs h.2
    simp only [szNs, List.length_cons]
    omega
end
mutual
theorem codeN_len : ∀ nd : Nd, okN nd → (codeN nd).length ≤ (45 + 3 * dpN nd) * szN nd
  | .leaf e, h => by
    simp only [okN] at h
    have := el_len h
    simp only [codeN, szN, dpN]
    omega
  | .run b t, h => by
    simp only [okN] at h
    have h1 := codeN_len b h.1
    have h2 := szN_pos b h.1
    have h3 : (45 + 3 * dpN b) * szN b + 3 ≤ (45 + 3 * (dpN b + 1)) * szN b := by
      have : (45 + 3 * (dpN b + 1)) * szN b = (45 + 3 * dpN b) * szN b + 3 * szN b := by rw [← Nat.add_mul]; congr 1
      omega
    have h4 : (45 + 3 * (dpN b + 1)) * szN b ≤ (45 + 3 * (dpN b + 1)) * szN b * t := Nat.le_mul_of_pos_right _ (by omega)
    simp only [codeN, szN, dpN, List.length_cons, List.length_append, digs_len]
    rw [← Nat.mul_assoc]
    omega
  | .blk cs, h => by
    simp only [okN] at h
    have h1 := codesN_len cs h.2.2 (dpNs cs) (Nat.le_refl _)
    have h2 := szNs_pos cs h.2.2
    simp only [codeN, szN, dpN, List.length_cons]
    have : (45 + 3 * (dpNs cs + 1)) * szNs cs = (45 + 3 * dpNs cs) * szNs cs + 3 * szNs cs := by rw [← Nat.add_mul]; congr 1
    omega
theorem codesN_len : ∀ cs : List Nd, okNs cs → ∀ d, dpNs cs ≤ d → (codesN cs).length ≤ (45 + 3 * d) * szNs cs
  | [], _, d, _ => by simp [codesN]
  | c :: cs, h, d, hd => by
    simp only [okNs] at h
    simp only [dpNs] at hd
    have h1 := codeN_len c h.1
    have h2 := codesN_len cs h.2 d (by omega)
    have h3 : (45 + 3 * dpN c) * szN c ≤ (45 + 3 * d) * szN c := Nat.mul_le_mul_right _ (by omega)
    simp only [codesN, szNs, List.length_append, Nat.mul_add]
    omega
end
@[simp] theorem leaf_run : ((Str.ofString "leaf") = (Str.ofString "run")) ↔ False := by
  constructor
  · intro h; revert h; decide +kernel
  · exact False.elim
@[simp] theorem run_leaf : ((Str.ofString "run") = (Str.ofString "leaf")) ↔ False := by
  constructor
  · intro h; revert h; decide +kernel
  · exact False.elim
@[simp] theorem block_leaf : ((Str.ofString "block") = (Str.ofString "leaf")) ↔ False := by
  constructor
  · intro h; revert h; decide +kernel
  · exact False.elim
@[simp] theorem block_run : ((Str.ofString "block") = (Str.ofString "run")) ↔ False := by
  constructor
  · intro h; revert h; decide +kernel
  · exact False.elim
def BkI (q : Nat) (st0 : Store) (cs : List Nd) (i : Nat) (ρ : ML.Env) (st : Store) : Prop := ∃ v : Option A, st = st0 ++ [.lst ((6 :: (cs.length : Int) :: codesN (cs.take i)).map A.int)] ∧ ρ = [some (.ref q), some (.ref st0.length), v]
theorem block_code_wp {q : Nat} {cs : List Nd} {st : Store} {Q : A → Store → Prop} (hq : stL st q = some (cs.map fun c => A.tup ((codeN c).map A.int))) (hl : (codesN cs).length ≤ 1000000) (hc : cs.length ≤ 1000)
    (k : ∀ st', Grown st st' → Q (.tup ((codeN (.blk cs)).map A.int)) st') : (m_block_code [.ref q] st).wp Q := by
  simp only [m_block_code]
  simp [hq]
  have hq2 : ∀ zs, stL (st ++ [.lst zs]) q = some (cs.map fun c => A.tup ((codeN c).map A.int)) := fun zs => Grown.stL (.one _ _) hq
  refine for_lst (BkI q st cs) (xs := cs.map fun c => A.tup ((codeN c).map A.int)) (hq2 _) ⟨none, by simp [codesN], rfl⟩ ?_ ?_ ?_
  · rintro i ρ st' ⟨v, rfl, rfl⟩
    exact hq2 _
  · rintro i x ρ st' hx ⟨v, rfl, rfl⟩
    refine ⟨_, rfl, ?_⟩
    rw [List.getElem?_map] at hx
    obtain ⟨c, hc', rfl⟩ := Option.map_eq_some_iff.mp hx
    have ht := codesN_take (cs := cs) (i := i)
    have hm := codesN_mem (List.mem_of_getElem? hc')
    simp
    refine ⟨by omega, some (.tup ((codeN c).map A.int)), ?_, rfl⟩
    rw [List.take_add_one, hc']
    simp [codesN_app, codesN]
  · rintro ρ st' ⟨v, rfl, rfl⟩
    simp
    have := k _ (.one st (.lst ((codeN (.blk cs)).map A.int)))
    simpa [codeN] using this
theorem node_code_wp : ∀ (n : Nat) (nd : Nd) (st : Store) (Q : A → Store → Prop), okN nd → dpN nd ≤ n → (codeN nd).length ≤ 1000000 → (∀ st', Grown st st' → Q (.tup ((codeN nd).map A.int)) st') → (m_node_code n [ndA nd] st).wp Q
  | 0, nd, st, Q, ho, hd, hl, k => by
    cases nd <;> simp [dpN] at hd
  | n + 1, nd, st, Q, ho, hd, hl, k => by
    simp only [m_node_code]
    cases nd with
    | leaf e =>
      rw [ndA_leaf]
      simp [okN] at ho
      simp
      simp only [codeN] at k
      exact code_wp 38 ho k
    | run b t =>
      rw [ndA_run]
      simp only [okN] at ho
      simp only [dpN] at hd
      simp only [codeN, List.length_cons, List.length_append, digs_len] at hl
      simp
      refine node_code_wp n b st _ ho.1 (by omega) (by omega) fun st1 g1 => ?_
      simp only [m_run_code]
      simp
      refine digits_wp (n := t) (c := 2) (by decide) ?_
      simp [digs_len]
      refine ⟨by omega, ?_⟩
      have := k st1 g1
      simpa [codeN] using this
    | blk cs =>
      rw [ndA_blk]
      simp only [okN, okNs_iff] at ho
      simp only [dpN] at hd
      simp only [codeN, List.length_cons] at hl
      simp
      refine lc_vals (fun i st' acc => Grown st st' ∧ acc = (cs.take i).map fun c => A.tup ((codeN c).map A.int)) ⟨.refl _, by simp⟩ ?_ ?_
      · rintro i x st' acc hx ⟨g, rfl⟩
        refine ⟨_, rfl, ?_⟩
        rw [List.getElem?_map] at hx
        obtain ⟨c, hc', rfl⟩ := Option.map_eq_some_iff.mp hx
        have hmem := List.mem_of_getElem? hc'
        have hm := codesN_mem hmem
        have hdm := dp_mem hmem
        simp
        refine node_code_wp n c st' _ (ho.2.2 c hmem) (by omega) (by omega) fun st2 g2 => ?_
        refine ⟨by omega, g.trans g2, ?_⟩
        have := take_succ_map (f := fun c => A.tup ((codeN c).map A.int)) hc'
        rw [List.map_take, List.map_take] at this
        exact this
      · rintro st' acc ⟨g, rfl⟩
        have e : List.take (cs.map ndA).length cs = cs := List.take_of_length_le (by simp)
        rw [e]
        refine block_code_wp (cs := cs) (by simp) (by omega) (by omega) fun st2 g2 => ?_
        exact k st2 (g.trans ((Grown.one _ _).trans g2))
def LcI (nd : Nd) (cs : List Nd) (st0 : Store) (i : Nat) (ρ : ML.Env) (st : Store) : Prop := ∃ (v : Option A) (r : Nat), Grown st0 st ∧ stL st r = some ((6 :: (cs.length : Int) :: codesN (cs.take i)).map A.int) ∧ st0.length ≤ r ∧ ρ = [some (ndA nd), some (.ref r), v]
theorem law_node_code_wp : ∀ (n : Nat) (nd : Nd) (st : Store) (Q : A → Store → Prop), okN nd → dpN nd ≤ n → (codeN nd).length ≤ 1000000 → (∀ r st', Grown st st' → stL st' r = some ((codeN nd).map A.int) → st.length ≤ r → Q (.ref r) st') → (m_law_node_code n [ndA nd] st).wp Q
  | 0, nd, st, Q, ho, hd, hl, k => by
    cases nd <;> simp [dpN] at hd
  | n + 1, nd, st, Q, ho, hd, hl, k => by
    simp only [m_law_node_code]
    cases nd with
    | leaf e =>
      rw [ndA_leaf]
      simp [okN] at ho
      simp
      simp only [codeN] at k
      exact law_el_wp ho k
    | run b t =>
      rw [ndA_run]
      simp only [okN] at ho
      simp only [dpN] at hd
      simp only [codeN, List.length_cons, List.length_append, digs_len] at hl
      simp
      refine ⟨by decide +kernel, ?_⟩
      refine law_node_code_wp n b _ _ ho.1 (by omega) (by omega) fun r st1 g1 e1 l1 => ?_
      have h0 : stL st1 st.length = some [.int 5, .int ((t : Int) / 65536), .int ((t : Int) % 65536)] := g1.stL (by simp)
      simp [h0, e1]
      refine ⟨by omega, ?_⟩
      refine k _ _ (((Grown.one _ _).trans g1).trans (.one _ _)) ?_ ?_
      · simp [codeN, digs]
        omega
      · have := grown_len g1
        simp at this
        omega
    | blk cs =>
      have e0 := ndA_blk cs
      simp only [okN, okNs_iff] at ho
      simp only [dpN] at hd
      simp only [codeN, List.length_cons] at hl
      rw [ndA_blk]
      simp
      rw [← ndA_blk]
      refine for_vals (LcI (.blk cs) cs st) ⟨none, st.length, .one _ _, by simp [codesN], by omega, rfl⟩ ?_ ?_
      · rintro i x ρ st' hx ⟨v, r, g, e, l, rfl⟩
        refine ⟨_, rfl, ?_⟩
        rw [List.getElem?_map] at hx
        obtain ⟨c, hc', rfl⟩ := Option.map_eq_some_iff.mp hx
        have hmem := List.mem_of_getElem? hc'
        have ht := codesN_take (cs := cs) (i := i)
        have hm := codesN_mem hmem
        have hdm := dp_mem hmem
        simp
        refine law_node_code_wp n c st' _ (ho.2.2 c hmem) (by omega) (by omega) fun q st2 g2 e2 l2 => ?_
        have h1 := g2.stL e
        simp [h1, e2]
        refine ⟨by omega, some (ndA c), st2.length, (g.trans g2).trans (.one _ _), ?_, ?_, rfl⟩
        · rw [List.take_add_one, hc']
          simp [codesN_app, codesN]
        · have := grown_len (g.trans g2)
          omega
      · rintro ρ st' ⟨v, r, g, e, l, rfl⟩
        have e2 : List.take (cs.map ndA).length cs = cs := List.take_of_length_le (by simp)
        rw [e2] at e
        simp
        exact k r st' g (by simpa [codeN] using e) l
end Law
/-! MP9: plain: elements and nodes as data that the harness can compare. -/
namespace Law
open PySem L2 ML
/-- data that can be compared: clean, not too long, not too deep -/
structure Cmp (d : Nat) (a : A) : Prop where
  cl : cleanA a = true
  fw : fewA a = true
  dp : depA a ≤ d
theorem sca_cmp {a : A} (h : Sca a) : Cmp 0 a := by
  rcases h with ⟨x, rfl, hx⟩ | ⟨i, rfl, _, _⟩
  · refine ⟨?_, rfl, by simp [depA]⟩
    simp only [cleanA, PySem.PyData.strOk]
    rw [← Array.all_toList, List.all_eq_true]
    intro c hc
    have := hx.ch c hc
    simp
    omega
  · exact ⟨rfl, rfl, by simp [depA]⟩
theorem Cmp.mono {d e : Nat} {a : A} (h : Cmp d a) (k : d ≤ e) : Cmp e a := ⟨h.cl, h.fw, Nat.le_trans h.dp k⟩
theorem cmps {d : Nat} : ∀ {xs : List A}, (∀ x ∈ xs, Cmp d x) → cleanAs xs = true ∧ fewAs xs = true ∧ depAs xs ≤ d
  | [], _ => ⟨rfl, rfl, by simp [depAs]⟩
  | x :: xs, h => by
    have h1 := h x (by simp)
    obtain ⟨a1, a2, a3⟩ := cmps (xs := xs) (d := d) fun y hy => h y (by simp [hy])
    simp only [cleanAs, fewAs, depAs, h1.cl, h1.fw, a1, a2, Bool.and_self, true_and]
    have := h1.dp
    omega
theorem Cmp.tup {d : Nat} {xs : List A} (h : ∀ x ∈ xs, Cmp d x) (hl : xs.length ≤ 1000000) : Cmp (d + 1) (.tup xs) := by
  obtain ⟨a1, a2, a3⟩ := cmps h
  refine ⟨a1, ?_, ?_⟩
  · simp only [fewA, a2, Bool.and_true]
    simp
    omega
  · simp only [depA]
    omega
theorem el_cmp {a : A} (h : El a) : Cmp 1 a := by
  rcases h with h | ⟨x, y, rfl, hx, hy⟩
  · exact (sca_cmp h).mono (by omega)
  · refine Cmp.tup (d := 0) ?_ (by simp)
    intro z hz
    simp at hz
    rcases hz with rfl | rfl
    · exact sca_cmp hx
    · exact sca_cmp hy
theorem alike_cmp {a : A} {st : Store} {Q : A → Store → Prop} (h : Cmp 39 a) (k : Q (.bl true) st) : (m_law_alike 40 [a, a] st).wp Q :=
  alike_wp 40 (plain_of_clean h.cl) h.fw (by have := h.dp; omega) k
theorem str_cmp {x : Str} (h : PySem.PyData.strOk x = true) : Cmp 0 (.str x) := ⟨h, rfl, by simp [depA]⟩
theorem int_cmp (i : Int) : Cmp 0 (.int i) := ⟨rfl, rfl, by simp [depA]⟩
theorem ok_leaf : PySem.PyData.strOk (Str.ofString "leaf") = true := by decide +kernel
theorem ok_run : PySem.PyData.strOk (Str.ofString "run") = true := by decide +kernel
theorem ok_block : PySem.PyData.strOk (Str.ofString "block") = true := by decide +kernel
mutual
theorem nd_cmp : ∀ nd : Nd, okN nd → Cmp (2 * dpN nd) (ndA nd)
  | .leaf e, h => by
    simp only [okN] at h
    rw [ndA_leaf]
    simp only [dpN]
    refine Cmp.tup (d := 1) ?_ (by simp)
    intro z hz
    simp at hz
    rcases hz with rfl | rfl
    · exact (str_cmp ok_leaf).mono (by omega)
    · exact el_cmp h
  | .run b t, h => by
    simp only [okN] at h
    rw [ndA_run]
    have hb := nd_cmp b h.1
    simp only [dpN]
    refine (Cmp.tup (d := 2 * dpN b) ?_ (by simp)).mono (by omega)
    intro z hz
    simp at hz
    rcases hz with rfl | rfl | rfl
    · exact (str_cmp ok_run).mono (by omega)
    · exact hb
    · exact (int_cmp _).mono (by omega)
  | .blk cs, h => by
    simp only [okN] at h
    rw [ndA_blk]
    have hb := nds_cmp cs h.2.2
    simp only [dpN]
    refine (Cmp.tup (d := 2 * dpNs cs + 1) ?_ (by simp)).mono (by omega)
    intro z hz
    simp at hz
    rcases hz with rfl | rfl
    · exact (str_cmp ok_block).mono (by omega)
    · refine Cmp.tup ?_ (by simp; omega)
      rw [← ndAs_map]
      exact hb
theorem nds_cmp : ∀ cs : List Nd, okNs cs → ∀ x ∈ ndAs cs, Cmp (2 * dpNs cs) x
  | [], _ => by simp [ndAs]
  | c :: cs, h => by
    simp only [okNs] at h
    have h1 := nd_cmp c h.1
    have h2 := nds_cmp cs h.2
    simp only [ndAs, dpNs]
    intro x hx
    rcases List.mem_cons.mp hx with rfl | hx
    · exact h1.mono (by omega)
    · exact (h2 x hx).mono (by omega)
end
theorem intsOf_map : ∀ ns : List Int, intsOf (ns.map A.int) = some ns
  | [] => rfl
  | n :: ns => by simp only [List.map_cons, intsOf, intsOf_map ns, Option.map_some]
theorem w_maxL {r : Nat} {ns : List Int} {m : Int} {st : Store} {Q : A → Store → Prop} (hr : stL st r = some (ns.map A.int)) (hm : maxL ns = some m) (k : Q (.int m) st) : (maxA [.ref r] st).wp Q := by
  simp only [maxA, itemsL_ref, hr, Option.bind_some, intsOf_map, hm]
  exact k
theorem w_sumI {r : Nat} {ns : List Int} {st : Store} {Q : A → Store → Prop} (hr : stL st r = some (ns.map A.int)) (k : Q (.int ns.sum) st) : (sumA [.ref r] st).wp Q := by
  rw [w_sumL]
  exact ⟨_, hr, ns, intsOf_map ns, k⟩
end Law
/-! MP10: plain: elements near an element. -/
namespace Law
open PySem L2 ML
def m_law_near_scalar : MF := mFn 5 2 (mSeq (mSet 2 (mCall m_law_draw (mCons (mVar 0) (mCons (mC (.int 5)) mNil))))
    (mSeq (mIfS (mGB (mBin eqA (mVar 2) (mC (.int 0)))) (mRet (mVar 1)) mNext)
    (mSeq (mIfS (mTru (mUn (isiA .str) (mVar 1))) (mSeq (mSet 3 (mCall m_law_draw (mCons (mVar 0) (mCons (mBin addA (mCa lenA (mCons (mVar 1) mNil)) (mC (.int 1))) mNil))))
    (mSeq (mIfS (mAnd (mGB (mBin eqA (mVar 2) (mC (.int 1)))) (mGB (mBin ltA (mCa lenA (mCons (mVar 1) mNil)) (mC (.int 20))))) (mRet (mBin addA (mBin addA (mSl (mVar 1) mNoPart (mPart (mVar 3))) (mCall m_law_sign (mCons (mVar 0) mNil))) (mSl (mVar 1) (mPart (mVar 3)) mNoPart))) mNext)
    (mSeq (mIfS (mGB (mBin eqA (mVar 2) (mC (.int 2)))) (mRet (mBin addA (mSl (mVar 1) mNoPart (mPart (mVar 3))) (mSl (mVar 1) (mPart (mBin addA (mVar 3) (mC (.int 1)))) mNoPart))) mNext)
    (mSeq (mIfS (mAnd (mGB (mBin eqA (mVar 2) (mC (.int 3)))) (mGB (mBin ltA (mVar 3) (mCa lenA (mCons (mVar 1) mNil))))) (mRet (mBin addA (mBin addA (mSl (mVar 1) mNoPart (mPart (mVar 3))) (mCall m_law_sign (mCons (mVar 0) mNil))) (mSl (mVar 1) (mPart (mBin addA (mVar 3) (mC (.int 1)))) mNoPart))) mNext)
    (mRet (mCa lenA (mCons (mVar 1) mNil))))))) mNext)
    (mSeq (mIfS (mGB (mBin eqA (mVar 2) (mC (.int 1)))) (mRet (mUn negA (mVar 1))) mNext)
    (mSeq (mIfS (mGB (mBin eqA (mVar 2) (mC (.int 2)))) (mRet (mCa strA (mCons (mVar 1) mNil))) mNext)
    (mSeq (mSet 4 (mBin ixA (mLst (mCons (mC (.int 1)) (mCons (mC (.int 65536)) (mCons (mC (.int 4294967296)) (mCons (mC (.int 281474976710656)) mNil))))) (mCall m_law_draw (mCons (mVar 0) (mCons (mC (.int 4)) mNil)))))
    (mSeq (mIfS (mGB (mBin gtA (mVar 1) (mC (.int 0)))) (mRet (mBin subA (mVar 1) (mVar 4))) mNext)
    (mRet (mBin addA (mVar 1) (mVar 4))))))))))
def m_law_near : MF := mFn 3 2 (mSeq (mSet 2 (mCall m_law_draw (mCons (mVar 0) (mCons (mC (.int 6)) mNil))))
    (mSeq (mIfS (mGB (mBin eqA (mVar 2) (mC (.int 0)))) (mRet (mCall m_law_element (mCons (mVar 0) mNil))) mNext)
    (mSeq (mIfS (mTru (mUn (isiA .tup) (mVar 1))) (mSeq (mIfS (mGB (mBin eqA (mVar 2) (mC (.int 1)))) (mRet (mTup (mCons (mBin ixA (mVar 1) (mC (.int 1))) (mCons (mBin ixA (mVar 1) (mC (.int 0))) mNil)))) mNext)
    (mSeq (mIfS (mGB (mBin eqA (mVar 2) (mC (.int 2)))) (mRet (mBin ixA (mVar 1) (mC (.int 0)))) mNext)
    (mSeq (mIfS (mGB (mBin eqA (mVar 2) (mC (.int 3)))) (mRet (mTup (mCons (mCall m_law_near_scalar (mCons (mVar 0) (mCons (mBin ixA (mVar 1) (mC (.int 0))) mNil))) (mCons (mBin ixA (mVar 1) (mC (.int 1))) mNil)))) mNext)
    (mRet (mTup (mCons (mBin ixA (mVar 1) (mC (.int 0))) (mCons (mCall m_law_near_scalar (mCons (mVar 0) (mCons (mBin ixA (mVar 1) (mC (.int 1))) mNil))) mNil))))))) mNext)
    (mSeq (mIfS (mGB (mBin eqA (mVar 2) (mC (.int 1)))) (mRet (mTup (mCons (mVar 1) (mCons (mVar 1) mNil)))) mNext)
    (mRet (mCall m_law_near_scalar (mCons (mVar 0) (mCons (mVar 1) mNil))))))))

theorem w_str {i : Int} {st : Store} {Q : A → Store → Prop} (h : i.natAbs < 2 ^ 200) (k : Q (.str (toString i)) st) : (strA [.int i] st).wp Q := by
  simp only [strA]
  rw [if_pos (Nat.lt_of_lt_of_le (PySem.Flt.log2_lt_of (by decide) h) (by decide))]
  exact k
theorem cutS_eq (z : Str) (lo hi : Option Int) : L2.cutS z lo hi = ⟨(cutA z.cps.toList lo hi).toArray⟩ := by
  unfold L2.cutS cutA
  rfl
theorem str_app (a b : List Nat) : ((⟨a.toArray⟩ : Str) ++ (⟨b.toArray⟩ : Str)) = ⟨(a ++ b).toArray⟩ := by
  show Str.mk (a.toArray ++ b.toArray) = _
  simp
theorem str_len (a : List Nat) : (⟨a.toArray⟩ : Str).length = a.length := by
  show a.toArray.size = _
  simp
theorem str_one (c : Nat) : (⟨#[c]⟩ : Str) = ⟨[c].toArray⟩ := rfl
theorem sstr_of {l : List Nat} (h : l.length ≤ 20) (k : ∀ c ∈ l, 32 ≤ c ∧ c < 127) : SStr ⟨l.toArray⟩ := ⟨by rw [str_len]; exact h, by simpa using k⟩
theorem sstr_int {i : Int} (h1 : -1000000000000000 ≤ i) (h2 : i ≤ 1000000000000000) : SStr (Str.ofString (toString i)) := by
  have dig : ∀ n : Nat, n ≤ 1000000000000000 → (Nat.toDigits 10 n).length ≤ 16 ∧ ∀ c ∈ (Nat.toDigits 10 n).map Char.toNat, 32 ≤ c ∧ c < 127 := fun n hn => by
    refine ⟨(Nat.length_toDigits_le_iff (by decide) (by decide)).mpr (by omega), ?_⟩
    intro c hc
    obtain ⟨d, hd, rfl⟩ := List.mem_map.mp hc
    have := Nat.isDigit_of_mem_toDigits (by decide) (by decide) hd
    simp only [Char.isDigit, Bool.and_eq_true, decide_eq_true_eq] at this
    have h3 : 48 ≤ d.val.toNat := this.1
    have h4 : d.val.toNat ≤ 57 := this.2
    show 32 ≤ d.val.toNat ∧ d.val.toNat < 127
    omega
  rw [Str.ofString_eq_toList]
  cases i with
  | ofNat m =>
    have e : (toString (Int.ofNat m)).toList = Nat.toDigits 10 m := by
      show (Nat.repr m).toList = _
      rw [Nat.toList_repr]
    rw [e]
    have hm : m ≤ 1000000000000000 := by
      have : (Int.ofNat m) = (m : Int) := rfl
      omega
    obtain ⟨a1, a2⟩ := dig m hm
    exact sstr_of (by simp; omega) a2
  | negSucc m =>
    have e : (toString (Int.negSucc m)).toList = '-' :: Nat.toDigits 10 (m + 1) := by
      show ("-" ++ Nat.repr (m + 1)).toList = _
      rw [String.toList_append, Nat.toList_repr]
      rfl
    rw [e]
    obtain ⟨a1, a2⟩ := dig (m + 1) (by omega)
    refine sstr_of (by simp; omega) ?_
    intro c hc
    simp only [List.map_cons, List.mem_cons] at hc
    rcases hc with rfl | hc
    · decide
    · exact a2 c hc
theorem near_scalar_wp {a : A} {st : Store} {Q : A → Store → Prop} (t : TpOk st) (h : Sca a) (k : ∀ (b : A) st', Sca b → TpOk st' → Kp st st' → Q b st') : (m_law_near_scalar [.ref 1, a] st).wp Q := by
  simp only [m_law_near_scalar]
  simp only [wp_fn, List.map_cons, List.map_nil, List.length_cons, List.length_nil, List.cons_append, List.nil_append, List.replicate, sp_seq, sp_set, wp_call, wp_cons, wp_nil, wp_var, wp_c, List.getElem?_cons_zero, Option.some.injEq, ex_eq, List.set_cons_succ, List.set_cons_zero]
  refine ⟨trivial, ?_⟩
  refine draw_wp t (by decide) fun c st1 ca cb t1 k1 l1 => ?_
  simp only [sp_ifs, wp_gb, wp_bin, wp_var, wp_c, List.getElem?_cons_succ, List.getElem?_cons_zero, Option.some.injEq, ex_eq, w_eq, w_getB, decide_eq_true_eq, sp_next]
  split
  · simp
    exact k a st1 h t1 k1
  rcases h with ⟨x, rfl, hx⟩ | ⟨i, rfl, h1, h2⟩
  · have hl := hx.len
    have hl' : x.cps.toList.length = x.length := by simp [Str.length]
    have kin : ∀ (l : List Nat) st', l.length ≤ 20 → (∀ c ∈ l, 32 ≤ c ∧ c < 127) → TpOk st' → Kp st st' → Q (.str ⟨l.toArray⟩) st' := fun l st' z1 z2 t' k' => k _ _ (.inl ⟨_, rfl, sstr_of z1 z2⟩) t' k'
    have lenk : ∀ st', TpOk st' → Kp st st' → Q (.int (x.length : Int)) st' := fun st' t' k' => k _ _ (.inr ⟨_, rfl, by omega, by omega⟩) t' k'
    simp
    refine ⟨by omega, ?_⟩
    refine draw_wp t1 (by omega) fun n st2 na nb t2 k2 l2 => ?_
    have hk := k1.trans k2
    obtain ⟨p, rfl, hp⟩ : ∃ p : Nat, n = (p : Int) ∧ p ≤ x.length := ⟨n.toNat, by omega, by omega⟩
    simp only [sp_seq, sp_ifs, wp_and, wp_gb, wp_bin, wp_var, wp_c, wp_ca, wp_cons, wp_nil, List.getElem?_cons_succ, List.getElem?_cons_zero, List.set_cons_succ, List.set_cons_zero, Option.some.injEq, ex_eq, w_eq, w_lt, w_getB, decide_eq_true_eq, w_lenS, sp_next]
    have hch : ∀ c ∈ x.cps.toList, 32 ≤ c ∧ c < 127 := hx.ch
    have tkd : ∀ (q r : Nat) (c : Nat), c ∈ x.cps.toList.take q ++ x.cps.toList.drop r → 32 ≤ c ∧ c < 127 := fun q r c hc => by
      rcases List.mem_append.mp hc with z | z
      · exact hch c (List.mem_of_mem_take z)
      · exact hch c (List.mem_of_mem_drop z)
    have tkd3 : ∀ (q r d : Nat) (c : Nat), 32 ≤ d → d < 127 → c ∈ (x.cps.toList.take q ++ [d]) ++ x.cps.toList.drop r → 32 ≤ c ∧ c < 127 := fun q r d c d1 d2 hc => by
      rcases List.mem_append.mp hc with z | z
      · rcases List.mem_append.mp z with z | z
        · exact hch c (List.mem_of_mem_take z)
        · simp at z
          omega
      · exact hch c (List.mem_of_mem_drop z)
    have ins : ∀ r : Nat, p + 1 + (x.length - r) ≤ 20 → (m_law_sign [.ref 1] st2).wp fun y st3 => (addA (.str ⟨(x.cps.toList.take p).toArray⟩) y st3).wp fun z st4 => (addA z (.str ⟨(x.cps.toList.drop r).toArray⟩) st4).wp Q := fun r hr => by
      refine sign_wp t2 fun d st3 d1 d2 t3 k3 _ => ?_
      rw [w_addS, str_one, str_app, str_len, str_len]
      refine ⟨by simp [sizeLine]; omega, ?_⟩
      rw [w_addS, str_app, str_len, str_len]
      refine ⟨by simp [sizeLine, hl']; omega, kin _ st3 ?_ (fun c hc => tkd3 _ _ _ c d1 d2 hc) t3 (hk.trans k3)⟩
      simp [hl']
      omega
    have c1 : cutA x.cps.toList none (some (p : Int)) = x.cps.toList.take p := by rw [cut_to (by omega)]; simp
    have c2 : cutA x.cps.toList (some (p : Int)) none = x.cps.toList.drop p := by rw [cut_from (by omega)]; simp
    have c3 : cutA x.cps.toList (some ((p : Int) + 1)) none = x.cps.toList.drop (p + 1) := by
      rw [cut_from (by omega)]
      congr 1
    have slk : x.length ≤ sizeLine := by simp only [sizeLine]; omega
    have tailk : ∀ st', TpOk st' → Kp st st' → Q (.int (x.length : Int)) st' := lenk
    have three : ((if (c : Int) = 3 then (x.length ≤ sizeLine ∧ Q (.int 0) st2) else True)) → True := fun _ => trivial
    split
    · rename_i e1
      refine ⟨slk, ?_⟩
      split
      · simp only [sp_ret, wp_bin, wp_sl, wp_noPart, wp_part, wp_var, wp_call, wp_cons, wp_nil, List.getElem?_cons_succ, List.getElem?_cons_zero, Option.some.injEq, ex_eq, w_getI, w_slS, cutS_eq, c1, c2]
        refine ⟨slk, ?_⟩
        have := ins p (by omega)
        refine this.imp fun z st4 hz => ?_
        refine hz.imp fun z2 st5 hz2 => ?_
        exact ⟨slk, hz2⟩
      · rw [if_neg (by omega), if_neg (by omega)]
        exact ⟨slk, lenk st2 t2 hk⟩
    split
    · simp only [sp_ret, wp_bin, wp_sl, wp_noPart, wp_part, wp_var, wp_c, List.getElem?_cons_succ, List.getElem?_cons_zero, Option.some.injEq, ex_eq, w_getI, w_add, w_slS, cutS_eq, c1, c3, w_addS, str_app, str_len]
      refine ⟨slk, slk, by simp [sizeLine, hl']; omega, kin _ st2 ?_ (tkd _ _) t2 hk⟩
      simp [hl']
      omega
    split
    · refine ⟨slk, ?_⟩
      split
      · rename_i e2
        simp only [sp_ret, wp_bin, wp_sl, wp_noPart, wp_part, wp_var, wp_c, wp_call, wp_cons, wp_nil, List.getElem?_cons_succ, List.getElem?_cons_zero, Option.some.injEq, ex_eq, w_getI, w_add, w_slS, cutS_eq, c1, c3]
        refine ⟨slk, ?_⟩
        have := ins (p + 1) (by omega)
        refine this.imp fun z st4 hz => ?_
        refine hz.imp fun z2 st5 hz2 => ?_
        exact ⟨slk, hz2⟩
      · exact ⟨slk, lenk st2 t2 hk⟩
    · exact ⟨slk, lenk st2 t2 hk⟩
  · have ki : ∀ (j : Int) st', -1000000000000000 ≤ j → j ≤ 1000000000000000 → TpOk st' → Kp st st' → Q (.int j) st' := fun j st' z1 z2 t' k' => k _ _ (.inr ⟨j, rfl, z1, z2⟩) t' k'
    simp only [wp_tru, wp_un, wp_var, List.getElem?_cons_succ, List.getElem?_cons_zero, Option.some.injEq, ex_eq, w_isi, ty_si, w_truB, Bool.false_eq_true, if_false]
    split
    · simp
      exact ki _ _ (by omega) (by omega) t1 k1
    split
    · simp
      exact w_str (by omega) (k _ _ (.inl ⟨_, rfl, sstr_int h1 h2⟩) t1 k1)
    simp only [wp_lst, wp_cons, wp_c, wp_nil]
    refine ⟨by simp [sizeLine], draw3_wp (xs := [1, 65536, 4294967296, 281474976710656]) t1 rfl (by decide) (fun s st2 hs t2 k2 => ?_) (by decide)⟩
    have hs2 : 1 ≤ s ∧ s ≤ 281474976710656 := by
      simp at hs
      omega
    simp
    split
    · exact ki _ _ (by omega) (by omega) t2 (k1.trans k2)
    · exact ki _ _ (by omega) (by omega) t2 (k1.trans k2)
theorem near_wp {a : A} {st : Store} {Q : A → Store → Prop} (t : TpOk st) (h : El a) (k : ∀ (b : A) st', El b → TpOk st' → Kp st st' → Q b st') : (m_law_near [.ref 1, a] st).wp Q := by
  simp only [m_law_near]
  simp only [wp_fn, List.map_cons, List.map_nil, List.length_cons, List.length_nil, List.cons_append, List.nil_append, List.replicate, sp_seq, sp_set, wp_call, wp_cons, wp_nil, wp_var, wp_c, List.getElem?_cons_zero, Option.some.injEq, ex_eq, List.set_cons_succ, List.set_cons_zero]
  refine ⟨trivial, ?_⟩
  refine draw_wp t (by decide) fun c st1 ca cb t1 k1 l1 => ?_
  simp only [sp_ifs, wp_gb, wp_bin, wp_var, wp_c, List.getElem?_cons_succ, List.getElem?_cons_zero, Option.some.injEq, ex_eq, w_eq, w_getB, decide_eq_true_eq, sp_next]
  split
  · simp
    exact element_wp t1 fun b st2 hb t2 k2 => k b st2 hb t2 (k1.trans k2)
  rcases h with h | ⟨x, y, rfl, hx, hy⟩
  · have tail : (mIfS (mGB (mBin eqA (mVar 2) (mC (.int 1)))) (mRet (mTup (mCons (mVar 1) (mCons (mVar 1) mNil)))) mNext [some (.ref 1), some a, some (.int c)] st1).wp (fun ρ st => (mRet (mCall m_law_near_scalar (mCons (mVar 0) (mCons (mVar 1) mNil))) ρ st).wp (fun _ st => Q .non st) NoS NoS Q) NoS NoS Q := by
      simp
      split
      · exact k _ _ (.inr ⟨a, a, rfl, h, h⟩) t1 k1
      · exact near_scalar_wp t1 h fun b st2 hb t2 k2 => k b st2 (.inl hb) t2 (k1.trans k2)
    simp at tail
    have h' := h
    rcases h with ⟨x, rfl, hx⟩ | ⟨i, rfl, h1, h2⟩
    · simp
      exact tail
    · simp
      exact tail
  · simp
    split
    · exact k _ _ (.inr ⟨y, x, rfl, hy, hx⟩) t1 k1
    split
    · exact k _ _ (.inl hx) t1 k1
    split
    · exact near_scalar_wp t1 hx fun b st2 hb t2 k2 => by
        have := k (.tup [b, y]) st2 (.inr ⟨b, y, rfl, hb, hy⟩) t2 (k1.trans k2)
        simpa using this
    · exact near_scalar_wp t1 hy fun b st2 hb t2 k2 => by
        have := k (.tup [x, b]) st2 (.inr ⟨x, b, rfl, hx, hb⟩) t2 (k1.trans k2)
        simpa using this
/-! ### codes begin unlike -/
def com : List Int → List Int → Prop
  | [], _ => True
  | _, [] => True
  | x :: xs, y :: ys => x = y ∧ com xs ys
theorem com_nil (l : List Int) : com l [] := by cases l <;> trivial
theorem com_refl : ∀ l : List Int, com l l
  | [] => trivial
  | x :: xs => ⟨rfl, com_refl xs⟩
theorem take_com : ∀ (l m : List Int), l.take (min l.length m.length) = m.take (min l.length m.length) ↔ com l m
  | [], m => by simp [com]
  | x :: xs, [] => by simp [com]
  | x :: xs, y :: ys => by
    have := take_com xs ys
    have e : min (x :: xs).length (y :: ys).length = min xs.length ys.length + 1 := by simp only [List.length_cons]; omega
    rw [e, List.take_succ_cons, List.take_succ_cons, List.cons.injEq, this]
    rfl
theorem com_app : ∀ {a b u v : List Int}, a.length = b.length → com (a ++ u) (b ++ v) → a = b ∧ com u v
  | [], [], u, v, _, h => ⟨rfl, h⟩
  | x :: xs, y :: ys, u, v, hl, h => by
    obtain ⟨h1, h2⟩ := h
    obtain ⟨h3, h4⟩ := com_app (a := xs) (b := ys) (by simpa using hl) h2
    exact ⟨by rw [h1, h3], h4⟩
theorem digs_inj {n m : Nat} (hn : n < 18446744073709551616) (hm : m < 18446744073709551616) (h : digs n 4 = digs m 4) : n = m := by
  rw [digs4, digs4] at h
  simp only [List.cons.injEq, Int.natCast_inj, and_true] at h
  omega
theorem str_inj {x y : Str} (h : (x.cps.toList.map fun (c : Nat) => (c : Int)) = y.cps.toList.map fun (c : Nat) => (c : Int)) : x = y := by
  have h2 : x.cps.toList = y.cps.toList := (List.map_inj_right (fun a b e => Int.ofNat_inj.mp e)).mp h
  cases x with
  | mk xc =>
    cases y with
    | mk yc =>
      simp only [Str.mk.injEq]
      exact Array.toList_inj.mp h2
theorem sca_com {x y : A} (hx : Sca x) (hy : Sca y) {u v : List Int} (h : com (scaCode x ++ u) (scaCode y ++ v)) : x = y ∧ com u v := by
  rcases hx with ⟨x, rfl, hx⟩ | ⟨i, rfl, h1, h2⟩
  · rcases hy with ⟨y, rfl, hy⟩ | ⟨j, rfl, h3, h4⟩
    · simp only [scaCode, List.cons_append] at h
      obtain ⟨_, h1, h2⟩ := h
      have hl : x.cps.size = y.cps.size := by
        have : (x.length : Int) = (y.length : Int) := h1
        simp only [Str.length] at this
        omega
      obtain ⟨h3, h4⟩ := com_app (by simp [hl]) h2
      exact ⟨by rw [str_inj h3], h4⟩
    · simp only [scaCode, List.cons_append] at h
      obtain ⟨h0, _⟩ := h
      split at h0 <;> omega
  · rcases hy with ⟨y, rfl, hy⟩ | ⟨j, rfl, h3, h4⟩
    · simp only [scaCode, List.cons_append] at h
      obtain ⟨h0, _⟩ := h
      split at h0 <;> omega
    · simp only [scaCode, List.cons_append] at h
      obtain ⟨h0, h5⟩ := h
      obtain ⟨h6, h7⟩ := com_app (by rw [digs_len, digs_len]) h5
      have h8 := digs_inj (by omega) (by omega) h6
      refine ⟨?_, h7⟩
      have : i = j := by
        split at h0 <;> split at h0 <;> omega
      rw [this]
theorem sca_tag {x : A} (h : Sca x) : ∃ t r, scaCode x = t :: r ∧ (t = 1 ∨ t = 2 ∨ t = 3) ∧ 1 ≤ r.length := by
  rcases h with ⟨x, rfl, hx⟩ | ⟨i, rfl, h1, h2⟩
  · exact ⟨3, _, rfl, by omega, by simp⟩
  · exact ⟨_, _, rfl, by split <;> omega, by rw [digs_len]; omega⟩
theorem el_com {a b : A} (ha : El a) (hb : El b) {u v : List Int} (h : com (elCode a ++ u) (elCode b ++ v)) : a = b ∧ com u v := by
  rcases ha with ha | ⟨x, y, rfl, hx, hy⟩
  · rcases hb with hb | ⟨x', y', rfl, hx', hy'⟩
    · rw [sca_el ha, sca_el hb] at h
      exact sca_com ha hb h
    · rw [sca_el ha] at h
      obtain ⟨t, r, e, ht, _⟩ := sca_tag ha
      rw [e] at h
      simp only [elCode, List.cons_append] at h
      obtain ⟨h0, _⟩ := h
      omega
  · rcases hb with hb | ⟨x', y', rfl, hx', hy'⟩
    · rw [sca_el hb] at h
      obtain ⟨t, r, e, ht, _⟩ := sca_tag hb
      rw [e] at h
      simp only [elCode, List.cons_append] at h
      obtain ⟨h0, _⟩ := h
      omega
    · simp only [elCode, List.cons_append, List.append_assoc] at h
      obtain ⟨_, h⟩ := h
      obtain ⟨e1, h⟩ := sca_com hx hx' h
      obtain ⟨e2, h⟩ := sca_com hy hy' h
      exact ⟨by rw [e1, e2], h⟩
/-- every number of a code -/
def Small (l : List Int) : Prop := ∀ z ∈ l, 0 ≤ z ∧ z ≤ 65535
theorem small_app {l m : List Int} (h : Small l) (k : Small m) : Small (l ++ m) := fun z hz => by
  rcases List.mem_append.mp hz with q | q
  · exact h z q
  · exact k z q
theorem small_cons {x : Int} {l : List Int} (h : 0 ≤ x ∧ x ≤ 65535) (k : Small l) : Small (x :: l) := fun z hz => by
  rcases List.mem_cons.mp hz with rfl | q
  · exact h
  · exact k z q
theorem small_digs (n i : Nat) : Small (digs n i) := fun z hz => by
  have := digs_lt n i z hz
  omega
theorem small_sca {x : A} (h : Sca x) : Small (scaCode x) := by
  rcases h with ⟨x, rfl, hx⟩ | ⟨i, rfl, h1, h2⟩
  · have := hx.len
    refine small_cons (by omega) (small_cons (by omega) fun z hz => ?_)
    obtain ⟨c, hc, rfl⟩ := List.mem_map.mp hz
    have := hx.ch c hc
    omega
  · exact small_cons (by split <;> omega) (small_digs _ _)
theorem small_el {x : A} (h : El x) : Small (elCode x) := by
  rcases h with h | ⟨x, y, rfl, hx, hy⟩
  · rw [sca_el h]
    exact small_sca h
  · exact small_cons (by omega) (small_app (small_sca hx) (small_sca hy))
theorem el_tag {x : A} (h : El x) : ∃ t r, elCode x = t :: r ∧ 1 ≤ t ∧ t ≤ 4 ∧ 1 ≤ r.length := by
  rcases h with h | ⟨x, y, rfl, hx, hy⟩
  · rw [sca_el h]
    obtain ⟨t, r, e, ht, hr⟩ := sca_tag h
    exact ⟨t, r, e, by omega, by omega, hr⟩
  · obtain ⟨t, r, e, ht, hr⟩ := sca_tag hx
    exact ⟨4, _, rfl, by omega, by omega, by rw [e]; simp⟩
end Law
/-! MP11: plain: nodes near a node, codes of nodes begin unlike. -/
namespace Law
open PySem L2 ML
def m_law_near_node : Nat → MF
  | 0 => fun _ _ => .bad
  | n + 1 => mFn 7 2 (mSeq (mSet 2 (mCall m_law_draw (mCons (mVar 0) (mCons (mC (.int 6)) mNil))))
    (mSeq (mIfS (mGB (mBin eqA (mVar 2) (mC (.int 0)))) (mRet (mVar 1)) mNext)
    (mSeq (mIfS (mGB (mBin eqA (mVar 2) (mC (.int 1)))) (mRet (mTup (mCons (mC (.str "block")) (mCons (mTup (mCons (mVar 1) mNil)) mNil)))) mNext)
    (mSeq (mIfS (mGB (mBin eqA (mBin ixA (mVar 1) (mC (.int 0))) (mC (.str "leaf")))) (mSeq (mIfS (mGB (mBin eqA (mVar 2) (mC (.int 2)))) (mRet (mTup (mCons (mC (.str "run")) (mCons (mVar 1) (mCons (mBin addA (mC (.int 2)) (mCall m_law_draw (mCons (mVar 0) (mCons (mC (.int 40)) mNil)))) mNil))))) mNext)
    (mRet (mTup (mCons (mC (.str "leaf")) (mCons (mCall m_law_near (mCons (mVar 0) (mCons (mBin ixA (mVar 1) (mC (.int 1))) mNil))) mNil))))) mNext)
    (mSeq (mIfS (mGB (mBin eqA (mBin ixA (mVar 1) (mC (.int 0))) (mC (.str "run")))) (mSeq (mIfS (mGB (mBin eqA (mVar 2) (mC (.int 2)))) (mRet (mBin ixA (mVar 1) (mC (.int 1)))) mNext)
    (mSeq (mIfS (mGB (mBin eqA (mVar 2) (mC (.int 3)))) (mRet (mTup (mCons (mC (.str "run")) (mCons (mBin ixA (mVar 1) (mC (.int 1))) (mCons (mBin addA (mC (.int 2)) (mCall m_law_draw (mCons (mVar 0) (mCons (mC (.int 40)) mNil)))) mNil))))) mNext)
    (mSeq (mSet 3 (mCall (m_law_near_node n) (mCons (mVar 0) (mCons (mBin ixA (mVar 1) (mC (.int 1))) mNil))))
    (mSeq (mIfS (mGB (mBin eqA (mBin ixA (mVar 3) (mC (.int 0))) (mC (.str "run")))) (mSet 3 (mTup (mCons (mC (.str "block")) (mCons (mTup (mCons (mVar 3) mNil)) mNil)))) mNext)
    (mRet (mTup (mCons (mC (.str "run")) (mCons (mVar 3) (mCons (mBin ixA (mVar 1) (mC (.int 2))) mNil))))))))) mNext)
    (mSeq (mSet 4 (mBin ixA (mVar 1) (mC (.int 1))))
    (mSeq (mIfS (mAnd (mGB (mBin eqA (mVar 2) (mC (.int 2)))) (mGB (mBin ltA (mCa lenA (mCons (mVar 4) mNil)) (mC (.int 12))))) (mRet (mTup (mCons (mC (.str "block")) (mCons (mBin addA (mVar 4) (mSl (mVar 4) mNoPart (mPart (mC (.int 1))))) mNil)))) mNext)
    (mSeq (mIfS (mAnd (mGB (mBin eqA (mVar 2) (mC (.int 3)))) (mGB (mBin gtA (mCa lenA (mCons (mVar 4) mNil)) (mC (.int 1))))) (mRet (mTup (mCons (mC (.str "block")) (mCons (mSl (mVar 4) mNoPart (mPart (mUn negA (mC (.int 1))))) mNil)))) mNext)
    (mSeq (mIfS (mGB (mBin eqA (mVar 2) (mC (.int 4)))) (mRet (mTup (mCons (mC (.str "block")) (mCons (mCa tupleA (mCons (mLc (mRev (mCa listA (mCons (mVar 4) mNil))) (.one 6) [6] mYes (mVar 6)) mNil)) mNil)))) mNext)
    (mSeq (mSet 5 (mCall m_law_draw (mCons (mVar 0) (mCons (mCa lenA (mCons (mVar 4) mNil)) mNil))))
    (mRet (mTup (mCons (mC (.str "block")) (mCons (mBin addA (mBin addA (mSl (mVar 4) mNoPart (mPart (mVar 5))) (mTup (mCons (mCall (m_law_near_node n) (mCons (mVar 0) (mCons (mBin ixA (mVar 4) (mVar 5)) mNil))) mNil))) (mSl (mVar 4) (mPart (mBin addA (mVar 5) (mC (.int 1)))) mNoPart)) mNil))))))))))))))

@[simp] theorem wp_rev {ma : MX} {ρ : ML.Env} {st : Store} {QS : Src → Store → Prop} : (mRev ma ρ st).wp QS ↔ (ma ρ st).wp fun x st1 => (revA x st1).wp QS := by
  unfold mRev
  rw [wp_bind]
@[simp] theorem w_revL {r : Nat} {st : Store} {QS : Src → Store → Prop} : (revA (.ref r) st).wp QS ↔ ∃ xs, stL st r = some xs ∧ QS (.revl r xs.length) st := by
  simp only [revA, stL]
  cases st[r]? with
  | none => simp [R.wp]
  | some o =>
    cases o with
    | oth u => simp [R.wp]
    | lst xs => simp [R.wp]
theorem lc_rev {tg : Tg} {own : List Nat} {tt : MT} {elt : MX} {ρ0 : ML.Env} {xs : List A} {r : Nat} {st : Store} {QL : List A → Store → Prop} (I : Nat → Store → List A → Prop) (h0 : I 0 st []) (hl : ∀ i st acc, I i st acc → stL st r = some xs)
    (hs : ∀ i x st acc, xs.reverse[i]? = some x → I i st acc → ∃ ρ1, asgT tg x ρ0 st = some ρ1 ∧ (tt ρ1 st).wp fun b st1 => if b = true then (elt ρ1 st1).wp fun y st2 => acc.length < sizeLine ∧ I (i + 1) st2 (acc ++ [y]) else I (i + 1) st1 acc)
    (hd : ∀ st acc, I xs.length st acc → QL acc st) : (loopC (.revl r xs.length) tg own tt elt ρ0 (Src.size (.revl r xs.length) st + 1) 0 st []).wp QL :=
  lc_wp xs.length (fun i => xs.reverse.getD i .non) I (fun i st acc q => ⟨fun h => by
    have e1 : xs[xs.length - 1 - i]? = some xs[xs.length - 1 - i] := List.getElem?_eq_getElem (by omega)
    have e2 : xs.reverse[i]? = some xs[xs.length - 1 - i] := by rw [List.getElem?_reverse h]; exact e1
    simp only [Src.at, if_pos h, hl i st acc q, e1, List.getD_eq_getElem?_getD, e2, Option.getD_some], fun h => by simp only [Src.at, if_neg h]⟩) (fun i st acc h q => hs i _ st acc (by
      have hi : i < xs.reverse.length := by rw [List.length_reverse]; exact h
      have e2 : xs.reverse[i]? = some xs.reverse[i] := List.getElem?_eq_getElem hi
      rw [List.getD_eq_getElem?_getD, e2]
      rfl) q) hd _ _ _ _ (by simp [Src.size]) (Nat.zero_le _) h0
theorem szNs_app' : ∀ (xs ys : List Nd), szNs (xs ++ ys) = szNs xs + szNs ys
  | [], ys => by simp [szNs]
  | x :: xs, ys => by simp only [List.cons_append, szNs, szNs_app' xs ys]; omega
theorem szNs_rev : ∀ xs : List Nd, szNs xs.reverse = szNs xs
  | [] => rfl
  | x :: xs => by
    rw [List.reverse_cons, szNs_app', szNs_rev xs]
    simp only [szNs]
    omega
theorem szNs_take' {cs : List Nd} {i : Nat} : szNs (cs.take i) ≤ szNs cs := by
  have : cs = cs.take i ++ cs.drop i := (List.take_append_drop i cs).symm
  have e := congrArg szNs this
  rw [szNs_app'] at e
  omega
theorem cut_neg {α : Type} {xs : List α} (h : 1 ≤ xs.length) : cutA xs none (some (-1)) = xs.take (xs.length - 1) := by
  unfold cutA HT.sIx
  have e : (max ((xs.length : Int) + -1) 0).toNat = xs.length - 1 := by omega
  simp
  first
    | omega
    | (congr 1; omega)
    | skip
theorem map_mid {cs : List Nd} {p : Nat} {c' : Nd} : ((cs.map ndA).take p ++ [ndA c']) ++ (cs.map ndA).drop (p + 1) = ((cs.take p ++ [c']) ++ cs.drop (p + 1)).map ndA := by
  simp [List.map_take, List.map_drop]
theorem near_node_wp : ∀ (n : Nat) (nd : Nd) (st : Store) (Q : A → Store → Prop), TpOk st → okN nd → dpN nd ≤ n → (∀ nd' st', okN nd' → szN nd' ≤ 41 * szN nd → dpN nd' ≤ 2 * dpN nd + 2 → TpOk st' → Kp st st' → Q (ndA nd') st') → (m_law_near_node n [.ref 1, ndA nd] st).wp Q
  | 0, nd, st, Q, t, ho, hd, k => by
    cases nd <;> simp [dpN] at hd
  | n + 1, nd, st, Q, t, ho, hd, k => by
    simp only [m_law_near_node]
    rw [wp_fn]
    refine ⟨rfl, ?_⟩
    simp only [List.map_cons, List.map_nil, List.cons_append, List.nil_append, List.replicate]
    refine seq_cut (fun ρ st1 => ∃ c : Int, 0 ≤ c ∧ c < 6 ∧ TpOk st1 ∧ Kp st st1 ∧ ρ = [some (.ref 1), some (ndA nd), some (.int c), none, none, none, none]) ?_ ?_
    · simp only [sp_set, wp_call, wp_cons, wp_nil, wp_var, wp_c, List.getElem?_cons_zero, Option.some.injEq, ex_eq, List.set_cons_succ, List.set_cons_zero]
      exact draw_wp t (by decide) fun c st1 ca cb t1 k1 l1 => ⟨c, ca, by omega, t1, k1, rfl⟩
    rintro ρ st1 ⟨c, ca, cb, t1, k1, rfl⟩
    have hz := szN_pos nd ho
    refine seq_cutR (fun ρ st' => st' = st1 ∧ ρ = [some (.ref 1), some (ndA nd), some (.int c), none, none, none, none]) ?_ ?_
    · simp
      intro _
      exact k nd st1 ho (by omega) (by omega) t1 k1
    rintro ρ st' ⟨rfl, rfl⟩
    refine seq_cutR (fun ρ st2 => st2 = st' ∧ ρ = [some (.ref 1), some (ndA nd), some (.int c), none, none, none, none]) ?_ ?_
    · simp
      intro _
      have := k (.blk [nd]) st' (by simp only [okN, okNs]; exact ⟨by simp, by simp, ho, trivial⟩) (by simp only [szN, szNs]; omega) (by simp only [dpN, dpNs]; omega) t1 k1
      rw [ndA_blk] at this
      simpa using this
    rintro ρ st1 ⟨rfl, rfl⟩
    have F0' : ∀ (ρ : ML.Env) (st : Store), False → ∀ {P : Prop}, P := fun _ _ h => h.elim
    cases nd with
    | leaf e =>
      simp only [okN] at ho
      rw [ndA_leaf]
      refine seq_cutR (fun _ _ => False) ?_ (fun _ _ h => h.elim)
      simp
      split
      · refine draw_wp t1 (by decide) fun m st2 ma mb t2 k2 _ => ?_
        obtain ⟨tm, htm, hm1, hm2⟩ : ∃ tm : Nat, 2 + m = (tm : Int) ∧ 2 ≤ tm ∧ tm ≤ 41 := ⟨(2 + m).toNat, by omega, by omega, by omega⟩
        simp
        rw [htm]
        have := k (.run (.leaf e) tm) st2 (by simp only [okN]; exact ⟨ho, hm1, by omega⟩) (by simp only [szN]; omega) (by simp only [dpN]; omega) t2 (k1.trans k2)
        rw [ndA_run, ndA_leaf] at this
        exact this
      · refine near_wp t1 ho fun b st2 hb t2 k2 => ?_
        have := k (.leaf b) st2 (by simpa only [okN] using hb) (by simp only [szN]; omega) (by simp only [dpN]; omega) t2 (k1.trans k2)
        rw [ndA_leaf] at this
        simpa using this
    | run b tb =>
      simp only [okN] at ho
      simp only [dpN] at hd
      rw [ndA_run]
      have hb1 := szN_pos b ho.1
      have hbt : szN b ≤ szN b * tb := Nat.le_mul_of_pos_right _ (by omega)
      refine seq_cutR (fun ρ st2 => st2 = st1 ∧ ρ = [some (.ref 1), some (.tup [.str "run", ndA b, .int (tb : Int)]), some (.int c), none, none, none, none]) ?_ ?_
      · simp
      rintro ρ st' ⟨e, rfl⟩
      rw [e]
      refine seq_cutR (fun _ _ => False) ?_ (fun _ _ h => h.elim)
      simp
      split
      · exact k b st1 ho.1 (by simp only [szN]; omega) (by simp only [dpN]; omega) t1 k1
      split
      · refine draw_wp t1 (by decide) fun m st2 ma mb t2 k2 _ => ?_
        obtain ⟨tm, htm, hm1, hm2⟩ : ∃ tm : Nat, 2 + m = (tm : Int) ∧ 2 ≤ tm ∧ tm ≤ 41 := ⟨(2 + m).toNat, by omega, by omega, by omega⟩
        simp
        rw [htm]
        have := k (.run b tm) st2 (by simp only [okN]; exact ⟨ho.1, hm1, by omega⟩) (by
          simp only [szN]
          have : szN b * tm ≤ szN b * 41 := Nat.mul_le_mul_left _ hm2
          omega) (by simp only [dpN]; omega) t2 (k1.trans k2)
        rw [ndA_run] at this
        exact this
      · refine near_node_wp n b st1 _ t1 ho.1 (by omega) fun nd' st2 o1 o2 o3 t2 k2 => ?_
        have hmul : szN nd' * tb ≤ 41 * (szN b * tb) := by
          rw [← Nat.mul_assoc]
          exact Nat.mul_le_mul_right _ o2
        cases nd' with
        | leaf e =>
          have := k (.run (.leaf e) tb) st2 (by simp only [okN]; simp only [okN] at o1; exact ⟨o1, ho.2.1, ho.2.2⟩) (by simp only [szN]; simp only [szN] at hmul; omega) (by simp only [dpN]; omega) t2 (k1.trans k2)
          rw [ndA_run] at this
          rw [ndA_leaf] at this ⊢
          simpa using this
        | run b2 t2' =>
          have := k (.run (.blk [.run b2 t2']) tb) st2 (by simp only [okN, okNs, List.length_cons, List.length_nil]; simp only [okN] at o1; exact ⟨⟨by omega, by omega, o1, trivial⟩, ho.2.1, ho.2.2⟩) (by simp only [szN, szNs]; simp only [szN] at hmul; simpa using hmul) (by simp only [dpN, dpNs]; simp only [dpN] at o3; omega) t2 (k1.trans k2)
          rw [ndA_run, ndA_blk] at this
          rw [ndA_run]
          simp
          simpa [ndA_run] using this
        | blk cs =>
          have := k (.run (.blk cs) tb) st2 (by simp only [okN]; simp only [okN] at o1; exact ⟨o1, ho.2.1, ho.2.2⟩) (by simp only [szN]; simp only [szN] at hmul; exact hmul) (by simp only [dpN]; simp only [dpN] at o3; omega) t2 (k1.trans k2)
          rw [ndA_run] at this
          rw [ndA_blk] at this ⊢
          simpa using this
    | blk cs =>
      simp only [okN, okNs_iff] at ho
      obtain ⟨ho1, ho2, ho3⟩ := ho
      simp only [dpN] at hd
      have kk : ∀ (ds : List Nd) st', 1 ≤ ds.length → ds.length ≤ 100 → (∀ c ∈ ds, okN c) → szNs ds ≤ 41 * szNs cs → (∀ c ∈ ds, dpN c ≤ 2 * dpNs cs + 2) → TpOk st' → Kp st st' → Q (.tup [.str "block", .tup (ds.map ndA)]) st' := fun ds st' d1 d2 d3 d4 d5 t' k' => by
        have := k (.blk ds) st' (by simp only [okN, okNs_iff]; exact ⟨d1, d2, d3⟩) (by simp only [szN]; exact d4) (by simp only [dpN]; have := dpNs_le d5; omega) t' k'
        rwa [ndA_blk] at this
      have hdm : ∀ c ∈ cs, dpN c ≤ 2 * dpNs cs + 2 := fun c hc => by
        have := dp_mem hc
        omega
      rw [ndA_blk]
      refine seq_cutR (fun ρ st2 => st2 = st1 ∧ ρ = [some (.ref 1), some (.tup [.str "block", .tup (cs.map ndA)]), some (.int c), none, none, none, none]) ?_ ?_
      · simp
      rintro ρ st' ⟨rfl, rfl⟩
      refine seq_cutR (fun ρ st2 => st2 = st' ∧ ρ = [some (.ref 1), some (.tup [.str "block", .tup (cs.map ndA)]), some (.int c), none, none, none, none]) ?_ ?_
      · simp
      rintro ρ st1 ⟨rfl, rfl⟩
      refine seq_cut (fun ρ st2 => st2 = st1 ∧ ρ = [some (.ref 1), some (.tup [.str "block", .tup (cs.map ndA)]), some (.int c), none, some (.tup (cs.map ndA)), none, none]) ?_ ?_
      · simp
      rintro ρ st' ⟨rfl, rfl⟩
      refine seq_cutR (fun ρ st2 => st2 = st' ∧ ρ = [some (.ref 1), some (.tup [.str "block", .tup (cs.map ndA)]), some (.int c), none, some (.tup (cs.map ndA)), none, none]) ?_ ?_
      · simp
        intro _ _
        have := kk (cs ++ cs.take 1) st' (by simp; omega) (by simp; omega) (fun c hc => (List.mem_append.mp hc).elim (fun z => ho3 c z) fun z => ho3 c (List.mem_of_mem_take z)) (by
          rw [szNs_app']
          have := szNs_take' (cs := cs) (i := 1)
          omega) (fun c hc => (List.mem_append.mp hc).elim (fun z => hdm c z) fun z => hdm c (List.mem_of_mem_take z)) t1 k1
        refine ⟨by omega, ?_⟩
        simpa [List.map_take] using this
      rintro ρ st1 ⟨rfl, rfl⟩
      refine seq_cutR (fun ρ st2 => st2 = st1 ∧ ρ = [some (.ref 1), some (.tup [.str "block", .tup (cs.map ndA)]), some (.int c), none, some (.tup (cs.map ndA)), none, none]) ?_ ?_
      · simp
        intro _ _
        have := kk (cs.take (cs.length - 1)) st1 (by simp; omega) (by simp; omega) (fun c hc => ho3 c (List.mem_of_mem_take hc)) (by
          have := szNs_take' (cs := cs) (i := cs.length - 1)
          omega) (fun c hc => hdm c (List.mem_of_mem_take hc)) t1 k1
        rw [cut_neg (by simp; omega)]
        simpa [List.map_take] using this
      rintro ρ st' ⟨rfl, rfl⟩
      refine seq_cutR (fun ρ st2 => st2 = st' ∧ ρ = [some (.ref 1), some (.tup [.str "block", .tup (cs.map ndA)]), some (.int c), none, some (.tup (cs.map ndA)), none, none]) ?_ ?_
      · simp only [sp_ifs, wp_gb, wp_bin, wp_var, wp_c, List.getElem?_cons_succ, List.getElem?_cons_zero, Option.some.injEq, ex_eq, w_eq, w_getB, decide_eq_true_eq, sp_next]
        split
        · simp
          have el : cs.length = (cs.map ndA).length := by simp
          rw [el]
          refine lc_rev (xs := cs.map ndA) (fun i st5 acc => st5 = st' ++ [.lst (cs.map ndA)] ∧ acc = (cs.map ndA).reverse.take i) ⟨rfl, by simp⟩ ?_ ?_ ?_
          · rintro i st5 acc ⟨rfl, rfl⟩
            simp
          · rintro i x st5 acc hx ⟨rfl, rfl⟩
            refine ⟨_, rfl, ?_⟩
            have hl : ((cs.map ndA).reverse.take i).length ≤ cs.length := by simp; omega
            simp only [wp_yes, if_true, wp_var, List.set_cons_succ, List.set_cons_zero, List.getElem?_cons_succ, List.getElem?_cons_zero, Option.some.injEq, ex_eq]
            refine ⟨by simp only [sizeLine]; omega, trivial, ?_⟩
            rw [List.take_add_one, hx]
            rfl
          · rintro st5 acc ⟨rfl, rfl⟩
            have e : List.take (cs.map ndA).length (cs.map ndA).reverse = (cs.map ndA).reverse := List.take_of_length_le (by simp)
            rw [e, ← List.map_reverse]
            have g : Grown st' ((st' ++ [.lst (cs.map ndA)]) ++ [.lst (cs.reverse.map ndA)]) := ⟨_, List.append_assoc _ _ _⟩
            have := kk cs.reverse _ (by simpa using ho1) (by simpa using ho2) (fun c hc => ho3 c (by simpa using hc)) (by rw [szNs_rev]; omega) (fun c hc => hdm c (by simpa using hc)) (t1.grown g) (k1.trans (Kp.grown g))
            simpa using this
        · simp
      rintro ρ st1 ⟨rfl, rfl⟩
      simp
      refine draw_wp t1 (by omega) fun p st2 pa pb t2 k2 _ => ?_
      obtain ⟨q, rfl, hq⟩ : ∃ q : Nat, p = (q : Int) ∧ q < cs.length := ⟨p.toNat, by omega, by omega⟩
      have hc := List.getElem?_eq_getElem hq
      have hmem := List.getElem_mem hq
      have hdq := dp_mem hmem
      simp [hq]
      refine near_node_wp n cs[q] st2 _ t2 (ho3 _ hmem) (by omega) fun nd' st3 o1 o2 o3 t3 k3 => ?_
      have hsp : szNs cs = szNs (cs.take q) + (szN cs[q] + szNs (cs.drop (q + 1))) := by
        have e : cs = cs.take q ++ cs[q] :: cs.drop (q + 1) := by rw [List.getElem_cons_drop, List.take_append_drop]
        have := congrArg szNs e
        rw [szNs_app'] at this
        simpa only [szNs] using this
      have := kk ((cs.take q ++ [nd']) ++ cs.drop (q + 1)) st3 (by simp; omega) (by simp; omega) (fun c hc => by
        rcases List.mem_append.mp hc with z | z
        · rcases List.mem_append.mp z with z | z
          · exact ho3 c (List.mem_of_mem_take z)
          · simp at z
            subst z
            exact o1
        · exact ho3 c (List.mem_of_mem_drop z)) (by
        rw [szNs_app', szNs_app']
        simp only [szNs]
        omega) (fun c hc => by
        rcases List.mem_append.mp hc with z | z
        · rcases List.mem_append.mp z with z | z
          · exact hdm c (List.mem_of_mem_take z)
          · simp at z
            subst z
            omega
        · exact hdm c (List.mem_of_mem_drop z)) t3 ((k1.trans k2).trans k3)
      rw [← map_mid] at this
      have e1 : ((q : Int) + 1).toNat = q + 1 := by omega
      rw [cut_from (by omega), e1]
      refine ⟨by omega, by simp; omega, ?_⟩
      simpa [List.map_take, List.map_drop] using this
end Law
/-! MP3: plain: where blocks start. -/
namespace Law
open PySem L2 ML
def isPk (cs : List Int) (j : Nat) : Prop := cs.getD (j - 1) 0 < cs.getD j 0 ∧ cs.getD (j + 1) 0 < cs.getD j 0
instance (cs : List Int) (j : Nat) : Decidable (isPk cs j) := by unfold isPk; infer_instance
def pks (cs : List Int) (m : Nat) : List Nat := ((List.range m).filter fun t => decide (isPk cs (t + 2))).map (· + 2)
/-- the starts -/
def startsL (cs : List Int) : List Nat := if cs = [] then [] else 0 :: pks cs (cs.length - 3)
theorem pks_succ (cs : List Int) (m : Nat) : pks cs (m + 1) = if isPk cs (m + 2) then pks cs m ++ [m + 2] else pks cs m := by
  unfold pks
  rw [List.range_succ, List.filter_append, List.map_append]
  by_cases h : isPk cs (m + 2)
  · simp [h]
  · simp [h]
theorem pks_len (cs : List Int) (m : Nat) : (pks cs m).length ≤ m := by
  unfold pks
  rw [List.length_map]
  exact Nat.le_trans (List.length_filter_le _ _) (by simp)
def m_is_peak : MF := mFn 2 2 (mRet (mAndV (mBin ltA (mBin ixA (mVar 0) (mBin subA (mVar 1) (mC (.int 1)))) (mBin ixA (mVar 0) (mVar 1))) (mBin gtA (mBin ixA (mVar 0) (mVar 1)) (mBin ixA (mVar 0) (mBin addA (mVar 1) (mC (.int 1)))))))
def m_starts_of : MF := mFn 2 1 (mSeq (mIfS (mNot (mTru (mVar 0))) (mRet (mTup mNil)) mNext)
    (mRet (mBin addA (mTup (mCons (mC (.int 0)) mNil)) (mCa tupleA (mCons (mLc (mRng (mCons (mC (.int 2)) (mCons (mBin subA (mCa lenA (mCons (mVar 0) mNil)) (mC (.int 1))) mNil))) (.one 1) [1] (mTru (mCall m_is_peak (mCons (mVar 0) (mCons (mVar 1) mNil)))) (mVar 1)) mNil)))))
theorem ints_get {cs : List Int} {j : Nat} {i : Int} (h : j < cs.length) (e : i = (j : Nat)) : atI (cs.map A.int) i = some (.int (cs.getD j 0)) := by
  subst e
  rw [atI_nn (by omega), Int.toNat_natCast, List.getElem?_map, List.getElem?_eq_getElem h]
  simp [h]
theorem peak_wp {cs : List Int} {i : Int} {j : Nat} {st : Store} {Q : A → Store → Prop} (h : j + 1 < cs.length) (h1 : 1 ≤ j) (e : i = (j : Nat)) (k : Q (.bl (decide (isPk cs j))) st) : (m_is_peak [.tup (cs.map .int), .int i] st).wp Q := by
  have a1 := ints_get (cs := cs) (j := j - 1) (i := i - 1) (by omega) (by omega)
  have a2 := ints_get (cs := cs) (j := j) (i := i) (by omega) (by omega)
  have a3 := ints_get (cs := cs) (j := j + 1) (i := i + 1) (by omega) (by omega)
  simp only [m_is_peak]
  simp [-atI_nn, a1, a2, a3]
  split
  · rename_i h1
    have : decide (cs.getD (j + 1) 0 < cs.getD j 0) = decide (isPk cs j) := by
      unfold isPk
      simp [h1]
    simp only [List.getD_eq_getElem?_getD] at this
    rw [this]
    exact k
  · rename_i h1
    have : decide (isPk cs j) = false := by
      unfold isPk
      simp [h1]
    rw [this] at k
    exact k
theorem starts_wp {cs : List Int} {st : Store} {Q : A → Store → Prop} (hl : cs.length ≤ 100000) (k : ∀ st', Grown st st' → Q (.tup ((startsL cs).map fun (n : Nat) => A.int (n : Int))) st') : (m_starts_of [.tup (cs.map .int)] st).wp Q := by
  simp only [m_starts_of]
  simp
  by_cases hc : cs = []
  · subst hc
    simpa [startsL] using k st (.refl st)
  · simp [hc]
    have hpos : 0 < cs.length := List.length_pos_iff.mpr hc
    refine ⟨by omega, ?_⟩
    have hn : (cs.length - 1 - 2 : Int).toNat = cs.length - 3 := by omega
    rw [hn]
    refine lc_rng (fun i st' acc => st' = st ∧ acc = (pks cs i).map fun (n : Nat) => A.int (n : Int)) ⟨rfl, rfl⟩ ?_ ?_
    · rintro i st' acc hi ⟨rfl, rfl⟩
      refine ⟨_, rfl, ?_⟩
      simp [wipeA]
      refine peak_wp (j := i + 2) (by omega) (by omega) (by omega) ?_
      have hlen := pks_len cs i
      by_cases hp : isPk cs (i + 2)
      · simp [hp, pks_succ]
        exact ⟨by omega, by omega⟩
      · simp [hp, pks_succ]
    · rintro st' acc ⟨rfl, rfl⟩
      have hlen := pks_len cs (cs.length - 3)
      simp
      refine ⟨by omega, ?_⟩
      have := k (st' ++ [.lst ((pks cs (cs.length - 3)).map fun (n : Nat) => A.int (n : Int))]) (.one _ _)
      simpa [startsL, hc] using this
end Law
/-! MP12: plain: rows of items and their coins. -/
namespace Law
open PySem L2 ML
def m_law_items : MF := mFn 6 2 (mSeq (mSet 2 (mLst mNil))
    (mSeq (mSet 3 (mTup (mCons (mC (.str "leaf")) (mCons (mC (.int 7)) mNil))))
    (mSeq (mFor (mRng (mCons (mCall m_law_draw (mCons (mVar 0) (mCons (mBin addA (mVar 1) (mC (.int 1))) mNil))) mNil)) (.one 4) (mSeq (mIfS (mGB (mBin eqA (mCall m_law_draw (mCons (mVar 0) (mCons (mC (.int 2)) mNil))) (mC (.int 0)))) (mSet 3 (mCall (m_law_node 40) (mCons (mVar 0) (mCons (mCall m_law_draw (mCons (mVar 0) (mCons (mC (.int 3)) mNil))) (mCons (mC (.int 8)) mNil))))) mNext)
    (mSeq (mSet 5 (mVar 3))
    (mSeq (mIfS (mGB (mBin eqA (mCall m_law_draw (mCons (mVar 0) (mCons (mC (.int 2)) mNil))) (mC (.int 0)))) (mSet 5 (mCall (m_law_near_node 40) (mCons (mVar 0) (mCons (mVar 3) mNil)))) mNext)
    (mIfS (mOr (mNot (mTru (mVar 2))) (mGB (mBin neA (mVar 5) (mBin ixA (mVar 2) (mUn negA (mC (.int 1))))))) (mExpr (mBm appendA (mVar 2) (mCons (mVar 5) mNil))) mNext)))))
    (mRet (mVar 2)))))
noncomputable def m_first_difference : MF := mFn 3 2 (mSeq (mSet 2 (mC (.int 0)))
    (mSeq (mWhile (mAnd (mGB (mBin ltA (mVar 2) (mCa lenA (mCons (mVar 0) mNil)))) (mGB (mBin eqA (mBin ixA (mVar 0) (mVar 2)) (mBin ixA (mVar 1) (mVar 2))))) (mAug 2 iaddA (mC (.int 1))))
    (mRet (mVar 2))))
noncomputable def m_coin_after : MF := mFn 3 2 (mSeq (mSet 2 (mCall m_first_difference (mCons (mVar 0) (mCons (mVar 1) mNil))))
    (mRet (mBin addA (mBin mulA (mC (.int 65536)) (mVar 2)) (mBin ixA (mVar 1) (mVar 2)))))
noncomputable def m_coins_of_codes : MF := mFn 4 1 (mSeq (mSet 1 (mLst mNil))
    (mSeq (mSet 2 (mTup mNil))
    (mSeq (mFor (mSrc (mVar 0)) (.one 3) (mSeq (mExpr (mBm appendA (mVar 1) (mCons (mCall m_coin_after (mCons (mVar 2) (mCons (mVar 3) mNil))) mNil)))
    (mSet 2 (mVar 3))))
    (mRet (mCa tupleA (mCons (mVar 1) mNil))))))
noncomputable def m_coins_of : MF := mFn 2 1 (mRet (mCall m_coins_of_codes (mCons (mLc (mSrc (mVar 0)) (.one 1) [1] mYes (mCall (m_node_code 40) (mCons (mVar 1) mNil))) mNil)))
def m_law_coin : MF := mFn 3 2 (mSeq (mFor (mRng (mCons (mCa minA (mCons (mCa lenA (mCons (mVar 0) mNil)) (mCons (mCa lenA (mCons (mVar 1) mNil)) mNil))) mNil)) (.one 2) (mIfS (mGB (mBin neA (mBin ixA (mVar 0) (mVar 2)) (mBin ixA (mVar 1) (mVar 2)))) (mRet (mBin addA (mBin mulA (mC (.int 65536)) (mVar 2)) (mBin ixA (mVar 1) (mVar 2)))) mNext))
    (mRet (mBin ixA (mVar 1) (mC (.int 0)))))
def m_law_coins : MF := mFn 5 1 (mSeq (mSet 1 (mLst mNil))
    (mSeq (mSet 2 (mLst mNil))
    (mSeq (mFor (mSrc (mVar 0)) (.one 3) (mSeq (mSet 4 (mCall (m_law_node_code 40) (mCons (mVar 3) mNil)))
    (mSeq (mExpr (mBm appendA (mVar 1) (mCons (mCall m_law_coin (mCons (mVar 2) (mCons (mVar 4) mNil))) mNil)))
    (mSet 2 (mVar 4)))))
    (mRet (mVar 1)))))
theorem small_codes : (∀ nd : Nd, okN nd → Small (codeN nd)) ∧ True := by
  refine ⟨fun nd h => ?_, trivial⟩
  refine Nd.rec (motive_1 := fun nd => okN nd → Small (codeN nd)) (motive_2 := fun cs => okNs cs → Small (codesN cs)) ?_ ?_ ?_ ?_ ?_ nd h
  · intro e h
    simp only [okN] at h
    simpa only [codeN] using small_el h
  · intro b t ih h
    simp only [okN] at h
    simp only [codeN]
    exact small_cons (by omega) (small_app (small_digs _ _) (ih h.1))
  · intro cs ih h
    simp only [okN] at h
    simp only [codeN]
    exact small_cons (by omega) (small_cons (by omega) (ih h.2.2))
  · intro _ z hz
    simp [codesN] at hz
  · intro c cs h1 h2 h
    simp only [okNs] at h
    simp only [codesN]
    exact small_app (h1 h.1) (h2 h.2)
theorem nd_tag {nd : Nd} (h : okN nd) : ∃ t r, codeN nd = t :: r ∧ 1 ≤ t ∧ t ≤ 6 ∧ 1 ≤ r.length := by
  cases nd with
  | leaf e =>
    simp only [okN] at h
    obtain ⟨t, r, e1, a, b, c⟩ := el_tag h
    exact ⟨t, r, by simpa only [codeN] using e1, a, by omega, c⟩
  | run b t => exact ⟨5, _, by simp only [codeN]; rfl, by omega, by omega, by simp [digs_len]; omega⟩
  | blk cs => exact ⟨6, _, by simp only [codeN]; rfl, by omega, by omega, by simp⟩
mutual
theorem nd_com : ∀ (a b : Nd), okN a → okN b → ∀ u v, com (codeN a ++ u) (codeN b ++ v) → a = b ∧ com u v
  | .leaf e, .leaf e', ha, hb, u, v, h => by
    simp only [okN] at ha hb
    simp only [codeN] at h
    obtain ⟨h1, h2⟩ := el_com ha hb h
    exact ⟨by rw [h1], h2⟩
  | .leaf e, .run b t, ha, hb, u, v, h => by
    simp only [okN] at ha
    obtain ⟨t, r, e1, a1, a2, a3⟩ := el_tag ha
    simp only [codeN, e1, List.cons_append] at h
    have := h.1
    omega
  | .leaf e, .blk cs, ha, hb, u, v, h => by
    simp only [okN] at ha
    obtain ⟨t, r, e1, a1, a2, a3⟩ := el_tag ha
    simp only [codeN, e1, List.cons_append] at h
    have := h.1
    omega
  | .run b t, .leaf e, ha, hb, u, v, h => by
    simp only [okN] at hb
    obtain ⟨t, r, e1, a1, a2, a3⟩ := el_tag hb
    simp only [codeN, e1, List.cons_append] at h
    have := h.1
    omega
  | .run b t, .run b' t', ha, hb, u, v, h => by
    simp only [okN] at ha hb
    simp only [codeN, List.cons_append, List.append_assoc] at h
    obtain ⟨h1, h2⟩ := com_app (by rw [digs_len, digs_len]) h.2
    obtain ⟨h3, h4⟩ := nd_com b b' ha.1 hb.1 u v h2
    have ht : t = t' := by
      simp only [digs, List.cons.injEq, Int.natCast_inj, and_true] at h1
      omega
    exact ⟨by rw [h3, ht], h4⟩
  | .run b t, .blk cs, ha, hb, u, v, h => by
    simp only [codeN, List.cons_append] at h
    have := h.1
    omega
  | .blk cs, .leaf e, ha, hb, u, v, h => by
    simp only [okN] at hb
    obtain ⟨t, r, e1, a1, a2, a3⟩ := el_tag hb
    simp only [codeN, e1, List.cons_append] at h
    have := h.1
    omega
  | .blk cs, .run b t, ha, hb, u, v, h => by
    simp only [codeN, List.cons_append] at h
    have := h.1
    omega
  | .blk cs, .blk ds, ha, hb, u, v, h => by
    simp only [okN] at ha hb
    simp only [codeN, List.cons_append] at h
    obtain ⟨_, h1, h2⟩ := h
    obtain ⟨h3, h4⟩ := nds_com cs ds (by omega) ha.2.2 hb.2.2 u v h2
    exact ⟨by rw [h3], h4⟩
theorem nds_com : ∀ (as bs : List Nd), as.length = bs.length → okNs as → okNs bs → ∀ u v, com (codesN as ++ u) (codesN bs ++ v) → as = bs ∧ com u v
  | [], [], _, _, _, u, v, h => ⟨rfl, h⟩
  | [], _ :: _, hl, _, _, u, v, h => by simp at hl
  | _ :: _, [], hl, _, _, u, v, h => by simp at hl
  | a :: as, b :: bs, hl, ha, hb, u, v, h => by
    simp only [okNs] at ha hb
    simp only [codesN, List.append_assoc] at h
    obtain ⟨h1, h2⟩ := nd_com a b ha.1 hb.1 _ _ h
    obtain ⟨h3, h4⟩ := nds_com as bs (by simpa using hl) ha.2 hb.2 u v h2
    exact ⟨by rw [h1, h3], h4⟩
end
theorem leaf_block : ¬ (Str.ofString "leaf" = Str.ofString "block") := by decide +kernel
mutual
theorem ndA_inj : ∀ (a b : Nd), ndA a = ndA b → a = b
  | .leaf e, .leaf e', h => by
    rw [ndA_leaf, ndA_leaf] at h
    simp at h
    rw [h]
  | .leaf e, .run b t, h => by rw [ndA_leaf, ndA_run] at h; simp at h
  | .leaf e, .blk cs, h => by rw [ndA_leaf, ndA_blk] at h; simp at h; exact absurd h.1 leaf_block
  | .run b t, .leaf e, h => by rw [ndA_leaf, ndA_run] at h; simp at h
  | .run b t, .run b' t', h => by
    rw [ndA_run, ndA_run] at h
    simp at h
    have ht : t = t' := Int.ofNat_inj.mp h.2
    rw [ndA_inj b b' h.1, ht]
  | .run b t, .blk cs, h => by rw [ndA_run, ndA_blk] at h; simp at h
  | .blk cs, .leaf e, h => by rw [ndA_leaf, ndA_blk] at h; simp at h
  | .blk cs, .run b t, h => by rw [ndA_run, ndA_blk] at h; simp at h
  | .blk cs, .blk ds, h => by
    rw [ndA_blk, ndA_blk, ← ndAs_map, ← ndAs_map] at h
    simp at h
    rw [ndAs_inj cs ds h]
theorem ndAs_inj : ∀ (as bs : List Nd), ndAs as = ndAs bs → as = bs
  | [], [], _ => rfl
  | [], _ :: _, h => by simp [ndAs] at h
  | _ :: _, [], h => by simp [ndAs] at h
  | a :: as, b :: bs, h => by
    simp only [ndAs, List.cons.injEq] at h
    rw [ndA_inj a b h.1, ndAs_inj as bs h.2]
end
open Classical in
theorem w_eqC {a b : A} {st : Store} {Q : A → Store → Prop} (ha : Cmp 60 a) (hb : Cmp 60 b) (k : Q (.bl (decide (a = b))) st) : (eqA a b st).wp Q := by
  unfold eqA
  rw [eqB_clean ha.cl hb.cl (by have := ha.dp; omega) (by have := hb.dp; omega)]
  simpa using k
open Classical in
theorem w_neC {a b : A} {st : Store} {Q : A → Store → Prop} (ha : Cmp 60 a) (hb : Cmp 60 b) (k : Q (.bl (!decide (a = b))) st) : (neA a b st).wp Q := by
  unfold neA
  rw [eqB_clean ha.cl hb.cl (by have := ha.dp; omega) (by have := hb.dp; omega)]
  simpa using k

/-- a drawn item -/
structure It1 (nd : Nd) : Prop where
  ok : okN nd
  sz : szN nd ≤ 2000
  dp : dpN nd ≤ 28
theorem It1.len {nd : Nd} (h : It1 nd) : (codeN nd).length ≤ 300000 := by
  have := codeN_len nd h.ok
  have h1 := h.sz
  have h2 := h.dp
  have h3 : (45 + 3 * dpN nd) * szN nd ≤ 129 * 2000 := Nat.mul_le_mul (by omega) h1
  omega
theorem It1.cmp {nd : Nd} (h : It1 nd) : Cmp 60 (ndA nd) := (nd_cmp nd h.ok).mono (by have := h.dp; omega)
/-- a row of items: neighbours are unlike -/
structure Row (xs : List Nd) : Prop where
  it : ∀ c ∈ xs, It1 c
  ap : ∀ (i : Nat) a b, xs[i]? = some a → xs[i + 1]? = some b → a ≠ b
theorem Row.add {xs : List Nd} {c : Nd} (h : Row xs) (hc : It1 c) (hl : ∀ a, xs[xs.length - 1]? = some a → 1 ≤ xs.length → a ≠ c) : Row (xs ++ [c]) := by
  refine ⟨fun d hd => ?_, fun i a b h1 h2 => ?_⟩
  · rcases List.mem_append.mp hd with z | z
    · exact h.it d z
    · simp at z
      subst z
      exact hc
  · have hi := (List.getElem?_eq_some_iff.mp h2).1
    simp at hi
    rw [List.getElem?_append_left (by omega)] at h1
    by_cases q : i + 1 < xs.length
    · rw [List.getElem?_append_left q] at h2
      exact h.ap i a b h1 h2
    · have e : i + 1 = xs.length := by omega
      rw [List.getElem?_append_right (by omega), e, Nat.sub_self] at h2
      simp at h2
      subst h2
      exact hl a (by rw [← e]; simpa using h1) (by omega)
def ItI (many : Int) (q : Nat) (st0 : Store) (i : Nat) (ρ : ML.Env) (st : Store) : Prop := ∃ (xs : List Nd) (p : Nd) (v4 v5 : Option A), Row xs ∧ xs.length ≤ i ∧ okN p ∧ szN p ≤ 8 ∧ dpN p ≤ 6 ∧ TpOk st ∧ st0.length ≤ st.length ∧ (∀ r ys, stL st0 r = some ys → r ≠ 0 → r ≠ 1 → stL st r = some ys ∧ r ≠ q) ∧ 1 < q ∧ stL st q = some (xs.map ndA) ∧ ρ = [some (.ref 1), some (.int many), some (.ref q), some (ndA p), v4, v5]
theorem last_nd {xs : List Nd} (h : 1 ≤ xs.length) : atI (xs.map ndA) (-1) = some (ndA (xs[xs.length - 1]'(by omega))) := by
  have e : ixN (xs.map ndA).length (-1) = some (xs.length - 1) := by
    unfold ixN
    rw [if_neg (by decide), List.length_map, if_pos (by omega)]
    congr 1
    omega
  unfold atI
  rw [e]
  show (xs.map ndA)[xs.length - 1]? = _
  rw [List.getElem?_map, List.getElem?_eq_getElem (by omega)]
  rfl
theorem items_wp {many : Int} {st : Store} {Q : A → Store → Prop} (t : TpOk st) (h0 : 0 ≤ many) (h1 : many ≤ 1000) (k : ∀ q xs st', Row xs → xs.length ≤ many.toNat → TpOk st' → (∀ r ys, stL st r = some ys → r ≠ 0 → r ≠ 1 → stL st' r = some ys ∧ r ≠ q) → 1 < q → stL st' q = some (xs.map ndA) → Q (.ref q) st') : (m_law_items [.ref 1, .int many] st).wp Q := by
  simp only [m_law_items]
  rw [wp_fn]
  refine ⟨rfl, ?_⟩
  simp only [List.map_cons, List.map_nil, List.cons_append, List.nil_append, List.replicate]
  have hlen := t.len
  refine seq_cut (fun ρ st' => st' = st ++ [.lst []] ∧ ρ = [some (.ref 1), some (.int many), some (.ref st.length), none, none, none]) ?_ ?_
  · simp [sizeLine]
  rintro ρ st1 ⟨e1, rfl⟩
  refine seq_cut (fun ρ st' => st' = st1 ∧ ρ = [some (.ref 1), some (.int many), some (.ref st.length), some (ndA (.leaf (.int 7))), none, none]) ?_ ?_
  · rw [ndA_leaf]
    simp [sizeLine]
  rintro ρ st2 ⟨e2, rfl⟩
  subst e2
  refine seq_cut (ItI many st.length st many.toNat) ?_ ?_
  · simp only [sp_for, wp_rng, wp_cons, wp_nil, wp_call, wp_bin, wp_var, wp_c, List.getElem?_cons_succ, List.getElem?_cons_zero, Option.some.injEq, ex_eq, w_add]
    have t1 : TpOk st2 := by rw [e1]; exact t.grown (.one _ _)
    refine draw_wp t1 (by omega) fun n st3 na nb t3 k3 l3 => ?_
    rw [w_rng1]
    refine ⟨by omega, ?_⟩
    have hq : stL st3 st.length = some (([] : List Nd).map ndA) := k3.stL (by omega) (by rw [e1]; simp)
    refine for_rng (ItI many st.length st) ⟨[], .leaf (.int 7), none, none, ⟨by simp, by simp⟩, by simp, by simp only [okN]; exact .inl (.inr ⟨7, rfl, by omega, by omega⟩), by simp only [szN]; omega, by simp only [dpN]; omega, t3, by rw [l3, e1]; simp, fun r ys hr r0 r1 => ⟨k3.stL (by omega) (by rw [e1]; exact Grown.stL (.one _ _) hr), by have := (List.getElem?_eq_some_iff.mp (stL_eq hr)).1; omega⟩, by omega, hq, rfl⟩ ?_ ?_
    · rintro i ρ st4 hi ⟨xs, p, v4, v5, hR, hx, p1, p2, p3, t4, hl4, hk4, hq1, hq4, rfl⟩
      refine ⟨_, rfl, ?_⟩
      have stay : ∀ st5, Kp st4 st5 → (∀ r ys, stL st r = some ys → r ≠ 0 → r ≠ 1 → stL st5 r = some ys ∧ r ≠ st.length) := fun st5 k5 r ys hr r0 r1 => ⟨k5.stL (by omega) (hk4 r ys hr r0 r1).1, (hk4 r ys hr r0 r1).2⟩
      simp only [List.set_cons_succ, List.set_cons_zero]
      refine seq_cut (fun ρ st5 => ∃ p : Nd, okN p ∧ szN p ≤ 8 ∧ dpN p ≤ 6 ∧ TpOk st5 ∧ Kp st4 st5 ∧ ρ = [some (.ref 1), some (.int many), some (.ref st.length), some (ndA p), some (.int (0 + (i : Nat))), v5]) ?_ ?_
      · simp only [sp_ifs, wp_gb, wp_bin, wp_call, wp_cons, wp_nil, wp_var, wp_c, List.getElem?_cons_succ, List.getElem?_cons_zero, Option.some.injEq, ex_eq]
        refine draw_wp t4 (by decide) fun c st5 ca cb t5 k5 l5 => ?_
        simp only [w_eq, w_getB, decide_eq_true_eq]
        split
        · simp only [sp_set, wp_call, wp_cons, wp_nil, wp_var, wp_c, List.getElem?_cons_succ, List.getElem?_cons_zero, Option.some.injEq, ex_eq, List.set_cons_succ, List.set_cons_zero]
          refine draw_wp t5 (by decide) fun d st6 da db t6 k6 l6 => ?_
          obtain ⟨d', rfl, hd'⟩ : ∃ d' : Nat, d = (d' : Int) ∧ d' < 3 := ⟨d.toNat, by omega, by omega⟩
          exact (nodes_wp 40).2 d' 8 _ _ t6 (by omega) (by omega) (by omega) (by omega) fun nd st7 o1 o2 o3 t7 k7 => ⟨nd, o1, o2, by omega, t7, (k5.trans k6).trans k7, rfl⟩
        · exact ⟨p, p1, p2, p3, t5, k5, rfl⟩
      rintro ρ st5 ⟨p, p1, p2, p3, t5, k5, rfl⟩
      refine seq_cut (fun ρ st6 => st6 = st5 ∧ ρ = [some (.ref 1), some (.int many), some (.ref st.length), some (ndA p), some (.int (0 + (i : Nat))), some (ndA p)]) ?_ ?_
      · simp
      rintro ρ st6 ⟨e6, rfl⟩
      subst e6
      refine seq_cut (fun ρ st7 => ∃ it : Nd, It1 it ∧ TpOk st7 ∧ Kp st4 st7 ∧ ρ = [some (.ref 1), some (.int many), some (.ref st.length), some (ndA p), some (.int (0 + (i : Nat))), some (ndA it)]) ?_ ?_
      · simp only [sp_ifs, wp_gb, wp_bin, wp_call, wp_cons, wp_nil, wp_var, wp_c, List.getElem?_cons_succ, List.getElem?_cons_zero, Option.some.injEq, ex_eq]
        refine draw_wp t5 (by decide) fun c st7 ca cb t7 k7 l7 => ?_
        simp only [w_eq, w_getB, decide_eq_true_eq]
        split
        · simp only [sp_set, wp_call, wp_cons, wp_nil, wp_var, List.getElem?_cons_succ, List.getElem?_cons_zero, Option.some.injEq, ex_eq, List.set_cons_succ, List.set_cons_zero]
          exact near_node_wp 40 p _ _ t7 p1 (by omega) fun nd st8 o1 o2 o3 t8 k8 => ⟨nd, ⟨o1, by omega, by omega⟩, t8, (k5.trans k7).trans k8, rfl⟩
        · exact ⟨p, ⟨p1, by omega, by omega⟩, t7, k5.trans k7, rfl⟩
      rintro ρ st7 ⟨it, hit, t7, k7, rfl⟩
      have hq7 := k7.stL hq1 hq4
      have hfin : Row (xs ++ [it]) → ItI many st.length st (i + 1) [some (.ref 1), some (.int many), some (.ref st.length), some (ndA p), some (.int (0 + (i : Nat))), some (ndA it)] (st7.set st.length (.lst (xs.map ndA ++ [ndA it]))) := fun hR' => by
        refine ⟨xs ++ [it], p, _, _, hR', by simp; omega, p1, p2, p3, ?_, by have := k7.len; simp; omega, ?_, hq1, ?_, rfl⟩
        · obtain ⟨ms, p', r, q', z0, z1, z2⟩ := t7.ex
          exact ⟨ms, p', r, q', z0, by rw [List.getElem?_set_ne (by omega)]; exact z1, by rw [List.getElem?_set_ne (by omega)]; exact z2⟩
        · intro r ys hr r0 r1
          obtain ⟨a1, a2⟩ := stay st7 k7 r ys hr r0 r1
          exact ⟨by rw [stL_set_ne (by omega)]; exact a1, a2⟩
        · rw [stL_set_self hq7]
          simp
      have hskip : ItI many st.length st (i + 1) [some (.ref 1), some (.int many), some (.ref st.length), some (ndA p), some (.int (0 + (i : Nat))), some (ndA it)] st7 := ⟨xs, p, _, _, hR, by omega, p1, p2, p3, t7, by have := k7.len; omega, stay st7 k7, hq1, hq7, rfl⟩
      have hsz : (xs.map ndA).length < sizeLine := by simp only [List.length_map, sizeLine]; omega
      by_cases hn : xs = []
      · subst hn
        have := hfin (hR.add hit (fun a h1 h2 => by simp at h2))
        simp [hq7]
        simpa using this
      · have hlen1 : 1 ≤ xs.length := List.length_pos_iff.mpr hn
        have hlast := last_nd hlen1
        have hmem : xs[xs.length - 1] ∈ xs := List.getElem_mem _
        have he : (xs.map ndA).isEmpty = false := by cases xs <;> simp_all
        simp only [sp_ifs, wp_or, wp_not, wp_tru, wp_var, List.getElem?_cons_succ, List.getElem?_cons_zero, Option.some.injEq, ex_eq, w_truL, hq7, he, Bool.not_false, Bool.not_true, Bool.false_eq_true, if_false, wp_gb, wp_bin, wp_un, wp_c, w_neg, w_ixL, hlast]
        refine w_neC hit.cmp (hR.it _ hmem).cmp ?_
        simp only [w_getB]
        split
        · rename_i hne
          have hne' : ¬ ndA it = ndA xs[xs.length - 1] := by simpa using hne
          have := hfin (hR.add hit (fun a h1 h2 => by
            rw [List.getElem?_eq_getElem (by omega)] at h1
            cases h1
            exact fun e => hne' (by rw [e])))
          simp [hq7]
          exact ⟨by simpa [sizeLine] using hsz, by simpa using this⟩
        · exact hskip
    · rintro ρ st4 ⟨xs, p, v4, v5, hR, hx, p1, p2, p3, t4, hl4, hk4, hq1, hq4, rfl⟩
      exact ⟨xs, p, v4, v5, hR, by omega, p1, p2, p3, t4, hl4, hk4, hq1, hq4, rfl⟩
  rintro ρ st4 ⟨xs, p, v4, v5, hR, hx, p1, p2, p3, t4, hl4, hk4, hq1, hq4, rfl⟩
  simp
  exact k _ xs st4 hR hx t4 hk4 hq1 hq4
@[simp] theorem w_iadd {i j : Int} {st : Store} {Q : A → Store → Prop} : (iaddA (.int i) (.int j) st).wp Q ↔ Q (.int (i + j)) st := Iff.rfl
/-- the first place where two codes differ -/
def fd : List Int → List Int → Nat
  | x :: xs, y :: ys => if x = y then fd xs ys + 1 else 0
  | _, _ => 0
theorem fd_nil (m : List Int) : fd [] m = 0 := by cases m <;> rfl
theorem fd_lt : ∀ {l m : List Int} {i : Nat}, i < fd l m → ∃ x, l[i]? = some x ∧ m[i]? = some x
  | [], m, i, h => by rw [fd_nil] at h; omega
  | x :: xs, [], i, h => by simp [fd] at h
  | x :: xs, y :: ys, i, h => by
    simp only [fd] at h
    split at h
    · rename_i e
      cases i with
      | zero => exact ⟨x, rfl, by rw [e]; rfl⟩
      | succ i =>
        obtain ⟨z, h1, h2⟩ := fd_lt (l := xs) (m := ys) (i := i) (by omega)
        exact ⟨z, by simpa using h1, by simpa using h2⟩
    · omega
theorem fd_at : ∀ {l m : List Int}, ¬ com l m → ∃ x y, l[fd l m]? = some x ∧ m[fd l m]? = some y ∧ x ≠ y
  | [], m, h => absurd (by cases m <;> trivial) h
  | x :: xs, [], h => absurd (com_nil _) h
  | x :: xs, y :: ys, h => by
    by_cases e : x = y
    · have h2 : ¬ com xs ys := fun z => h ⟨e, z⟩
      obtain ⟨a, b, h3, h4, h5⟩ := fd_at h2
      refine ⟨a, b, ?_, ?_, h5⟩
      · simp only [fd, if_pos e]
        simpa using h3
      · simp only [fd, if_pos e]
        simpa using h4
    · exact ⟨x, y, by simp only [fd, if_neg e]; rfl, by simp only [fd, if_neg e]; rfl, e⟩
def coinV (b c : List Int) : Int := 65536 * (fd b c : Nat) + c.getD (fd b c) 0
/-- before and a code: nothing yet, or unlike -/
def Bef (b c : List Int) : Prop := b = [] ∨ ¬ com b c
theorem bef_in {b c : List Int} (h : Bef b c) (hc : c ≠ []) : fd b c < c.length := by
  rcases h with rfl | h
  · rw [fd_nil]
    exact List.length_pos_iff.mpr hc
  · obtain ⟨x, y, _, h2, _⟩ := fd_at h
    exact (List.getElem?_eq_some_iff.mp h2).1
def FdI (b c : List Int) (st0 : Store) (ρ : ML.Env) (st : Store) : Prop := ∃ p : Nat, st = st0 ∧ p ≤ fd b c ∧ ρ = [some (.tup (b.map A.int)), some (.tup (c.map A.int)), some (.int (p : Int))]
theorem first_wp {b c : List Int} {st : Store} {Q : A → Store → Prop} (h : Bef b c) (k : Q (.int ((fd b c : Nat) : Int)) st) : (m_first_difference [.tup (b.map A.int), .tup (c.map A.int)] st).wp Q := by
  simp only [m_first_difference]
  rw [wp_fn]
  refine ⟨rfl, ?_⟩
  simp only [List.map_cons, List.map_nil, List.cons_append, List.nil_append, List.replicate]
  refine seq_cut (FdI b c st) ?_ ?_
  · simp
    exact ⟨0, rfl, by omega, rfl⟩
  intro ρ st1 h1
  refine seq_cut (fun ρ st2 => st2 = st ∧ ρ = [some (.tup (b.map A.int)), some (.tup (c.map A.int)), some (.int ((fd b c : Nat) : Int))]) ?_ ?_
  · refine while_wp (FdI b c st) (fun ρ _ => match ρ with
      | [_, _, some (.int p)] => fd b c - p.toNat
      | _ => 0) ?_ h1
    rintro ρ st2 ⟨p, rfl, hp, rfl⟩
    simp only [wp_and, wp_gb, wp_bin, wp_var, wp_ca, wp_cons, wp_nil, List.getElem?_cons_succ, List.getElem?_cons_zero, Option.some.injEq, ex_eq, w_lenT, List.length_map, w_lt, w_getB, decide_eq_true_eq]
    split
    · rename_i hlt
      have hlt' : p < b.length := by omega
      rcases h with rfl | h
      · simp at hlt'
      obtain ⟨x, y, f1, f2, f3⟩ := fd_at h
      have hpc : p < c.length := by
        have := (List.getElem?_eq_some_iff.mp f2).1
        omega
      have a1 := ints_get (cs := b) (j := p) (i := (p : Int)) hlt' rfl
      have a2 := ints_get (cs := c) (j := p) (i := (p : Int)) hpc rfl
      simp only [w_ixT, a1, a2, Option.some.injEq, ex_eq, w_eq, w_getB, decide_eq_true_eq]
      by_cases hq : p < fd b c
      · obtain ⟨z, z1, z2⟩ := fd_lt hq
        have e1 : b.getD p 0 = c.getD p 0 := by simp [List.getD_eq_getElem?_getD, z1, z2]
        rw [if_pos e1]
        simp
        exact ⟨⟨p + 1, rfl, by omega, by simp⟩, by omega⟩
      · have e : p = fd b c := by omega
        have e1 : ¬ b.getD p 0 = c.getD p 0 := by
          rw [e]
          simp only [List.getD_eq_getElem?_getD, f1, f2, Option.getD_some]
          exact f3
        rw [if_neg e1]
        exact ⟨trivial, by rw [e]⟩
    · rename_i hge
      have : p = fd b c := by
        rcases h with rfl | h
        · rw [fd_nil] at hp ⊢
          omega
        · obtain ⟨x, y, f1, _, _⟩ := fd_at h
          have := (List.getElem?_eq_some_iff.mp f1).1
          omega
      exact ⟨trivial, by rw [this]⟩
  rintro ρ st2 ⟨rfl, rfl⟩
  simpa using k
theorem coin_wp {b c : List Int} {st : Store} {Q : A → Store → Prop} (h : Bef b c) (hc : c ≠ []) (hl : c.length ≤ 1000000) (k : Q (.int (coinV b c)) st) : (m_coin_after [.tup (b.map A.int), .tup (c.map A.int)] st).wp Q := by
  simp only [m_coin_after]
  rw [wp_fn]
  refine ⟨rfl, ?_⟩
  simp only [List.map_cons, List.map_nil, List.cons_append, List.nil_append, List.replicate]
  refine seq_cut (fun ρ st2 => st2 = st ∧ ρ = [some (.tup (b.map A.int)), some (.tup (c.map A.int)), some (.int ((fd b c : Nat) : Int))]) ?_ ?_
  · simp
    exact first_wp h ⟨rfl, rfl⟩
  rintro ρ st2 ⟨rfl, rfl⟩
  have a2 := ints_get (cs := c) (j := fd b c) (i := ((fd b c : Nat) : Int)) (bef_in h hc) rfl
  simp [-atI_nn, -List.getD_eq_getElem?_getD, a2]
  exact ⟨cmul_l (by decide) (by decide), k⟩
def bef (xs : List Nd) : Nat → List Int
  | 0 => []
  | i + 1 => (xs[i]?.map codeN).getD []
def cod (xs : List Nd) (i : Nat) : List Int := (xs[i]?.map codeN).getD []
def coinsN (xs : List Nd) : List Int := (List.range xs.length).map fun i => coinV (bef xs i) (cod xs i)
theorem cod_some {xs : List Nd} {i : Nat} {c : Nd} (h : xs[i]? = some c) : cod xs i = codeN c := by simp [cod, h]
theorem nd_ne {nd : Nd} (h : okN nd) : codeN nd ≠ [] := by
  obtain ⟨t, r, e, _⟩ := nd_tag h
  rw [e]
  simp
theorem row_bef {xs : List Nd} (h : Row xs) {i : Nat} {c : Nd} (hi : xs[i]? = some c) : Bef (bef xs i) (codeN c) := by
  cases i with
  | zero => exact .inl rfl
  | succ i =>
    have hlt := (List.getElem?_eq_some_iff.mp hi).1
    have e : xs[i]? = some xs[i] := List.getElem?_eq_getElem (by omega)
    refine .inr ?_
    simp only [bef, e, Option.map_some, Option.getD_some]
    intro z
    have := (nd_com xs[i] c (h.it _ (List.getElem_mem _)).ok (h.it _ (List.mem_of_getElem? hi)).ok [] [] (by simpa using z)).1
    exact h.ap i _ _ e hi this
theorem coins_len (xs : List Nd) : (coinsN xs).length = xs.length := by simp [coinsN]
theorem coins_get {xs : List Nd} {i : Nat} (h : i < xs.length) : (coinsN xs)[i]? = some (coinV (bef xs i) (cod xs i)) := by
  simp [coinsN, h]
theorem coins_take {xs : List Nd} {i : Nat} (h : i < xs.length) : (coinsN xs).take (i + 1) = (coinsN xs).take i ++ [coinV (bef xs i) (cod xs i)] := by
  rw [List.take_add_one, coins_get h]
  rfl
theorem grown_set' {a b : Store} {r : Nat} {o : Ob} (h : Grown a b) (hr : a.length ≤ r) : Grown a (b.set r o) := by
  obtain ⟨g, rfl⟩ := h
  exact ⟨g.set (r - a.length) o, by rw [List.set_append_right _ _ hr]⟩
def CcI (xs : List Nd) (q : Nat) (st0 : Store) (r : Nat) (i : Nat) (ρ : ML.Env) (st : Store) : Prop := ∃ v : Option A, Grown st0 st ∧ stL st q = some (xs.map fun c => A.tup ((codeN c).map A.int)) ∧ stL st r = some (((coinsN xs).take i).map A.int) ∧ q ≠ r ∧ ρ = [some (.ref q), some (.ref r), some (.tup ((bef xs i).map A.int)), v]
theorem codes_wp {xs : List Nd} {q : Nat} {st : Store} {Q : A → Store → Prop} (h : Row xs) (hl : xs.length ≤ 10000) (hq : stL st q = some (xs.map fun c => A.tup ((codeN c).map A.int))) (k : ∀ st', Grown st st' → Q (.tup ((coinsN xs).map A.int)) st') : (m_coins_of_codes [.ref q] st).wp Q := by
  simp only [m_coins_of_codes]
  rw [wp_fn]
  refine ⟨rfl, ?_⟩
  simp only [List.map_cons, List.map_nil, List.cons_append, List.nil_append, List.replicate]
  have hlt := (List.getElem?_eq_some_iff.mp (stL_eq hq)).1
  refine seq_cut (fun ρ st' => st' = st ++ [.lst []] ∧ ρ = [some (.ref q), some (.ref st.length), none, none]) ?_ ?_
  · simp [sizeLine]
  rintro ρ st1 ⟨e1, rfl⟩
  refine seq_cut (fun ρ st' => st' = st1 ∧ ρ = [some (.ref q), some (.ref st.length), some (.tup []), none]) ?_ ?_
  · simp [sizeLine]
  rintro ρ st2 ⟨e2, rfl⟩
  have hq2 : stL st2 q = some (xs.map fun c => A.tup ((codeN c).map A.int)) := by
    rw [e2, e1]
    exact Grown.stL (.one _ _) hq
  refine seq_cut (CcI xs q st st.length xs.length) ?_ ?_
  · simp only [sp_for, wp_src, wp_var, List.getElem?_cons_zero, Option.some.injEq, ex_eq, w_srcL, hq2]
    refine ⟨rfl, ?_⟩
    refine for_lst (CcI xs q st st.length) (xs := xs.map fun c => A.tup ((codeN c).map A.int)) hq2 ⟨none, by rw [e2, e1]; exact .one _ _, hq2, by rw [e2, e1]; simp, by omega, rfl⟩ ?_ ?_ ?_
    · rintro i ρ st3 ⟨v, g, h1, h2, h3, rfl⟩
      exact h1
    · rintro i x ρ st3 hx ⟨v, g, h1, h2, h3, rfl⟩
      refine ⟨_, rfl, ?_⟩
      rw [List.getElem?_map] at hx
      obtain ⟨c, hc', rfl⟩ := Option.map_eq_some_iff.mp hx
      have hi := (List.getElem?_eq_some_iff.mp hc').1
      have hit := h.it c (List.mem_of_getElem? hc')
      have hln := hit.len
      simp only [List.set_cons_succ, List.set_cons_zero, sp_seq, sp_expr, wp_bm, wp_var, wp_cons, wp_nil, wp_call, List.getElem?_cons_succ, List.getElem?_cons_zero, Option.some.injEq, ex_eq, isL_ref, h2, Option.isSome_some]
      refine ⟨trivial, ?_⟩
      refine coin_wp (row_bef h hc') (nd_ne hit.ok) (by omega) ?_
      rw [w_append]
      refine ⟨_, h2, by simp [coins_len, sizeLine]; omega, ?_⟩
      simp
      refine ⟨some (.tup ((codeN c).map A.int)), grown_set' g (Nat.le_refl _), by rw [stL_set_ne (Ne.symm h3)]; exact h1, ?_, h3, ?_⟩
      · rw [stL_set_self h2, coins_take hi, cod_some hc']
        simp
      · simp [bef, hc']
    · rintro ρ st3 ⟨v, g, h1, h2, h3, rfl⟩
      exact ⟨v, g, h1, by simpa using h2, h3, by simp⟩
  rintro ρ st3 ⟨v, g, h1, h2, h3, rfl⟩
  have e : (coinsN xs).take xs.length = coinsN xs := List.take_of_length_le (by rw [coins_len]; omega)
  rw [e] at h2
  simp [h2]
  exact k st3 g
theorem coins_wp {xs : List Nd} {st : Store} {Q : A → Store → Prop} (h : Row xs) (hl : xs.length ≤ 10000) (k : ∀ st', Grown st st' → Q (.tup ((coinsN xs).map A.int)) st') : (m_coins_of [.tup (xs.map ndA)] st).wp Q := by
  simp only [m_coins_of]
  simp
  refine lc_vals (fun i st' acc => Grown st st' ∧ acc = (xs.take i).map fun c => A.tup ((codeN c).map A.int)) ⟨.refl _, by simp⟩ ?_ ?_
  · rintro i x st' acc hx ⟨g, rfl⟩
    refine ⟨_, rfl, ?_⟩
    rw [List.getElem?_map] at hx
    obtain ⟨c, hc', rfl⟩ := Option.map_eq_some_iff.mp hx
    have hit := h.it c (List.mem_of_getElem? hc')
    have hln := hit.len
    simp
    refine node_code_wp 40 c st' _ hit.ok (by have := hit.dp; omega) (by omega) fun st2 g2 => ?_
    refine ⟨by omega, g.trans g2, ?_⟩
    have := take_succ_map (f := fun c => A.tup ((codeN c).map A.int)) hc'
    rw [List.map_take, List.map_take] at this
    exact this
  · rintro st' acc ⟨g, rfl⟩
    have e : List.take (xs.map ndA).length xs = xs := List.take_of_length_le (by simp)
    rw [e]
    exact codes_wp h hl (by simp) fun st2 g2 => k st2 (g.trans ((Grown.one _ _).trans g2))
def LcnI (b c : List Int) (rb rc : Nat) (st0 : Store) (i : Nat) (ρ : ML.Env) (st : Store) : Prop := ∃ v : Option A, st = st0 ∧ (b ≠ [] → i ≤ fd b c) ∧ ρ = [some (.ref rb), some (.ref rc), v]
theorem law_coin_wp {b c : List Int} {rb rc : Nat} {st : Store} {Q : A → Store → Prop} (h : Bef b c) (hc : c ≠ []) (hb : stL st rb = some (b.map A.int)) (hr : stL st rc = some (c.map A.int)) (hl : b.length ≤ 1000000) (hl2 : c.length ≤ 1000000) (k : Q (.int (coinV b c)) st) : (m_law_coin [.ref rb, .ref rc] st).wp Q := by
  simp only [m_law_coin]
  rw [wp_fn]
  refine ⟨rfl, ?_⟩
  simp only [List.map_cons, List.map_nil, List.cons_append, List.nil_append, List.replicate]
  have hcp := List.length_pos_iff.mpr hc
  refine seq_cutR (fun ρ st2 => st2 = st ∧ b = [] ∧ ∃ v : Option A, ρ = [some (.ref rb), some (.ref rc), v]) ?_ ?_
  · simp only [sp_for, wp_rng, wp_ca, wp_cons, wp_nil, wp_var, List.getElem?_cons_succ, List.getElem?_cons_zero, Option.some.injEq, ex_eq, w_lenL, hb, hr, List.length_map, w_min2]
    obtain ⟨mn, hmn, h1, h2, h3⟩ : ∃ mn : Nat, (if (c.length : Int) < (b.length : Int) then (c.length : Int) else (b.length : Int)) = (mn : Int) ∧ mn ≤ b.length ∧ mn ≤ c.length ∧ (mn = b.length ∨ mn = c.length) := ⟨min b.length c.length, by split <;> omega, by omega, by omega, by omega⟩
    rw [hmn, w_rng1]
    refine ⟨by omega, ?_⟩
    rw [Int.toNat_natCast]
    refine for_rng (LcnI b c rb rc st) ⟨none, rfl, fun _ => by omega, rfl⟩ ?_ ?_
    · rintro i ρ st2 hi ⟨v, rfl, hfd, rfl⟩
      refine ⟨_, rfl, ?_⟩
      rcases h with rfl | h
      · simp at h1
        omega
      have hbn : b ≠ [] := by
        intro z
        subst z
        simp at h1
        omega
      have hfd' := hfd hbn
      obtain ⟨x, y, f1, f2, f3⟩ := fd_at h
      have a1 := ints_get (cs := b) (j := i) (i := 0 + (i : Int)) (by omega) (by omega)
      have a2 := ints_get (cs := c) (j := i) (i := 0 + (i : Int)) (by omega) (by omega)
      simp only [List.set_cons_succ, List.set_cons_zero, sp_ifs, wp_gb, wp_bin, wp_var, List.getElem?_cons_succ, List.getElem?_cons_zero, Option.some.injEq, ex_eq, w_ixL, hb, hr, a1, a2, w_ne, w_getB]
      by_cases hq : i < fd b c
      · obtain ⟨z, z1, z2⟩ := fd_lt hq
        have e1 : b.getD i 0 = c.getD i 0 := by simp [List.getD_eq_getElem?_getD, z1, z2]
        simp [e1, -List.getD_eq_getElem?_getD]
        exact ⟨_, rfl, fun _ => by omega, rfl⟩
      · have e : i = fd b c := by omega
        have e1 : ¬ b.getD i 0 = c.getD i 0 := by
          rw [e]
          simp only [List.getD_eq_getElem?_getD, f1, f2, Option.getD_some]
          exact f3
        simp [e1, -List.getD_eq_getElem?_getD, hr, -atI_nn]
        have a3 := ints_get (cs := c) (j := i) (i := (i : Int)) (by omega) rfl
        simp [a3, -List.getD_eq_getElem?_getD, -atI_nn]
        refine ⟨cmul_l (by decide) (by decide), ?_⟩
        rw [e]
        exact k
    · rintro ρ st2 ⟨v, rfl, hfd, rfl⟩
      refine ⟨rfl, ?_, v, rfl⟩
      rcases h with h | h
      · exact h
      · obtain ⟨x, y, f1, f2, f3⟩ := fd_at h
        have q1 := (List.getElem?_eq_some_iff.mp f1).1
        have q2 := (List.getElem?_eq_some_iff.mp f2).1
        by_cases hbn : b = []
        · exact hbn
        · have := hfd hbn
          omega
  rintro ρ st2 ⟨rfl, rfl, v, rfl⟩
  have a2 := ints_get (cs := c) (j := 0) (i := 0) hcp rfl
  have e : coinV [] c = c.getD 0 0 := by simp [coinV, fd_nil]
  rw [e] at k
  simp only [sp_ret, wp_bin, wp_var, wp_c, List.getElem?_cons_succ, List.getElem?_cons_zero, Option.some.injEq, ex_eq, w_ixL, hr, a2]
  exact k
def LsI (xs : List Nd) (q r : Nat) (i : Nat) (ρ : ML.Env) (st : Store) : Prop := ∃ (rb : Nat) (v3 v4 : Option A), stL st q = some (xs.map ndA) ∧ stL st r = some (((coinsN xs).take i).map A.int) ∧ stL st rb = some ((bef xs i).map A.int) ∧ q ≠ r ∧ rb ≠ r ∧ ρ = [some (.ref q), some (.ref r), some (.ref rb), v3, v4]
theorem bef_len {xs : List Nd} (h : Row xs) (i : Nat) : (bef xs i).length ≤ 300000 := by
  cases i with
  | zero => simp [bef]
  | succ i =>
    simp only [bef]
    cases e : xs[i]? with
    | none => simp
    | some c =>
      simp
      exact (h.it c (List.mem_of_getElem? e)).len
theorem law_coins_wp {xs : List Nd} {q : Nat} {st : Store} {Q : A → Store → Prop} (h : Row xs) (hl : xs.length ≤ 10000) (hq : stL st q = some (xs.map ndA)) (k : ∀ r st', stL st' r = some ((coinsN xs).map A.int) → Q (.ref r) st') : (m_law_coins [.ref q] st).wp Q := by
  simp only [m_law_coins]
  rw [wp_fn]
  refine ⟨rfl, ?_⟩
  simp only [List.map_cons, List.map_nil, List.cons_append, List.nil_append, List.replicate]
  have hlt := (List.getElem?_eq_some_iff.mp (stL_eq hq)).1
  refine seq_cut (fun ρ st' => st' = st ++ [.lst []] ∧ ρ = [some (.ref q), some (.ref st.length), none, none, none]) ?_ ?_
  · simp [sizeLine]
  rintro ρ st1 ⟨e1, rfl⟩
  refine seq_cut (fun ρ st' => st' = (st ++ [.lst []]) ++ [.lst []] ∧ ρ = [some (.ref q), some (.ref st.length), some (.ref (st.length + 1)), none, none]) ?_ ?_
  · rw [e1]
    simp [sizeLine]
  rintro ρ st2 ⟨e2, rfl⟩
  have hq2 : stL st2 q = some (xs.map ndA) := by
    rw [e2]
    exact Grown.stL ((Grown.one _ _).trans (.one _ _)) hq
  have hr2 : stL st2 st.length = some [] := by
    rw [e2]
    exact Grown.stL (.one _ _) (by simp)
  have hb2 : stL st2 (st.length + 1) = some [] := by
    have : st.length + 1 = (st ++ [Ob.lst []]).length := by simp
    rw [e2, this]
    simp
  refine seq_cut (LsI xs q st.length xs.length) ?_ ?_
  · simp only [sp_for, wp_src, wp_var, List.getElem?_cons_zero, Option.some.injEq, ex_eq, w_srcL, hq2]
    refine ⟨rfl, ?_⟩
    refine for_lst (LsI xs q st.length) (xs := xs.map ndA) hq2 ⟨st.length + 1, none, none, hq2, by simpa using hr2, hb2, by omega, by omega, rfl⟩ ?_ ?_ ?_
    · rintro i ρ st3 ⟨rb, v3, v4, h1, h2, h3, h4, h5, rfl⟩
      exact h1
    · rintro i x ρ st3 hx ⟨rb, v3, v4, h1, h2, h3, h4, h5, rfl⟩
      refine ⟨_, rfl, ?_⟩
      rw [List.getElem?_map] at hx
      obtain ⟨c, hc', rfl⟩ := Option.map_eq_some_iff.mp hx
      have hi := (List.getElem?_eq_some_iff.mp hc').1
      have hit := h.it c (List.mem_of_getElem? hc')
      have hln := hit.len
      simp only [List.set_cons_succ, List.set_cons_zero]
      refine seq_cut (fun ρ st4 => ∃ rc : Nat, Grown st3 st4 ∧ stL st4 rc = some ((codeN c).map A.int) ∧ rc ≠ st.length ∧ ρ = [some (.ref q), some (.ref st.length), some (.ref rb), some (ndA c), some (.ref rc)]) ?_ ?_
      · simp only [sp_set, wp_call, wp_cons, wp_nil, wp_var, List.getElem?_cons_succ, List.getElem?_cons_zero, Option.some.injEq, ex_eq, List.set_cons_succ, List.set_cons_zero]
        refine law_node_code_wp 40 c st3 _ hit.ok (by have := hit.dp; omega) (by omega) fun rc st4 g4 e4 l4 => ?_
        have := (List.getElem?_eq_some_iff.mp (stL_eq h2)).1
        exact ⟨rc, g4, e4, by omega, rfl⟩
      rintro ρ st4 ⟨rc, g4, e4, l4, rfl⟩
      have h1' := g4.stL h1
      have h2' := g4.stL h2
      have h3' := g4.stL h3
      simp only [sp_seq, sp_expr, wp_bm, wp_var, wp_cons, wp_nil, wp_call, List.getElem?_cons_succ, List.getElem?_cons_zero, Option.some.injEq, ex_eq, isL_ref, h2', Option.isSome_some]
      refine ⟨trivial, ?_⟩
      refine law_coin_wp (row_bef h hc') (nd_ne hit.ok) h3' e4 (by have := bef_len h i; omega) (by omega) ?_
      rw [w_append]
      refine ⟨_, h2', by simp [coins_len, sizeLine]; omega, ?_⟩
      simp only [sp_set, wp_var, List.getElem?_cons_succ, List.getElem?_cons_zero, Option.some.injEq, ex_eq, List.set_cons_succ, List.set_cons_zero]
      refine ⟨rc, _, _, by rw [stL_set_ne (Ne.symm h4)]; exact h1', ?_, ?_, h4, l4, rfl⟩
      · rw [stL_set_self h2', coins_take hi, cod_some hc']
        simp
      · rw [stL_set_ne (Ne.symm l4), e4]
        simp [bef, hc']
    · rintro ρ st3 ⟨rb, v3, v4, h1, h2, h3, h4, h5, rfl⟩
      exact ⟨rb, v3, v4, h1, by simpa using h2, by simpa using h3, h4, h5, by simp⟩
  rintro ρ st3 ⟨rb, v3, v4, h1, h2, h3, h4, h5, rfl⟩
  have e : (coinsN xs).take xs.length = coinsN xs := List.take_of_length_le (by rw [coins_len]; omega)
  rw [e] at h2
  simp
  exact k _ st3 h2
/-- neighbours' coins are unlike -/
theorem coins_ne {xs : List Nd} (h : Row xs) {i : Nat} (hi : i + 1 < xs.length) : coinV (bef xs i) (cod xs i) ≠ coinV (bef xs (i + 1)) (cod xs (i + 1)) := by
  have e0 : xs[i]? = some xs[i] := List.getElem?_eq_getElem (by omega)
  have e1 : xs[i + 1]? = some xs[i + 1] := List.getElem?_eq_getElem hi
  have i0 := h.it _ (List.getElem_mem (show i < xs.length by omega))
  have i1 := h.it _ (List.getElem_mem hi)
  have b0 := row_bef h e0
  have b1 := row_bef h e1
  rw [cod_some e0, cod_some e1]
  have eb : bef xs (i + 1) = codeN xs[i] := by simp [bef, e0]
  rw [eb] at b1 ⊢
  have hn : ¬ com (codeN xs[i]) (codeN xs[i + 1]) := by
    rcases b1 with z | z
    · exact absurd z (nd_ne i0.ok)
    · exact z
  obtain ⟨x, y, f1, f2, f3⟩ := fd_at hn
  have p0 := bef_in b0 (nd_ne i0.ok)
  generalize fd (bef xs i) (codeN xs[i]) = p at *
  have s0 := small_codes.1 _ i0.ok
  have s1 := small_codes.1 _ i1.ok
  have g0 : (codeN xs[i])[fd (bef xs i) (codeN xs[i])]? = (codeN xs[i])[fd (bef xs i) (codeN xs[i])]? := rfl
  intro z
  unfold coinV at z
  have hq := bef_in b0 (nd_ne i0.ok)
  have u1 : ∃ u, (codeN xs[i]).getD (fd (bef xs i) (codeN xs[i])) 0 = u ∧ 0 ≤ u ∧ u ≤ 65535 := ⟨_, rfl, by
    rw [List.getD_eq_getElem?_getD, List.getElem?_eq_getElem hq]
    exact s0 _ (List.getElem_mem hq)⟩
  have u2 : (codeN xs[i + 1]).getD (fd (codeN xs[i]) (codeN xs[i + 1])) 0 = y := by rw [List.getD_eq_getElem?_getD, f2]; rfl
  have u3 := s1 y (List.mem_of_getElem? f2)
  obtain ⟨u, hu, hu1, hu2⟩ := u1
  rw [hu, u2] at z
  have hp : fd (bef xs i) (codeN xs[i]) = fd (codeN xs[i]) (codeN xs[i + 1]) := by omega
  have hy : u = y := by omega
  rw [hp, List.getD_eq_getElem?_getD, f1] at hu
  exact f3 (by simpa [hy] using hu)
end Law
/-! MP23: plain: contents drawn (rows of elements), the text that the tree laws use. Not together with MP21 (same name, other text). -/
namespace Law
open PySem L2 ML
def m_law_contents : MF := mFn 9 2 (mSeq (mSet 2 (mLc (mRng (mCons (mBin addA (mC (.int 1)) (mCall m_law_draw (mCons (mVar 0) (mCons (mC (.int 5)) mNil)))) mNil)) (.one 4) [4] mYes (mCall m_law_element (mCons (mVar 0) mNil))))
    (mSeq (mSet 3 (mLst mNil))
    (mSeq (mFor (mRng (mCons (mCall m_law_draw (mCons (mVar 0) (mCons (mC (.int 10)) mNil))) mNil)) (.one 4) (mSeq (mSet 5 (mCall m_law_draw (mCons (mVar 0) (mCons (mC (.int 5)) mNil))))
    (mIfS (mGB (mBin eqA (mVar 5) (mC (.int 0)))) (mSet 3 (mBin addA (mVar 3) (mBin mulA (mLst (mCons (mBin ixA (mVar 2) (mCall m_law_draw (mCons (mVar 0) (mCons (mCa lenA (mCons (mVar 2) mNil)) mNil)))) mNil)) (mBin addA (mC (.int 1)) (mCall m_law_draw (mCons (mVar 0) (mCons (mC (.int 9)) mNil))))))) (mIfS (mGB (mBin eqA (mVar 5) (mC (.int 1)))) (mSeq (mSet 6 (mCall m_law_draw (mCons (mVar 0) (mCons (mC (.int 30)) mNil))))
    (mSet 3 (mBin addA (mVar 3) (mLc (mRng (mCons (mBin addA (mC (.int 1)) (mCall m_law_draw (mCons (mVar 0) (mCons (mC (.int 14)) mNil)))) mNil)) (.one 8) [8] mYes (mBin addA (mVar 6) (mVar 8)))))) (mIfS (mGB (mBin eqA (mVar 5) (mC (.int 2)))) (mSeq (mSet 7 (mCall m_law_draw (mCons (mVar 0) (mCons (mBin addA (mCa lenA (mCons (mVar 3) mNil)) (mC (.int 1))) mNil))))
    (mSet 3 (mBin addA (mVar 3) (mSl (mVar 3) (mPart (mVar 7)) (mPart (mBin addA (mBin addA (mVar 7) (mC (.int 1))) (mCall m_law_draw (mCons (mVar 0) (mCons (mC (.int 20)) mNil))))))))) (mIfS (mGB (mBin eqA (mVar 5) (mC (.int 3)))) (mSet 3 (mBin addA (mVar 3) (mBin mulA (mBin addA (mSl (mVar 3) (mPart (mUn negA (mC (.int 2)))) mNoPart) (mLst (mCons (mBin ixA (mVar 2) (mCall m_law_draw (mCons (mVar 0) (mCons (mCa lenA (mCons (mVar 2) mNil)) mNil)))) mNil))) (mBin addA (mC (.int 1)) (mCall m_law_draw (mCons (mVar 0) (mCons (mC (.int 6)) mNil))))))) (mSet 3 (mBin addA (mVar 3) (mLc (mRng (mCons (mBin addA (mC (.int 1)) (mCall m_law_draw (mCons (mVar 0) (mCons (mC (.int 6)) mNil)))) mNil)) (.one 8) [8] mYes (mBin ixA (mVar 2) (mCall m_law_draw (mCons (mVar 0) (mCons (mCa lenA (mCons (mVar 2) mNil)) mNil)))))))))))))
    (mRet (mSl (mVar 3) mNoPart (mPart (mVar 1)))))))
/-- an item of the pool, drawn -/
theorem pick23_wp {q : Nat} {ps : List A} {st : Store} {Q : A → Store → Prop} (t : TpOk st) (hq : 1 < q) (hp : stL st q = some ps) (he : ∀ x ∈ ps, El x) (h1 : 1 ≤ ps.length) (h2 : ps.length ≤ 1000) (k : ∀ (x : A) st', El x → TpOk st' → Kp st st' → Q x st') :
    (m_law_draw [.ref 1, .int ps.length] st).wp fun a st1 => (ixA (.ref q) a st1).wp Q := by
  refine draw_wp t (by omega) fun n st1 na nb t1 k1 l1 => ?_
  rw [w_ixL]
  have hn : n.toNat < ps.length := by omega
  refine ⟨ps, k1.stL hq hp, ps[n.toNat], ?_, k _ _ (he _ (List.getElem_mem hn)) t1 k1⟩
  rw [atI_nn na]
  exact List.getElem?_eq_getElem hn
def Ct23I (most : Int) (q : Nat) (ps : List A) (st0 : Store) (i : Nat) (ρ : ML.Env) (st : Store) : Prop := ∃ (w : Nat) (xs : List A) (v4 v5 v6 v7 : Option A), TpOk st ∧ Kp st0 st ∧ stL st q = some ps ∧ st0.length ≤ w ∧ stL st w = some xs ∧ (∀ x ∈ xs, El x) ∧ xs.length ≤ 20 * i ∧ ρ = [some (.ref 1), some (.int most), some (.ref q), some (.ref w), v4, v5, v6, v7, none]
theorem mem_rep23 {x : A} {xs : List A} {n : Nat} (h : x ∈ (List.replicate n xs).flatten) : x ∈ xs := by
  rw [List.mem_flatten] at h
  obtain ⟨l, h1, h2⟩ := h
  rw [List.mem_replicate] at h1
  rw [h1.2] at h2
  exact h2
theorem cut_mem23 {x : A} {xs : List A} {lo hi : Option Int} (h : x ∈ cutA xs lo hi) : x ∈ xs := by
  unfold cutA at h
  exact List.mem_of_mem_drop (List.mem_of_mem_take h)
theorem cut_le23 {xs : List A} {lo hi : Option Int} : (cutA xs lo hi).length ≤ xs.length := by
  unfold cutA
  simp
  omega
theorem conts_wp {most : Int} {st : Store} {Q : A → Store → Prop} (t : TpOk st) (h0 : 0 ≤ most) (h1 : most ≤ 100000) (k : ∀ (r : Nat) (xs : List A) st', (∀ x ∈ xs, El x) → xs.length ≤ most.toNat → xs.length ≤ 200 → TpOk st' → Kp st st' → st.length ≤ r → stL st' r = some xs → Q (.ref r) st') : (m_law_contents [.ref 1, .int most] st).wp Q := by
  simp only [m_law_contents]
  rw [wp_fn]
  refine ⟨rfl, ?_⟩
  simp only [List.map_cons, List.map_nil, List.cons_append, List.nil_append, List.replicate, Nat.reduceSub]
  have hlen := t.len
  generalize hF : @mFor = F
  generalize hM : @mulA = M
  generalize hL : @mLc = L
  refine seq_cut (fun ρ st' => ∃ q ps, TpOk st' ∧ Kp st st' ∧ st.length ≤ q ∧ stL st' q = some ps ∧ (∀ x ∈ ps, El x) ∧ 1 ≤ ps.length ∧ ps.length ≤ 6 ∧ ρ = [some (.ref 1), some (.int most), some (.ref q), none, none, none, none, none, none]) ?_ ?_
  · subst hL
    simp only [sp_set, wp_lc, wp_rng, wp_bin, wp_call, wp_cons, wp_nil, wp_var, wp_c, List.getElem?_cons_succ, List.getElem?_cons_zero, Option.some.injEq, ex_eq, List.set_cons_zero, List.set_cons_succ, wipeA_cons, wipeA_nil]
    refine draw_wp t (by decide) fun n st1 na nb t1 k1 l1 => ?_
    rw [w_add, w_rng1]
    refine ⟨by omega, ?_⟩
    refine lc_rng (fun j st' acc => TpOk st' ∧ Kp st st' ∧ acc.length = j ∧ ∀ x ∈ acc, El x) ⟨t1, k1, rfl, by simp⟩ ?_ ?_
    · rintro j st' acc hj ⟨t', k', l', a'⟩
      refine ⟨_, rfl, ?_⟩
      simp only [wp_yes, if_true, wp_call, wp_cons, wp_nil, wp_var, List.set_cons_zero, List.set_cons_succ, List.getElem?_cons_succ, List.getElem?_cons_zero, Option.some.injEq, ex_eq]
      refine element_wp t' fun x st2 hx t2 k2 => ⟨by rw [size_eq]; omega, t2, k'.trans k2, by simp [l'], ?_⟩
      intro y hy
      rcases List.mem_append.mp hy with h | h
      · exact a' y h
      · simp at h
        subst h
        exact hx
    · rintro st' acc ⟨t', k', l', a'⟩
      exact ⟨st'.length, acc, t'.grown (.one _ _), k'.trans (Kp.grown (.one _ _)), k'.len, stL_new, a', by omega, by omega, rfl⟩
  rintro ρ st1 ⟨q, ps, t1, k1, q1, hq, pe, p1, p2, rfl⟩
  refine seq_cut (Ct23I most q ps st 0) ?_ ?_
  · simp only [sp_set, wp_lst, wp_nil, List.set_cons_zero, List.set_cons_succ]
    refine ⟨by simp [sizeLine], st1.length, [], none, none, none, none, t1.grown (.one _ _), k1.trans (Kp.grown (.one _ _)), Grown.stL (.one _ _) hq, k1.len, stL_new, by simp, by simp, rfl⟩
  rintro ρ st2 ⟨w, xs, v4, v5, v6, v7, t2, k2, hq2, w2, hw2, xe, xl, rfl⟩
  have q0 : 1 < q := by omega
  refine seq_cut (Ct23I most q ps st 9) ?_ ?_
  · subst hF
    simp only [sp_for, wp_rng, wp_call, wp_cons, wp_nil, wp_var, wp_c, List.getElem?_cons_succ, List.getElem?_cons_zero, Option.some.injEq, ex_eq]
    refine draw_wp t2 (by decide) fun n st3 na nb t3 k3 l3 => ?_
    rw [w_rng1]
    refine ⟨by omega, ?_⟩
    refine for_rng (Ct23I most q ps st) ⟨w, xs, v4, v5, v6, v7, t3, k2.trans k3, k3.stL q0 hq2, w2, k3.stL (by omega) hw2, xe, by omega, rfl⟩ ?_ ?_
    · rintro i ρ st4 hi ⟨w, xs, v4, v5, v6, v7, t4, k4, hq4, w4, hw4, xe, xl, rfl⟩
      refine ⟨_, rfl, ?_⟩
      simp only [List.set_cons_succ, List.set_cons_zero]
      have w0 : 1 < w := by omega
      have fin : ∀ (ys : List A) (st5 : Store) (v4 v5 v6 v7 : Option A) (w5 : Nat), TpOk st5 → Kp st4 st5 → (∀ y ∈ ys, El y) → ys.length ≤ 20 → Ct23I most q ps st (i + 1) [some (.ref 1), some (.int most), some (.ref q), some (.ref st5.length), v4, v5, v6, v7, none] (st5 ++ [.lst (xs ++ ys)]) := fun ys st5 v4 v5 v6 v7 w5 t5 k5 ye yl => by
        refine ⟨st5.length, xs ++ ys, v4, v5, v6, v7, t5.grown (.one _ _), (k4.trans k5).trans (Kp.grown (.one _ _)), Grown.stL (.one _ _) (k5.stL q0 hq4), (k4.trans k5).len, stL_new, ?_, ?_, rfl⟩
        · intro y hy
          rcases List.mem_append.mp hy with h | h
          · exact xe y h
          · exact ye y h
        · simp
          omega
      refine seq_cut (fun ρ st5 => ∃ c : Int, TpOk st5 ∧ Kp st4 st5 ∧ ρ = [some (.ref 1), some (.int most), some (.ref q), some (.ref w), some (.int (0 + (i : Int))), some (.int c), v6, v7, none]) ?_ ?_
      · simp only [sp_set, wp_call, wp_cons, wp_nil, wp_var, wp_c, List.getElem?_cons_succ, List.getElem?_cons_zero, Option.some.injEq, ex_eq, List.set_cons_zero, List.set_cons_succ]
        exact draw_wp t4 (by decide) fun c st5 ca cb t5 k5 l5 => ⟨c, t5, k5, rfl⟩
      rintro ρ st5 ⟨c, t5, k5, rfl⟩
      have hq5 := k5.stL q0 hq4
      have hw5 := k5.stL w0 hw4
      have hl5 := k5.len
      subst hM
      subst hL
      simp only [sp_ifs, wp_gb, wp_bin, wp_var, wp_c, List.getElem?_cons_succ, List.getElem?_cons_zero, Option.some.injEq, ex_eq, w_eq, w_getB, decide_eq_true_eq]
      by_cases c0 : c = 0
      · rw [if_pos c0]
        simp only [sp_set, wp_bin, wp_lst, wp_call, wp_ca, wp_cons, wp_nil, wp_var, wp_c, List.getElem?_cons_succ, List.getElem?_cons_zero, Option.some.injEq, ex_eq, List.set_cons_zero, List.set_cons_succ, w_lenL, hq5]
        refine pick23_wp t5 q0 hq5 pe p1 (by omega) fun x st6 hx t6 k6 => ?_
        refine ⟨by simp [sizeLine], ?_⟩
        have g7 : Grown st6 (st6 ++ [.lst [x]]) := .one _ _
        refine draw_wp (t6.grown g7) (by decide) fun m st8 ma mb t8 k8 l8 => ?_
        have z8 : stL st8 st6.length = some [x] := k8.stL (by have := t6.len; omega) stL_new
        have hw8 := k8.stL w0 (g7.stL (k6.stL w0 hw5))
        rw [w_add, w_mulL, z8]
        refine ⟨_, rfl, ⟨by omega, by omega, by rw [size_eq]; simp; omega⟩, ?_⟩
        rw [w_addL, stL_new]
        refine ⟨xs, Grown.stL (.one _ _) hw8, _, rfl, by rw [size_eq]; simp; omega, ?_⟩
        refine fin _ _ _ _ _ _ 0 (t8.grown (.one _ _)) (((k5.trans k6).trans (Kp.grown g7)).trans (k8.trans (Kp.grown (.one _ _)))) ?_ (by simp; omega)
        intro y hy
        have := mem_rep23 hy
        simp at this
        subst this
        exact hx
      · rw [if_neg c0]
        by_cases c1 : c = 1
        · rw [if_pos c1]
          simp only [sp_seq, sp_set, wp_bin, wp_lst, wp_call, wp_ca, wp_cons, wp_nil, wp_var, wp_c, wp_lc, wp_rng, List.getElem?_cons_succ, List.getElem?_cons_zero, Option.some.injEq, ex_eq, List.set_cons_zero, List.set_cons_succ, wipeA_cons, wipeA_nil]
          refine draw_wp t5 (by decide) fun s st6 sa sb t6 k6 l6 => ?_
          refine draw_wp t6 (by decide) fun m st7 ma mb t7 k7 l7 => ?_
          rw [w_add, w_rng1]
          refine ⟨by omega, ?_⟩
          refine lc_rng (fun j st' acc => st' = st7 ∧ acc.length = j ∧ ∀ x ∈ acc, El x) ⟨rfl, rfl, by simp⟩ ?_ ?_
          · rintro j st' acc hj ⟨rfl, l', a'⟩
            refine ⟨_, rfl, ?_⟩
            simp only [wp_yes, if_true, wp_bin, wp_var, List.set_cons_zero, List.set_cons_succ, List.getElem?_cons_succ, List.getElem?_cons_zero, Option.some.injEq, ex_eq, w_add]
            refine ⟨by rw [size_eq]; omega, trivial, by simp [l'], ?_⟩
            intro y hy
            rcases List.mem_append.mp hy with h | h
            · exact a' y h
            · simp at h
              subst h
              exact .inl (.inr ⟨_, rfl, by omega, by omega⟩)
          · rintro st' acc ⟨rfl, l', a'⟩
            have hw7 := k7.stL w0 (k6.stL w0 hw5)
            rw [w_addL, stL_new]
            refine ⟨xs, Grown.stL (.one _ _) hw7, _, rfl, by rw [size_eq]; omega, ?_⟩
            exact fin _ _ _ _ _ _ 0 (t7.grown (.one _ _)) (((k5.trans k6).trans k7).trans (Kp.grown (.one _ _))) a' (by omega)
        · rw [if_neg c1]
          by_cases c2 : c = 2
          · rw [if_pos c2]
            simp only [sp_seq, sp_set, wp_bin, wp_sl, wp_part, wp_call, wp_ca, wp_cons, wp_nil, wp_var, wp_c, List.getElem?_cons_succ, List.getElem?_cons_zero, Option.some.injEq, ex_eq, List.set_cons_zero, List.set_cons_succ, w_lenL, hw5, w_add]
            refine draw_wp t5 (by omega) fun s st6 sa sb t6 k6 l6 => ?_
            simp only [w_getI]
            refine draw_wp t6 (by decide) fun m st7 ma mb t7 k7 l7 => ?_
            have hw7 := k7.stL w0 (k6.stL w0 hw5)
            simp only [w_add, w_getI, w_slL, hw7, Option.some.injEq, ex_eq]
            rw [w_addL, stL_new]
            have cl : (cutA xs (some s) (some (s + 1 + m))).length ≤ 20 := by
              have n1 : ¬ s < 0 := by omega
              have n2 : ¬ s + 1 + m < 0 := by omega
              unfold cutA
              simp [HT.sIx, n1, n2]
              omega
            refine ⟨xs, Grown.stL (.one _ _) hw7, _, rfl, by rw [size_eq]; omega, ?_⟩
            exact fin _ _ _ _ _ _ 0 (t7.grown (.one _ _)) (((k5.trans k6).trans k7).trans (Kp.grown (.one _ _))) (fun y hy => xe y (cut_mem23 hy)) cl
          · rw [if_neg c2]
            by_cases c3 : c = 3
            · rw [if_pos c3]
              simp only [sp_set, wp_bin, wp_un, wp_sl, wp_part, wp_noPart, wp_lst, wp_call, wp_ca, wp_cons, wp_nil, wp_var, wp_c, List.getElem?_cons_succ, List.getElem?_cons_zero, Option.some.injEq, ex_eq, List.set_cons_zero, List.set_cons_succ, w_neg, w_getI, w_slL, hw5]
              obtain ⟨s6, e6⟩ : ∃ s : Store, s = st5 ++ [.lst (cutA xs (some (-2)) none)] := ⟨_, rfl⟩
              have g6 : Grown st5 s6 := e6 ▸ .one _ _
              have z6 : stL s6 st5.length = some (cutA xs (some (-2)) none) := e6 ▸ stL_new
              rw [← e6]
              have hq6 := g6.stL hq5
              simp only [w_lenL, hq6, Option.some.injEq, ex_eq]
              have cl : (cutA xs (some (-2)) none).length ≤ 2 := by
                unfold cutA
                simp [HT.sIx]
                omega
              refine pick23_wp (t5.grown g6) q0 hq6 pe p1 (by omega) fun x st7 hx t7 k7 => ?_
              refine ⟨by simp [sizeLine], ?_⟩
              have g8 : Grown st7 (st7 ++ [.lst [x]]) := .one _ _
              have z8 := g8.stL (k7.stL (by have := t5.len; omega) z6)
              rw [w_addL, z8, stL_new]
              refine ⟨_, rfl, _, rfl, by rw [size_eq]; simp; omega, ?_⟩
              obtain ⟨s9, e9⟩ : ∃ s : Store, s = st7 ++ [.lst [x]] ++ [.lst (cutA xs (some (-2)) none ++ [x])] := ⟨_, rfl⟩
              have g9 : Grown (st7 ++ [.lst [x]]) s9 := e9 ▸ .one _ _
              have z9 : stL s9 (st7 ++ [Ob.lst [x]]).length = some (cutA xs (some (-2)) none ++ [x]) := e9 ▸ stL_new
              rw [← e9]
              have n9 : 1 < (st7 ++ [Ob.lst [x]]).length := by have := t7.len; simp; omega
              refine draw_wp ((t7.grown g8).grown g9) (by decide) fun m st10 ma mb t10 k10 l10 => ?_
              have hw10 := k10.stL w0 (g9.stL (g8.stL (k7.stL w0 (g6.stL hw5))))
              rw [w_add, w_mulL, k10.stL n9 z9]
              refine ⟨_, rfl, ⟨by omega, by omega, ?_⟩, ?_⟩
              · rw [size_eq, List.length_append]
                have : (1 + m).toNat ≤ 6 := by omega
                have h3 : (cutA xs (some (-2)) none).length + [x].length ≤ 3 := by simp; omega
                have := Nat.mul_le_mul h3 this
                omega
              rw [w_addL, stL_new]
              have hlen3 : ((List.replicate (1 + m).toNat (cutA xs (some (-2)) none ++ [x])).flatten).length ≤ 18 := by
                have h6 : (1 + m).toNat ≤ 6 := by omega
                have h3 : (cutA xs (some (-2)) none ++ [x]).length ≤ 3 := by simp; omega
                rw [List.length_flatten, List.map_replicate, List.sum_replicate_nat]
                exact Nat.mul_le_mul h6 h3
              refine ⟨xs, Grown.stL (.one _ _) hw10, _, rfl, by rw [size_eq]; omega, ?_⟩
              refine fin _ _ _ _ _ _ 0 (t10.grown (.one _ _)) ((k5.trans (Kp.grown g6)).trans (k7.trans ((Kp.grown g8).trans ((Kp.grown g9).trans (k10.trans (Kp.grown (.one _ _))))))) ?_ (by omega)
              intro y hy
              have := mem_rep23 hy
              rcases List.mem_append.mp this with h | h
              · exact xe y (cut_mem23 h)
              · simp at h
                subst h
                exact hx
            · rw [if_neg c3]
              simp only [sp_set, wp_bin, wp_call, wp_ca, wp_cons, wp_nil, wp_var, wp_c, wp_lc, wp_rng, List.getElem?_cons_succ, List.getElem?_cons_zero, Option.some.injEq, ex_eq, List.set_cons_zero, List.set_cons_succ, wipeA_cons, wipeA_nil]
              refine draw_wp t5 (by decide) fun m st6 ma mb t6 k6 l6 => ?_
              rw [w_add, w_rng1]
              refine ⟨by omega, ?_⟩
              refine lc_rng (fun j st' acc => TpOk st' ∧ Kp st6 st' ∧ acc.length = j ∧ ∀ x ∈ acc, El x) ⟨t6, .refl _, rfl, by simp⟩ ?_ ?_
              · rintro j st' acc hj ⟨t', k', l', a'⟩
                refine ⟨_, rfl, ?_⟩
                have hq' := k'.stL q0 (k6.stL q0 hq5)
                simp only [wp_yes, if_true, wp_bin, wp_call, wp_ca, wp_cons, wp_nil, wp_var, List.set_cons_zero, List.set_cons_succ, List.getElem?_cons_succ, List.getElem?_cons_zero, Option.some.injEq, ex_eq, w_lenL, hq']
                refine pick23_wp t' q0 hq' pe p1 (by omega) fun x st7 hx t7 k7 => ?_
                refine ⟨by rw [size_eq]; omega, t7, k'.trans k7, by simp [l'], ?_⟩
                intro y hy
                rcases List.mem_append.mp hy with h | h
                · exact a' y h
                · simp at h
                  subst h
                  exact hx
              · rintro st' acc ⟨t', k', l', a'⟩
                have hw7 := k'.stL w0 (k6.stL w0 hw5)
                rw [w_addL, stL_new]
                refine ⟨xs, Grown.stL (.one _ _) hw7, _, rfl, by rw [size_eq]; omega, ?_⟩
                exact fin _ _ _ _ _ _ 0 (t'.grown (.one _ _)) (((k5.trans k6).trans k').trans (Kp.grown (.one _ _))) a' (by omega)
    · rintro ρ st4 ⟨w, xs, v4, v5, v6, v7, t4, k4, hq4, w4, hw4, xe, xl, rfl⟩
      exact ⟨w, xs, v4, v5, v6, v7, t4, k4, hq4, w4, hw4, xe, by omega, rfl⟩
  rintro ρ st3 ⟨w, xs, v4, v5, v6, v7, t3, k3, hq3, w3, hw3, xe, xl, rfl⟩
  simp only [sp_ret, wp_sl, wp_part, wp_noPart, wp_var, List.getElem?_cons_succ, List.getElem?_cons_zero, Option.some.injEq, ex_eq, w_getI, w_slL, hw3]
  have cl := cut_le23 (xs := xs) (lo := none) (hi := some most)
  have cm : (cutA xs none (some most)).length ≤ most.toNat := by
    have n1 : ¬ most < 0 := by omega
    unfold cutA
    simp [HT.sIx, n1]
    omega
  exact k _ _ _ (fun y hy => xe y (cut_mem23 hy)) cm (by omega) (t3.grown (.one _ _)) (k3.trans (Kp.grown (.one _ _))) k3.len stL_new
end Law
/-! MP25: plain: bases drawn near contents, the longest slice, the delta found (k43, k44). -/
namespace Law
open PySem L2 ML
def m_law_near_contents : MF := mFn 4 2 (mSeq (mSet 2 (mCall m_law_draw (mCons (mVar 0) (mCons (mC (.int 5)) mNil))))
    (mSeq (mSet 3 (mCall m_law_draw (mCons (mVar 0) (mCons (mBin addA (mCa lenA (mCons (mVar 1) mNil)) (mC (.int 1))) mNil))))
    (mSeq (mIfS (mGB (mBin eqA (mVar 2) (mC (.int 0)))) (mRet (mCa listA (mCons (mVar 1) mNil))) mNext)
    (mSeq (mIfS (mAnd (mGB (mBin eqA (mVar 2) (mC (.int 1)))) (mGB (mBin ltA (mVar 3) (mCa lenA (mCons (mVar 1) mNil))))) (mRet (mBin addA (mBin addA (mSl (mVar 1) mNoPart (mPart (mVar 3))) (mLst (mCons (mCall m_law_near (mCons (mVar 0) (mCons (mBin ixA (mVar 1) (mVar 3)) mNil))) mNil))) (mSl (mVar 1) (mPart (mBin addA (mVar 3) (mC (.int 1)))) mNoPart))) mNext)
    (mSeq (mIfS (mGB (mBin eqA (mVar 2) (mC (.int 2)))) (mRet (mBin addA (mSl (mVar 1) mNoPart (mPart (mVar 3))) (mSl (mVar 1) (mPart (mBin addA (mVar 3) (mC (.int 1)))) mNoPart))) mNext)
    (mSeq (mIfS (mGB (mBin eqA (mVar 2) (mC (.int 3)))) (mRet (mBin addA (mBin addA (mSl (mVar 1) mNoPart (mPart (mVar 3))) (mLst (mCons (mCall m_law_element (mCons (mVar 0) mNil)) mNil))) (mSl (mVar 1) (mPart (mVar 3)) mNoPart))) mNext)
    (mRet (mBin addA (mBin addA (mSl (mVar 1) mNoPart (mPart (mVar 3))) (mSl (mVar 1) (mPart (mVar 3)) (mPart (mBin addA (mVar 3) (mC (.int 1)))))) (mSl (mVar 1) (mPart (mVar 3)) mNoPart)))))))))
def m_law_bases : MF := mFn 8 3 (mSeq (mSet 3 (mLst mNil))
    (mSeq (mSet 4 (mCall m_law_draw (mCons (mVar 0) (mCons (mC (.int 4)) mNil))))
    (mSeq (mIfS (mGB (mBin eqA (mCall m_law_draw (mCons (mVar 0) (mCons (mC (.int 8)) mNil))) (mC (.int 0)))) (mSeq (mSet 4 (mC (.int 8)))
    (mSet 2 (mCa minA (mCons (mVar 2) (mCons (mC (.int 30)) mNil))))) mNext)
    (mSeq (mFor (mRng (mCons (mVar 4) mNil)) (.one 5) (mSeq (mSet 6 (mCall m_law_draw (mCons (mVar 0) (mCons (mC (.int 4)) mNil))))
    (mSeq (mSet 7 (mCall m_law_near_contents (mCons (mVar 0) (mCons (mVar 1) mNil))))
    (mSeq (mIfS (mGB (mBin eqA (mVar 6) (mC (.int 0)))) (mSet 7 (mCall m_law_contents (mCons (mVar 0) (mCons (mC (.int 30)) mNil)))) mNext)
    (mSeq (mIfS (mGB (mBin eqA (mVar 6) (mC (.int 1)))) (mSet 7 (mSl (mVar 1) (mPart (mCall m_law_draw (mCons (mVar 0) (mCons (mC (.int 6)) mNil)))) (mPart (mCa maxA (mCons (mC (.int 0)) (mCons (mBin subA (mCa lenA (mCons (mVar 1) mNil)) (mCall m_law_draw (mCons (mVar 0) (mCons (mC (.int 6)) mNil)))) mNil)))))) mNext)
    (mExpr (mBm appendA (mVar 3) (mCons (mSl (mVar 7) mNoPart (mPart (mVar 2))) mNil))))))))
    (mRet (mVar 3))))))
noncomputable def m_agreement : MF := mFn 6 4 (mSeq (mSet 4 (mCa minA (mCons (mBin subA (mCa lenA (mCons (mVar 0) mNil)) (mVar 1)) (mCons (mBin subA (mCa lenA (mCons (mVar 2) mNil)) (mVar 3)) mNil))))
    (mSeq (mSet 5 (mC (.int 0)))
    (mSeq (mWhile (mAnd (mGB (mBin ltA (mVar 5) (mVar 4))) (mGB (mBin eqA (mBin ixA (mVar 0) (mBin addA (mVar 1) (mVar 5))) (mBin ixA (mVar 2) (mBin addA (mVar 3) (mVar 5)))))) (mAug 5 iaddA (mC (.int 1))))
    (mRet (mVar 5)))))
noncomputable def m_longest_slice : MF := mFn 8 3 (mSeq (mSet 3 (mTup (mCons (mC (.int 0)) (mCons (mC (.int 0)) (mCons (mC (.int 0)) mNil)))))
    (mSeq (mFor (mEnumT (mCons (mVar 2) mNil)) (.many [4, 5]) (mFor (mRng (mCons (mCa lenA (mCons (mVar 5) mNil)) mNil)) (.one 6) (mIfS (mGB (mBin eqA (mBin ixA (mVar 5) (mVar 6)) (mBin ixA (mVar 0) (mVar 1)))) (mSeq (mSet 7 (mCall m_agreement (mCons (mVar 0) (mCons (mVar 1) (mCons (mVar 5) (mCons (mVar 6) mNil))))))
    (mIfS (mGB (mBin gtA (mVar 7) (mBin ixA (mVar 3) (mC (.int 2))))) (mSet 3 (mTup (mCons (mVar 4) (mCons (mVar 6) (mCons (mVar 7) mNil))))) mNext)) mNext)))
    (mRet (mVar 3))))
noncomputable def m_find_delta : MF := mFn 8 2 (mSeq (mIfS (mGB (mBin gtA (mBin mulA (mCa lenA (mCons (mVar 0) mNil)) (mCa sumA (mCons (mLc (mSrc (mVar 1)) (.one 7) [7] mYes (mCa lenA (mCons (mVar 7) mNil))) mNil))) (mC (.int 100000)))) (mRaise0 "DeltaTooLarge") mNext)
    (mSeq (mSet 2 (mLst mNil))
    (mSeq (mSet 3 (mC (.int 0)))
    (mSeq (mWhile (mGB (mBin ltA (mVar 3) (mCa lenA (mCons (mVar 0) mNil)))) (mSeq (mAsg (.many [4, 5, 6]) (mCall m_longest_slice (mCons (mVar 0) (mCons (mVar 3) (mCons (mVar 1) mNil)))))
    (mIfS (mGB (mBin eqA (mVar 6) (mC (.int 0)))) (mSeq (mExpr (mBm appendA (mVar 2) (mCons (mTup (mCons (mC (.str "insert")) (mCons (mBin ixA (mVar 0) (mVar 3)) mNil))) mNil)))
    (mAug 3 iaddA (mC (.int 1)))) (mSeq (mExpr (mBm appendA (mVar 2) (mCons (mTup (mCons (mC (.str "copy")) (mCons (mVar 4) (mCons (mVar 5) (mCons (mBin addA (mVar 5) (mVar 6)) mNil))))) mNil)))
    (mAug 3 iaddA (mVar 6))))))
    (mRet (mCa tupleA (mCons (mVar 2) mNil)))))))
def m_law_given : MF := mFn 2 1 (mRet (mCa tupleA (mCons (mLc (mSrc (mVar 0)) (.one 1) [1] mYes (mCa tupleA (mCons (mVar 1) mNil))) mNil)))
def m_law_common : MF := mFn 4 2 (mSeq (mSet 2 (mC (.int 0)))
    (mSeq (mFor (mRng (mCons (mCa minA (mCons (mCa lenA (mCons (mVar 0) mNil)) (mCons (mCa lenA (mCons (mVar 1) mNil)) mNil))) mNil)) (.one 3) (mSeq (mIfS (mGB (mBin neA (mBin ixA (mVar 0) (mVar 3)) (mBin ixA (mVar 1) (mVar 3)))) mBreak mNext)
    (mSet 2 (mBin addA (mVar 3) (mC (.int 1))))))
    (mRet (mVar 2))))
inductive Pc where
  | ins (e : A)
  | cp (b s e : Int)
def pcA : Pc → A
  | .ins e => .tup [.str "insert", e]
  | .cp b s e => .tup [.str "copy", .int b, .int s, .int e]
def PcR : Pc → Prop
  | .ins e => El e
  | .cp b s e => (0 ≤ b ∧ b ≤ 2000000) ∧ (0 ≤ s ∧ s ≤ 2000000) ∧ 0 ≤ e ∧ e ≤ 2000000
def bAt (Bs : List (List A)) (b : Int) : List A := Bs.getD b.toNat []
theorem base_at {Bs : List (List A)} {b : Int} (h0 : 0 ≤ b) (h1 : b < (Bs.length : Int)) : atI (Bs.map A.tup) b = some (.tup (bAt Bs b)) := by
  rw [atI_nn h0, List.getElem?_map, List.getElem?_eq_getElem (by omega)]
  unfold bAt
  rw [List.getD_eq_getElem?_getD, List.getElem?_eq_getElem (by omega)]
  rfl
theorem is_ok {α : Type} {r : R α} {a : α} {st : Store} (h : r.wp fun x s => x = a ∧ s = st) : r = .ok a st := by
  obtain ⟨x, s, q, r1, r2⟩ := R.wp.ex h
  rw [q, r1, r2]
def BsL (Bs : List (List A)) (rs : List A) (st : Store) : Prop := rs.length = Bs.length ∧ ∀ (i : Nat) (x : A), rs[i]? = some x → ∃ r : Nat, x = A.ref r ∧ stL st r = Bs[i]?
theorem BsL.grown {Bs : List (List A)} {rs : List A} {st st' : Store} (h : BsL Bs rs st) (g : Grown st st') : BsL Bs rs st' := ⟨h.1, fun i x e => by
  obtain ⟨r, h1, h2⟩ := h.2 i x e
  have hi := (List.getElem?_eq_some_iff.mp e).1
  rw [h.1] at hi
  refine ⟨r, h1, ?_⟩
  rw [List.getElem?_eq_getElem hi] at h2 ⊢
  exact g.stL h2⟩
theorem BsL.at {Bs : List (List A)} {rs : List A} {st : Store} (h : BsL Bs rs st) {b : Int} (b0 : 0 ≤ b) (b1 : b < (Bs.length : Int)) : ∃ r : Nat, atI rs b = some (.ref r) ∧ stL st r = some (bAt Bs b) := by
  have hr := h.1
  have hlt : b.toNat < rs.length := by omega
  obtain ⟨r, hx, hs⟩ := h.2 b.toNat _ (List.getElem?_eq_getElem hlt)
  refine ⟨r, ?_, ?_⟩
  · rw [atI_nn b0, List.getElem?_eq_getElem hlt, hx]
  · rw [hs]
    unfold bAt
    rw [List.getD_eq_getElem?_getD, List.getElem?_eq_getElem (by omega)]
    rfl
def Refs1 (rs : List A) : Prop := ∀ (i r : Nat), rs[i]? = some (.ref r) → 1 < r
theorem BsL.kp {Bs : List (List A)} {rs : List A} {st st' : Store} (h : BsL Bs rs st) (h1 : Refs1 rs) (g : Kp st st') : BsL Bs rs st' := ⟨h.1, fun i x e => by
  obtain ⟨r, q1, q2⟩ := h.2 i x e
  have hi := (List.getElem?_eq_some_iff.mp e).1
  rw [h.1] at hi
  refine ⟨r, q1, ?_⟩
  subst q1
  have hr := h1 i r e
  rw [List.getElem?_eq_getElem hi] at q2 ⊢
  exact g.stL hr q2⟩
theorem given_wp {Bs : List (List A)} {rs : List A} {rb : Nat} {st : Store} {Q : A → Store → Prop} (hB : BsL Bs rs st) (hb : stL st rb = some rs) (hn : Bs.length ≤ 1000) (k : ∀ st', Grown st st' → Q (.tup (Bs.map A.tup)) st') : (m_law_given [.ref rb] st).wp Q := by
  simp only [m_law_given]
  rw [wp_fn]
  refine ⟨rfl, ?_⟩
  simp only [List.map_cons, List.map_nil, List.cons_append, List.nil_append, List.replicate, Nat.reduceSub, sp_ret, wp_ca, wp_cons, wp_nil, wp_lc, wp_src, wp_var, List.getElem?_cons_zero, Option.some.injEq, ex_eq, w_srcL, hb, Option.isSome_some, wipeA_cons, wipeA_nil]
  refine ⟨trivial, ?_⟩
  refine lc_lst (fun i st' acc => st' = st ∧ acc = (Bs.take i).map A.tup) hb ⟨rfl, by simp⟩ (fun i st' acc q => by rw [q.1]; exact hb) ?_ ?_
  · rintro i x st' acc hx ⟨rfl, rfl⟩
    refine ⟨_, rfl, ?_⟩
    obtain ⟨r, rfl, hs⟩ := hB.2 i x hx
    have hi := (List.getElem?_eq_some_iff.mp hx).1
    rw [hB.1] at hi
    rw [List.getElem?_eq_getElem hi] at hs
    simp only [wp_yes, if_true, wp_ca, wp_cons, wp_nil, wp_var, List.set_cons_zero, List.set_cons_succ, List.getElem?_cons_succ, List.getElem?_cons_zero, Option.some.injEq, ex_eq, w_tupL, hs]
    refine ⟨by rw [size_eq]; simp; omega, trivial, ?_⟩
    rw [List.take_add_one, List.getElem?_eq_getElem hi, List.map_append]
    rfl
  · rintro st' acc ⟨rfl, rfl⟩
    rw [w_tupL, stL_new]
    refine ⟨_, rfl, ?_⟩
    rw [hB.1, List.take_length]
    exact k _ (.one _ _)

theorem BsL.snoc {Bs : List (List A)} {rs : List A} {st : Store} {B : List A} {r : Nat} (h : BsL Bs rs st) (hr : stL st r = some B) : BsL (Bs ++ [B]) (rs ++ [.ref r]) st := by
  refine ⟨by simp [h.1], fun i x e => ?_⟩
  by_cases c : i < rs.length
  · rw [List.getElem?_append_left c] at e
    obtain ⟨q, e1, e2⟩ := h.2 i x e
    exact ⟨q, e1, by rw [List.getElem?_append_left (by rw [← h.1]; exact c)]; exact e2⟩
  · rw [List.getElem?_append_right (by omega)] at e
    have hi : i - rs.length = 0 := by
      have := (List.getElem?_eq_some_iff.mp e).1
      simp at this
      omega
    rw [hi] at e
    simp at e
    refine ⟨r, e.symm, ?_⟩
    rw [hr, List.getElem?_append_right (by rw [← h.1]; omega), ← h.1, hi]
    rfl
theorem Refs1.snoc {rs : List A} {r : Nat} (h : Refs1 rs) (hr : 1 < r) : Refs1 (rs ++ [.ref r]) := fun i q e => by
  have hm := List.mem_of_getElem? e
  rcases List.mem_append.mp hm with z | z
  · obtain ⟨j, hj, z⟩ := List.getElem_of_mem z
    exact h j q (by rw [List.getElem?_eq_getElem hj, z])
  · simp at z
    omega
structure BaI (N : Nat) (Bs : List (List A)) (rs : List A) (rb : Nat) (st : Store) : Prop where
  b : BsL Bs rs st
  r1 : Refs1 rs
  l : stL st rb = some rs
  rb1 : 1 < rb
  n : Bs.length ≤ N
  m : ∀ B ∈ Bs, B.length ≤ 700 ∧ ∀ x ∈ B, El x
theorem BaI.kp {N : Nat} {Bs : List (List A)} {rs : List A} {rb : Nat} {st st' : Store} (h : BaI N Bs rs rb st) (g : Kp st st') : BaI N Bs rs rb st' := ⟨h.b.kp h.r1 g, h.r1, g.stL h.rb1 h.l, h.rb1, h.n, h.m⟩
theorem BaI.bl {N : Nat} {Bs : List (List A)} {rs : List A} {rb : Nat} {st : Store} (h : BaI N Bs rs rb st) (b : Int) : (bAt Bs b).length ≤ 700 ∧ ∀ x ∈ bAt Bs b, El x := by
  unfold bAt
  rw [List.getD_eq_getElem?_getD]
  cases e : Bs[b.toNat]? with
  | none => simp
  | some B => exact h.m B (List.mem_of_getElem? e)
theorem tp_set25 {st : Store} {r : Nat} {o : Ob} (t : TpOk st) (h : 1 < r) : TpOk (st.set r o) := by
  obtain ⟨ns, p, q, s, h0, h1, h2⟩ := t.ex
  exact ⟨ns, p, q, s, h0, by rw [List.getElem?_set_ne (by omega)]; exact h1, by rw [List.getElem?_set_ne (by omega)]; exact h2⟩
@[simp] theorem wp_enumT {ms : MA} {ρ : ML.Env} {st : Store} {QS : Src → Store → Prop} : (mEnumT ms ρ st).wp QS ↔ (ms ρ st).wp fun xs st1 => (enumT xs st1).wp QS := by
  unfold mEnumT
  rw [wp_bind]
@[simp] theorem w_enumT {xs : List A} {st : Store} {QS : Src → Store → Prop} : (enumT [.tup xs] st).wp QS ↔ QS (.zipv (cntA xs.length) xs) st := Iff.rfl

theorem kp_put {a b : Store} {r : Nat} {o : Ob} (h : Kp a b) (hr : a.length ≤ r) : Kp a (b.set r o) := ⟨by simpa using h.len, fun i h1 h2 => by rw [List.getElem?_set_ne (by omega)]; exact h.get i h1 h2⟩
theorem cat_wp {r q : Nat} {xs ys : List A} {st : Store} {Q : A → Store → Prop} (hr : stL st r = some xs) (hq : stL st q = some ys) (hl : xs.length + ys.length ≤ 1000000) (k : Q (.ref st.length) (st ++ [.lst (xs ++ ys)])) : (addA (.ref r) (.ref q) st).wp Q := by
  rw [w_addL]
  exact ⟨_, hr, _, hq, by rw [size_eq]; omega, k⟩
theorem cutl_wp {r : Nat} {xs : List A} {lo hi : Option Int} {st : Store} {Q : A → Store → Prop} (hr : stL st r = some xs) (k : Q (.ref st.length) (st ++ [.lst (cutA xs lo hi)])) : (slA (.ref r) lo hi st).wp Q := by
  rw [w_slL]
  exact ⟨_, hr, k⟩
theorem cut_to {xs : List A} {m : Int} (h0 : 0 ≤ m) : cutA xs none (some m) = xs.take m.toNat := by
  unfold cutA
  have n1 : ¬ m < 0 := by omega
  simp [HT.sIx, n1]
theorem cut_from {xs : List A} {m : Int} (h0 : 0 ≤ m) : cutA xs (some m) none = xs.drop m.toNat := by
  unfold cutA
  have n1 : ¬ m < 0 := by omega
  simp [HT.sIx, n1]
  rcases Nat.le_total m.toNat xs.length with h | h
  · rw [Nat.min_eq_left h, List.take_of_length_le (by simp)]
  · rw [Nat.min_eq_right h, List.drop_of_length_le (Nat.le_refl _), List.drop_of_length_le h]
    simp
def NearQ (xs : List A) (st : Store) (Q : A → Store → Prop) : Prop := ∀ (r : Nat) (ys : List A) (st' : Store), (∀ y ∈ ys, El y) → ys.length ≤ xs.length + 1 → TpOk st' → Kp st st' → st.length ≤ r → stL st' r = some ys → Q (.ref r) st'
theorem near_contents_wp {xs : List A} {c : Nat} {st : Store} {Q : A → Store → Prop} (t : TpOk st) (hc : stL st c = some xs) (c1 : 1 < c) (he : ∀ x ∈ xs, El x) (hl : xs.length ≤ 1000) (k : NearQ xs st Q) : (m_law_near_contents [.ref 1, .ref c] st).wp Q := by
  simp only [m_law_near_contents]
  rw [wp_fn]
  refine ⟨rfl, ?_⟩
  simp only [List.map_cons, List.map_nil, List.cons_append, List.nil_append, List.replicate, Nat.reduceSub]
  have NW := @near_wp
  have EW := @element_wp
  generalize m_law_near = mn at NW ⊢
  generalize m_law_element = me at EW ⊢
  refine seq_cut (fun ρ st' => ∃ n : Int, TpOk st' ∧ Kp st st' ∧ ρ = [some (.ref 1), some (.ref c), some (.int n), none]) ?_ ?_
  · simp only [sp_set, wp_call, wp_cons, wp_nil, wp_c, wp_var, List.getElem?_cons_succ, List.getElem?_cons_zero, Option.some.injEq, ex_eq, List.set_cons_zero, List.set_cons_succ]
    exact draw_wp t (by decide) fun n st1 na nb t1 k1 l1 => ⟨n, t1, k1, rfl⟩
  rintro ρ st1 ⟨n, t1, k1, rfl⟩
  have hc1 := k1.stL c1 hc
  refine seq_cut (fun ρ st' => ∃ m : Int, 0 ≤ m ∧ m ≤ (xs.length : Int) ∧ TpOk st' ∧ Kp st st' ∧ ρ = [some (.ref 1), some (.ref c), some (.int n), some (.int m)]) ?_ ?_
  · simp only [sp_set, wp_call, wp_ca, wp_bin, wp_cons, wp_nil, wp_c, wp_var, List.getElem?_cons_succ, List.getElem?_cons_zero, Option.some.injEq, ex_eq, w_lenL, hc1, w_add, List.set_cons_zero, List.set_cons_succ]
    exact draw_wp t1 (by omega) fun m st2 ma mb t2 k2 l2 => ⟨m, ma, by omega, t2, k1.trans k2, rfl⟩
  clear hc1 t1 k1 st1
  rintro ρ st1 ⟨m, m0, m1, t1, k1, rfl⟩
  have hc1 := k1.stL c1 hc
  have hlt : c < st1.length := (List.getElem?_eq_some_iff.mp (stL_eq hc1)).1
  have eT : ∀ y ∈ xs.take m.toNat, El y := fun y hy => he y (List.mem_of_mem_take hy)
  have eD : ∀ (j : Nat), ∀ y ∈ xs.drop j, El y := fun j y hy => he y (List.mem_of_mem_drop hy)
  have app : ∀ {as bs : List A}, (∀ y ∈ as, El y) → (∀ y ∈ bs, El y) → ∀ y ∈ as ++ bs, El y := fun h1 h2 y hy => (List.mem_append.mp hy).elim (h1 y) (h2 y)
  refine seq_cutR (fun ρ st' => st' = st1 ∧ ρ = [some (.ref 1), some (.ref c), some (.int n), some (.int m)]) ?_ ?_
  · simp only [sp_ifs, wp_gb, wp_bin, wp_c, wp_var, List.getElem?_cons_succ, List.getElem?_cons_zero, Option.some.injEq, ex_eq, w_eq, w_getB, decide_eq_true_eq]
    split
    · simp only [sp_ret, wp_ca, wp_cons, wp_nil, wp_var, List.getElem?_cons_succ, List.getElem?_cons_zero, Option.some.injEq, ex_eq, w_listL, hc1]
      exact k _ xs _ he (by omega) (t1.grown (.one _ _)) (k1.trans (Kp.grown (.one _ _))) k1.len stL_new
    · exact ⟨rfl, rfl⟩
  rintro ρ st2 ⟨rfl, rfl⟩
  have gA : ∀ (X : List A), Grown st2 (st2 ++ [.lst X]) := fun X => .one _ _
  refine seq_cutR (fun ρ st' => st' = st2 ∧ ρ = [some (.ref 1), some (.ref c), some (.int n), some (.int m)]) ?_ ?_
  · simp only [sp_ifs, wp_and, wp_gb, wp_bin, wp_ca, wp_cons, wp_nil, wp_c, wp_var, List.getElem?_cons_succ, List.getElem?_cons_zero, Option.some.injEq, ex_eq, w_eq, w_lt, w_lenL, hc1, w_getB, decide_eq_true_eq]
    split
    · rename_i hn
      by_cases q : m < (xs.length : Int)
      · simp only [q, decide_true, if_true, sp_ret, wp_bin, wp_sl, wp_part, wp_noPart, wp_lst, wp_call, wp_cons, wp_nil, wp_c, wp_var, List.getElem?_cons_succ, List.getElem?_cons_zero, Option.some.injEq, ex_eq, w_getI, w_add]
        refine cutl_wp hc1 ?_
        have em : atI xs m = some xs[m.toNat] := by
          rw [atI_nn m0, List.getElem?_eq_getElem (by omega)]
        simp only [w_ixL, (gA _).stL hc1, em, Option.some.injEq, ex_eq]
        refine NW (t1.grown (gA _)) (he _ (List.getElem_mem _)) fun b st3 hb t3 k3 => ⟨by simp [sizeLine], ?_⟩
        have h3 : stL st3 st2.length = some (cutA xs none (some m)) := k3.stL (by have := t1.len; omega) stL_new
        have g4 : Grown st3 (st3 ++ [.lst [b]]) := .one _ _
        refine cat_wp (g4.stL h3) stL_new (by rw [cut_to m0]; simp; omega) ?_
        have hc3 := k3.stL c1 ((gA _).stL hc1)
        rw [cut_to m0]
        have g5 : Grown (st3 ++ [.lst [b]]) (st3 ++ [.lst [b]] ++ [.lst (xs.take m.toNat ++ [b])]) := .one _ _
        refine cutl_wp (g5.stL (g4.stL hc3)) ?_
        refine cat_wp (Grown.stL (.one _ _) stL_new) stL_new (by rw [cut_from (by omega)]; simp; omega) ?_
        rw [cut_from (by omega)]
        refine k _ _ _ (app (app eT (fun y hy => by simp at hy; subst hy; exact hb)) (eD _)) (by simp; omega) ((((t3.grown g4).grown g5).grown (.one _ _)).grown (.one _ _)) ((k1.trans (Kp.grown (gA _))).trans (k3.trans (Kp.grown (((g4.trans g5).trans (.one _ _)).trans (.one _ _))))) ?_ stL_new
        have := k1.len
        have := k3.len
        simp at this ⊢
        omega
      · simp only [q, decide_false, Bool.false_eq_true, if_false, sp_next]
        exact ⟨trivial, trivial⟩
    · exact ⟨rfl, rfl⟩
  rintro ρ st3 ⟨rfl, rfl⟩
  refine seq_cutR (fun ρ st' => st' = st3 ∧ ρ = [some (.ref 1), some (.ref c), some (.int n), some (.int m)]) ?_ ?_
  · simp only [sp_ifs, wp_gb, wp_bin, wp_c, wp_var, List.getElem?_cons_succ, List.getElem?_cons_zero, Option.some.injEq, ex_eq, w_eq, w_getB, decide_eq_true_eq]
    split
    · simp only [sp_ret, wp_bin, wp_sl, wp_part, wp_noPart, wp_c, wp_var, List.getElem?_cons_succ, List.getElem?_cons_zero, Option.some.injEq, ex_eq, w_getI, w_add]
      refine cutl_wp hc1 ?_
      refine cutl_wp ((gA _).stL hc1) ?_
      refine cat_wp (Grown.stL (.one _ _) stL_new) stL_new (by rw [cut_to m0, cut_from (by omega)]; simp; omega) ?_
      rw [cut_to m0, cut_from (by omega)]
      refine k _ _ _ (app eT (eD _)) (by simp; omega) (((t1.grown (gA _)).grown (.one _ _)).grown (.one _ _)) (k1.trans (Kp.grown (((gA _).trans (.one _ _)).trans (.one _ _)))) ?_ stL_new
      have := k1.len
      simp
      omega
    · exact ⟨rfl, rfl⟩
  rintro ρ st4 ⟨rfl, rfl⟩
  refine seq_cutR (fun ρ st' => st' = st4 ∧ ρ = [some (.ref 1), some (.ref c), some (.int n), some (.int m)]) ?_ ?_
  · simp only [sp_ifs, wp_gb, wp_bin, wp_c, wp_var, List.getElem?_cons_succ, List.getElem?_cons_zero, Option.some.injEq, ex_eq, w_eq, w_getB, decide_eq_true_eq]
    split
    · simp only [sp_ret, wp_bin, wp_sl, wp_part, wp_noPart, wp_lst, wp_call, wp_cons, wp_nil, wp_c, wp_var, List.getElem?_cons_succ, List.getElem?_cons_zero, Option.some.injEq, ex_eq, w_getI, w_add]
      refine cutl_wp hc1 ?_
      refine EW (t1.grown (gA _)) fun b st3 hb t3 k3 => ⟨by simp [sizeLine], ?_⟩
      have h3 : stL st3 st4.length = some (cutA xs none (some m)) := k3.stL (by have := t1.len; omega) stL_new
      have g4 : Grown st3 (st3 ++ [.lst [b]]) := .one _ _
      refine cat_wp (g4.stL h3) stL_new (by rw [cut_to m0]; simp; omega) ?_
      have hc3 := k3.stL c1 ((gA _).stL hc1)
      rw [cut_to m0]
      have g5 : Grown (st3 ++ [.lst [b]]) (st3 ++ [.lst [b]] ++ [.lst (xs.take m.toNat ++ [b])]) := .one _ _
      refine cutl_wp (g5.stL (g4.stL hc3)) ?_
      refine cat_wp (Grown.stL (.one _ _) stL_new) stL_new (by rw [cut_from (by omega)]; simp; omega) ?_
      rw [cut_from (by omega)]
      refine k _ _ _ (app (app eT (fun y hy => by simp at hy; subst hy; exact hb)) (eD _)) (by simp; omega) ((((t3.grown g4).grown g5).grown (.one _ _)).grown (.one _ _)) ((k1.trans (Kp.grown (gA _))).trans (k3.trans (Kp.grown (((g4.trans g5).trans (.one _ _)).trans (.one _ _))))) ?_ stL_new
      have := k1.len
      have := k3.len
      simp at this ⊢
      omega
    · exact ⟨rfl, rfl⟩
  rintro ρ st5 ⟨rfl, rfl⟩
  simp only [sp_ret, wp_bin, wp_sl, wp_part, wp_noPart, wp_c, wp_var, List.getElem?_cons_succ, List.getElem?_cons_zero, Option.some.injEq, ex_eq, w_getI, w_add]
  refine cutl_wp hc1 ?_
  refine cutl_wp ((gA _).stL hc1) ?_
  have g2 : Grown (st5 ++ [.lst (cutA xs none (some m))]) (st5 ++ [.lst (cutA xs none (some m))] ++ [.lst (cutA xs (some m) (some (m + 1)))]) := .one _ _
  have lm : (cutA xs (some m) (some (m + 1))).length ≤ 1 := by
    have n1 : ¬ m < 0 := by omega
    have n2 : ¬ m + 1 < 0 := by omega
    unfold cutA
    simp [HT.sIx, n1, n2]
    omega
  have lt : (cutA xs none (some m)).length ≤ m.toNat := by
    rw [cut_to m0, List.length_take]
    omega
  refine cat_wp (g2.stL stL_new) stL_new (by omega) ?_
  have g3 : Grown (st5 ++ [.lst (cutA xs none (some m))] ++ [.lst (cutA xs (some m) (some (m + 1)))]) (st5 ++ [.lst (cutA xs none (some m))] ++ [.lst (cutA xs (some m) (some (m + 1)))] ++ [.lst (cutA xs none (some m) ++ cutA xs (some m) (some (m + 1)))]) := .one _ _
  refine cutl_wp (g3.stL (g2.stL ((gA _).stL hc1))) ?_
  have ld : (cutA xs (some m) none).length = xs.length - m.toNat := by rw [cut_from m0, List.length_drop]
  refine cat_wp (Grown.stL (.one _ _) stL_new) stL_new (by rw [List.length_append]; omega) ?_
  refine k _ _ _ (app (app (fun y hy => he y (cut_mem23 hy)) (fun y hy => he y (cut_mem23 hy))) (fun y hy => he y (cut_mem23 hy))) (by rw [List.length_append, List.length_append]; omega) (((((t1.grown (gA _)).grown g2).grown g3).grown (.one _ _)).grown (.one _ _)) (k1.trans (Kp.grown (((((gA _).trans g2).trans g3).trans (.one _ _)).trans (.one _ _)))) ?_ stL_new
  have := k1.len
  simp
  omega
def BaB (Bs : List (List A)) (rs : List A) (rb : Nat) (st : Store) : Prop := BsL Bs rs st ∧ Refs1 rs ∧ stL st rb = some rs ∧ (∀ (i r : Nat), rs[i]? = some (.ref r) → rb < r) ∧ ∀ B ∈ Bs, B.length ≤ 30 ∧ ∀ x ∈ B, El x
def BasI (c : Nat) (n : Nat) (st0 : Store) (i : Nat) (ρ : ML.Env) (st : Store) : Prop := ∃ (rb : Nat) (Bs : List (List A)) (rs : List A) (v5 v6 v7 : Option A), TpOk st ∧ Kp st0 st ∧ st0.length ≤ rb ∧ BaB Bs rs rb st ∧ Bs.length = i ∧ ρ = [some (.ref 1), some (.ref c), some (.int 30), some (.ref rb), some (.int (n : Int)), v5, v6, v7]
theorem bases_wp {xs : List A} {c : Nat} {st : Store} {Q : A → Store → Prop} (t : TpOk st) (hc : stL st c = some xs) (c1 : 1 < c) (he : ∀ x ∈ xs, El x) (hl : xs.length ≤ 30) (k : ∀ Bs rs rb st', BaI 8 Bs rs rb st' → (∀ B ∈ Bs, B.length ≤ 30) → TpOk st' → Kp st st' → Q (.ref rb) st') : (m_law_bases [.ref 1, .ref c, .int 30] st).wp Q := by
  simp only [m_law_bases]
  rw [wp_fn]
  refine ⟨rfl, ?_⟩
  simp only [List.map_cons, List.map_nil, List.cons_append, List.nil_append, List.replicate, Nat.reduceSub]
  have NW := @near_contents_wp
  have CW := @conts_wp
  generalize m_law_near_contents = mn at NW ⊢
  generalize m_law_contents = mc at CW ⊢
  generalize hF : @mFor = F
  have hlen := t.len
  refine seq_cut (fun ρ st' => st' = st ++ [.lst []] ∧ ρ = [some (.ref 1), some (.ref c), some (.int 30), some (.ref st.length), none, none, none, none]) ?_ ?_
  · simp
  rintro ρ st1 ⟨rfl, rfl⟩
  have g1 : Grown st (st ++ [.lst []]) := .one _ _
  refine seq_cut (fun ρ st' => ∃ n : Int, 0 ≤ n ∧ n ≤ 8 ∧ TpOk st' ∧ Kp (st ++ [.lst []]) st' ∧ ρ = [some (.ref 1), some (.ref c), some (.int 30), some (.ref st.length), some (.int n), none, none, none]) ?_ ?_
  · simp only [sp_set, wp_call, wp_cons, wp_nil, wp_c, wp_var, List.getElem?_cons_succ, List.getElem?_cons_zero, Option.some.injEq, ex_eq, List.set_cons_zero, List.set_cons_succ]
    exact draw_wp (t.grown g1) (by decide) fun n st1 na nb t1 k1 l1 => ⟨n, na, by omega, t1, k1, rfl⟩
  rintro ρ st1 ⟨n0, n0a, n0b, t1, k1, rfl⟩
  refine seq_cut (fun ρ st' => ∃ n : Nat, n ≤ 8 ∧ TpOk st' ∧ Kp (st ++ [.lst []]) st' ∧ ρ = [some (.ref 1), some (.ref c), some (.int 30), some (.ref st.length), some (.int (n : Int)), none, none, none]) ?_ ?_
  · simp only [sp_ifs, wp_gb, wp_bin, wp_call, wp_cons, wp_nil, wp_c, wp_var, List.getElem?_cons_succ, List.getElem?_cons_zero, Option.some.injEq, ex_eq]
    refine draw_wp t1 (by decide) fun m st2 ma mb t2 k2 l2 => ?_
    simp only [w_eq, w_getB, decide_eq_true_eq]
    split
    · simp
      exact ⟨8, by omega, t2, k1.trans k2, by simp⟩
    · exact ⟨n0.toNat, by omega, t2, k1.trans k2, by rw [Int.toNat_of_nonneg n0a]⟩
  clear k1 t1 st1
  rintro ρ st1 ⟨n, hn, t1, k1, rfl⟩
  have z1 : stL st1 st.length = some [] := k1.stL (by omega) stL_new
  have h0 : BasI c n st 0 [some (.ref 1), some (.ref c), some (.int 30), some (.ref st.length), some (.int (n : Int)), none, none, none] st1 := ⟨st.length, [], [], none, none, none, t1, (Kp.grown g1).trans k1, Nat.le_refl _, ⟨⟨rfl, by simp⟩, fun i r e => by simp at e, z1, fun i r e => by simp at e, by simp⟩, rfl, rfl⟩
  refine seq_cut (BasI c n st n) ?_ ?_
  · subst hF
    simp only [sp_for, wp_rng, wp_cons, wp_nil, wp_var, List.getElem?_cons_succ, List.getElem?_cons_zero, Option.some.injEq, ex_eq, w_rng1]
    refine ⟨by omega, ?_⟩
    rw [Int.toNat_natCast]
    refine for_rng (BasI c n st) h0 ?_ (fun _ _ h => h)
    rintro i ρ st2 hi ⟨rb, Bs, rs, v5, v6, v7, t2, k2, b0, hB, hbl, rfl⟩
    refine ⟨_, rfl, ?_⟩
    simp only [List.set_cons_zero, List.set_cons_succ]
    refine seq_cut (fun ρ st' => ∃ m : Int, TpOk st' ∧ Kp st2 st' ∧ ρ = [some (.ref 1), some (.ref c), some (.int 30), some (.ref rb), some (.int (n : Int)), some (.int (0 + (i : Nat))), some (.int m), v7]) ?_ ?_
    · simp only [sp_set, wp_call, wp_cons, wp_nil, wp_c, wp_var, List.getElem?_cons_succ, List.getElem?_cons_zero, Option.some.injEq, ex_eq, List.set_cons_zero, List.set_cons_succ]
      exact draw_wp t2 (by decide) fun n st1 na nb t1 k1 l1 => ⟨n, t1, k1, rfl⟩
    rintro ρ st3 ⟨m, t3, k3, rfl⟩
    have hc3 := (k2.trans k3).stL c1 hc
    refine seq_cut (fun ρ st' => ∃ (r : Nat) (ys : List A), (∀ y ∈ ys, El y) ∧ ys.length ≤ 200 ∧ TpOk st' ∧ Kp st2 st' ∧ 1 < r ∧ stL st' r = some ys ∧ ρ = [some (.ref 1), some (.ref c), some (.int 30), some (.ref rb), some (.int (n : Int)), some (.int (0 + (i : Nat))), some (.int m), some (.ref r)]) ?_ ?_
    · simp only [sp_set, wp_call, wp_cons, wp_nil, wp_c, wp_var, List.getElem?_cons_succ, List.getElem?_cons_zero, Option.some.injEq, ex_eq, List.set_cons_zero, List.set_cons_succ]
      exact NW t3 hc3 c1 he (by omega) fun r ys st4 e4 l4 t4 k4 r4 h4 => ⟨r, ys, e4, by omega, t4, k3.trans k4, by have := t3.len; omega, h4, rfl⟩
    clear hc3 k3 t3 st3
    rintro ρ st3 ⟨r, ys, e3, l3, t3, k3, r3, h3, rfl⟩
    refine seq_cut (fun ρ st' => ∃ (r : Nat) (ys : List A), (∀ y ∈ ys, El y) ∧ ys.length ≤ 200 ∧ TpOk st' ∧ Kp st2 st' ∧ 1 < r ∧ stL st' r = some ys ∧ ρ = [some (.ref 1), some (.ref c), some (.int 30), some (.ref rb), some (.int (n : Int)), some (.int (0 + (i : Nat))), some (.int m), some (.ref r)]) ?_ ?_
    · simp only [sp_ifs, wp_gb, wp_bin, wp_c, wp_var, List.getElem?_cons_succ, List.getElem?_cons_zero, Option.some.injEq, ex_eq, w_eq, w_getB, decide_eq_true_eq]
      split
      · simp only [sp_set, wp_call, wp_cons, wp_nil, wp_c, wp_var, List.getElem?_cons_succ, List.getElem?_cons_zero, Option.some.injEq, ex_eq, List.set_cons_zero, List.set_cons_succ]
        exact CW t3 (by decide) (by decide) fun r ys st4 e4 l4 l5 t4 k4 r4 h4 => ⟨r, ys, e4, by omega, t4, k3.trans k4, by have := t3.len; omega, h4, rfl⟩
      · exact ⟨r, ys, e3, l3, t3, k3, r3, h3, rfl⟩
    clear e3 l3 h3 r3 k3 t3 st3 r ys
    rintro ρ st3 ⟨r, ys, e3, l3, t3, k3, r3, h3, rfl⟩
    have hc3 := (k2.trans k3).stL c1 hc
    refine seq_cut (fun ρ st' => ∃ (r : Nat) (ys : List A), (∀ y ∈ ys, El y) ∧ ys.length ≤ 200 ∧ TpOk st' ∧ Kp st2 st' ∧ 1 < r ∧ stL st' r = some ys ∧ ρ = [some (.ref 1), some (.ref c), some (.int 30), some (.ref rb), some (.int (n : Int)), some (.int (0 + (i : Nat))), some (.int m), some (.ref r)]) ?_ ?_
    · simp only [sp_ifs, wp_gb, wp_bin, wp_c, wp_var, List.getElem?_cons_succ, List.getElem?_cons_zero, Option.some.injEq, ex_eq, w_eq, w_getB, decide_eq_true_eq]
      split
      · simp only [sp_set, wp_sl, wp_part, wp_bin, wp_ca, wp_call, wp_cons, wp_nil, wp_c, wp_var, List.getElem?_cons_succ, List.getElem?_cons_zero, Option.some.injEq, ex_eq, List.set_cons_zero, List.set_cons_succ]
        refine draw_wp t3 (by decide) fun p st4 pa pb t4 k4 l4 => ?_
        simp only [w_getI, w_lenL, k4.stL c1 hc3, Option.some.injEq, ex_eq]
        refine draw_wp t4 (by decide) fun q st5 qa qb t5 k5 l5 => ?_
        simp only [w_sub, w_max2, w_getI]
        refine cutl_wp ((k4.trans k5).stL c1 hc3) ?_
        exact ⟨_, _, fun y hy => he y (cut_mem23 hy), Nat.le_trans cut_le23 (by omega), t5.grown (.one _ _), ((k3.trans k4).trans k5).trans (Kp.grown (.one _ _)), by have := t5.len; omega, stL_new, rfl⟩
      · exact ⟨r, ys, e3, l3, t3, k3, r3, h3, rfl⟩
    clear hc3 e3 l3 h3 r3 k3 t3 st3 r ys
    rintro ρ st3 ⟨r, ys, e3, l3, t3, k3, r3, h3, rfl⟩
    have kB := k2.trans k3
    have rb1 : 1 < rb := by omega
    have z3 := k3.stL rb1 hB.2.2.1
    have hrb : rb < st3.length := (List.getElem?_eq_some_iff.mp (stL_eq z3)).1
    simp only [sp_expr, wp_bm, wp_sl, wp_noPart, wp_part, wp_cons, wp_nil, wp_var, List.getElem?_cons_succ, List.getElem?_cons_zero, Option.some.injEq, ex_eq, isL_ref, z3, Option.isSome_some, w_getI]
    refine ⟨trivial, ?_⟩
    refine cutl_wp h3 ?_
    rw [w_append]
    have hal := hB.1.1
    have cl : (cutA ys none (some 30)).length ≤ 30 := by
      rw [cut_to (by decide)]
      simp
      omega
    have g4 : Grown st3 (st3 ++ [.lst (cutA ys none (some 30))]) := .one _ _
    refine ⟨_, g4.stL z3, by rw [size_eq]; omega, rb, Bs ++ [cutA ys none (some 30)], rs ++ [.ref st3.length], _, _, _, tp_set25 (t3.grown g4) rb1, kp_put (kB.trans (Kp.grown g4)) b0, b0, ⟨?_, hB.2.1.snoc (by omega), stL_set_self (g4.stL z3), fun j q e => ?_, fun B hb => ?_⟩, by simp [hbl], rfl⟩
    · refine BsL.snoc ⟨hB.1.1, fun j x e => ?_⟩ (by rw [stL_set_ne (by omega)]; exact stL_new)
      obtain ⟨q, e1, e2⟩ := ((hB.1.kp hB.2.1 k3).grown g4).2 j x e
      subst e1
      have := hB.2.2.2.1 j q e
      exact ⟨q, rfl, by rw [stL_set_ne (by omega)]; exact e2⟩
    · have hm := List.mem_of_getElem? e
      rcases List.mem_append.mp hm with z | z
      · obtain ⟨j', hj', z⟩ := List.getElem_of_mem z
        exact hB.2.2.2.1 j' q (by rw [List.getElem?_eq_getElem hj', z])
      · simp at z
        omega
    · rcases List.mem_append.mp hb with z | z
      · exact hB.2.2.2.2 B z
      · have z := List.mem_singleton.mp z
        subst z
        exact ⟨cl, fun y hy => e3 y (cut_mem23 hy)⟩
  rintro ρ st2 ⟨rb, Bs, rs, v5, v6, v7, t2, k2, b0, hB, hbl, rfl⟩
  simp only [sp_ret, wp_var, List.getElem?_cons_succ, List.getElem?_cons_zero, Option.some.injEq, ex_eq]
  exact k Bs rs rb st2 ⟨hB.1, hB.2.1, hB.2.2.1, by omega, by omega, fun B hb => ⟨by have := (hB.2.2.2.2 B hb).1; omega, (hB.2.2.2.2 B hb).2⟩⟩ (fun B hb => (hB.2.2.2.2 B hb).1) t2 k2
open Classical in
/-- how many agree at the beginning -/
noncomputable def agr : List A → List A → Nat
  | x :: xs, y :: ys => if x = y then agr xs ys + 1 else 0
  | _, _ => 0
theorem agr_is : ∀ {n : Nat} {xs ys : List A}, xs.take n = ys.take n → n ≤ xs.length → n ≤ ys.length → (n = xs.length ∨ n = ys.length ∨ xs[n]? ≠ ys[n]?) → agr xs ys = n
  | 0, [], ys, _, _, _, _ => by cases ys <;> rfl
  | 0, x :: xs, [], _, _, _, _ => rfl
  | 0, x :: xs, y :: ys, _, _, _, h => by
    simp at h
    simp [agr, h]
  | n + 1, [], ys, _, h, _, _ => by simp at h
  | n + 1, x :: xs, [], _, _, h, _ => by simp at h
  | n + 1, x :: xs, y :: ys, e, h1, h2, h => by
    simp only [List.take_succ_cons, List.cons.injEq] at e
    simp only [List.length_cons] at h1 h2 h
    have ih := agr_is (n := n) (xs := xs) (ys := ys) e.2 (by omega) (by omega) (by
      rcases h with h | h | h
      · exact .inl (by omega)
      · exact .inr (.inl (by omega))
      · exact .inr (.inr (by simpa using h)))
    simp [agr, e.1, ih]
theorem agr_comm : ∀ (xs ys : List A), agr xs ys = agr ys xs
  | [], [] => rfl
  | [], _ :: _ => rfl
  | _ :: _, [] => rfl
  | x :: xs, y :: ys => by
    by_cases e : x = y
    · subst e
      simp [agr, agr_comm xs ys]
    · have e' : ¬ y = x := fun z => e z.symm
      simp [agr, e, e']
theorem agr_le : ∀ (xs ys : List A), agr xs ys ≤ xs.length ∧ agr xs ys ≤ ys.length
  | [], ys => by cases ys <;> simp [agr]
  | x :: xs, [] => by simp [agr]
  | x :: xs, y :: ys => by
    have := agr_le xs ys
    simp only [agr, List.length_cons]
    split <;> omega
theorem agr_take : ∀ (xs ys : List A), xs.take (agr xs ys) = ys.take (agr xs ys)
  | [], ys => by cases ys <;> simp [agr]
  | x :: xs, [] => by simp [agr]
  | x :: xs, y :: ys => by
    have := agr_take xs ys
    simp only [agr]
    split
    · rename_i e
      simp [e, this]
    · simp
/-- the best so far: how many, base, start -/
abbrev N3 := Nat × Nat × Nat
noncomputable def better (b : N3) (m i s : Nat) : N3 := if b.1 < m then (m, i, s) else b
noncomputable def inB (ys B : List A) (i : Nat) (b : N3) : Nat → N3
  | 0 => b
  | s + 1 => better (inB ys B i b s) (agr (B.drop s) ys) i s
noncomputable def outB (ys : List A) (Bs : List (List A)) : Nat → N3
  | 0 => (0, 0, 0)
  | i + 1 => inB ys (Bs.getD i []) i (outB ys Bs i) (Bs.getD i []).length
noncomputable def lgst (Bs : List (List A)) (ys : List A) : N3 := outB ys Bs Bs.length
/-- what stands in the triple -/
def Best (Bs : List (List A)) (ys : List A) (b : N3) : Prop := b.1 = 0 ∨ (b.2.1 < Bs.length ∧ b.2.2 + b.1 ≤ (Bs.getD b.2.1 []).length ∧ b.1 = agr ((Bs.getD b.2.1 []).drop b.2.2) ys)
theorem inB_best {Bs : List (List A)} {ys : List A} {i : Nat} (hi : i < Bs.length) {b : N3} (h : Best Bs ys b) : ∀ s, s ≤ (Bs.getD i []).length → Best Bs ys (inB ys (Bs.getD i []) i b s)
  | 0, _ => h
  | s + 1, hs => by
    simp only [inB, better]
    split
    · refine .inr ⟨hi, ?_, rfl⟩
      have := (agr_le ((Bs.getD i []).drop s) ys).1
      rw [List.length_drop] at this
      simp only
      omega
    · exact inB_best hi h s (by omega)
theorem outB_best {Bs : List (List A)} {ys : List A} : ∀ i, i ≤ Bs.length → Best Bs ys (outB ys Bs i)
  | 0, _ => .inl rfl
  | i + 1, hi => inB_best (by omega) (outB_best i (by omega)) _ (Nat.le_refl _)
theorem lgst_best (Bs : List (List A)) (ys : List A) : Best Bs ys (lgst Bs ys) := outB_best _ (Nat.le_refl _)
theorem lgst_le (Bs : List (List A)) (ys : List A) : (lgst Bs ys).1 ≤ ys.length := by
  rcases lgst_best Bs ys with h | ⟨_, _, h⟩
  · omega
  · rw [h]
    exact (agr_le _ _).2
/-- the state of the search after some rounds -/
noncomputable def gst (Bs : List (List A)) (xs : List A) : Nat → Nat × List Pc
  | 0 => (0, [])
  | k + 1 => if (gst Bs xs k).1 < xs.length then
      (if (lgst Bs (xs.drop (gst Bs xs k).1)).1 = 0 then ((gst Bs xs k).1 + 1, (gst Bs xs k).2 ++ [.ins (xs.getD (gst Bs xs k).1 .non)])
      else ((gst Bs xs k).1 + (lgst Bs (xs.drop (gst Bs xs k).1)).1, (gst Bs xs k).2 ++ [.cp (lgst Bs (xs.drop (gst Bs xs k).1)).2.1 (lgst Bs (xs.drop (gst Bs xs k).1)).2.2 (((lgst Bs (xs.drop (gst Bs xs k).1)).2.2 : Int) + (lgst Bs (xs.drop (gst Bs xs k).1)).1)]))
    else gst Bs xs k
noncomputable def grd (Bs : List (List A)) (xs : List A) : List Pc := (gst Bs xs xs.length).2
theorem gst_far {Bs : List (List A)} {xs : List A} : ∀ k, k ≤ (gst Bs xs k).1 ∨ xs.length ≤ (gst Bs xs k).1
  | 0 => .inl (Nat.le_refl _)
  | k + 1 => by
    rcases gst_far (Bs := Bs) (xs := xs) k with h | h
    · simp only [gst]
      split
      · split
        · left
          simp only
          omega
        · left
          simp only
          omega
      · right
        omega
    · right
      simp only [gst]
      rw [if_neg (by omega)]
      exact h
theorem gst_in {Bs : List (List A)} {xs : List A} : ∀ k, (gst Bs xs k).1 ≤ xs.length
  | 0 => Nat.zero_le _
  | k + 1 => by
    have ih := gst_in (Bs := Bs) (xs := xs) k
    simp only [gst]
    split
    · split
      · simp only
        omega
      · have := lgst_le Bs (xs.drop (gst Bs xs k).1)
        rw [List.length_drop] at this
        simp only
        omega
    · exact ih
theorem gst_stop {Bs : List (List A)} {xs : List A} {k : Nat} (h : ¬ (gst Bs xs k).1 < xs.length) : ∀ j, gst Bs xs (k + j) = gst Bs xs k
  | 0 => rfl
  | j + 1 => by
    rw [← Nat.add_assoc]
    simp only [gst, gst_stop h j]
    rw [if_neg h]
theorem gst_end {Bs : List (List A)} {xs : List A} {k : Nat} (hk : k ≤ xs.length) (h : ¬ (gst Bs xs k).1 < xs.length) : (gst Bs xs k).2 = grd Bs xs := by
  have := gst_stop h (xs.length - k)
  unfold grd
  rw [show k + (xs.length - k) = xs.length by omega] at this
  rw [this]
theorem gst_len {Bs : List (List A)} {xs : List A} : ∀ k, (gst Bs xs k).2.length ≤ k
  | 0 => Nat.le_refl _
  | k + 1 => by
    have ih := gst_len (Bs := Bs) (xs := xs) k
    simp only [gst]
    split
    · split <;> simp <;> omega
    · omega
theorem gst_kinds {Bs : List (List A)} {xs : List A} (he : ∀ x ∈ xs, El x) : ∀ k, ∀ p ∈ (gst Bs xs k).2, (∃ x, p = .ins x ∧ El x) ∨ ∃ b s e, p = .cp b s e
  | 0, p, h => by simp [gst] at h
  | k + 1, p, h => by
    have ih := gst_kinds (Bs := Bs) he k
    simp only [gst] at h
    split at h
    · rename_i hlt
      split at h
      · rcases List.mem_append.mp h with h | h
        · exact ih p h
        · simp at h
          refine .inl ⟨_, h, he _ ?_⟩
          rw [List.getElem?_eq_getElem hlt]
          exact List.getElem_mem hlt
      · rcases List.mem_append.mp h with h | h
        · exact ih p h
        · simp at h
          exact .inr ⟨_, _, _, h⟩
    · exact ih p h
theorem pc_cmp {p : Pc} (h : (∃ x, p = .ins x ∧ El x) ∨ ∃ b s e, p = .cp b s e) : Cmp 2 (pcA p) := by
  rcases h with ⟨x, rfl, hx⟩ | ⟨b, s, e, rfl⟩
  · exact Cmp.tup (fun y hy => by
      simp at hy
      rcases hy with rfl | rfl
      · exact (str_cmp (by decide +kernel)).mono (by omega)
      · exact el_cmp hx) (by simp)
  · exact Cmp.tup (fun y hy => by
      simp at hy
      rcases hy with rfl | rfl | rfl | rfl
      · exact (str_cmp (by decide +kernel)).mono (by omega)
      · exact (int_cmp _).mono (by omega)
      · exact (int_cmp _).mono (by omega)
      · exact (int_cmp _).mono (by omega)) (by simp)
theorem grd_cmp {Bs : List (List A)} {xs : List A} (he : ∀ x ∈ xs, El x) (hl : xs.length ≤ 100000) : Cmp 3 (.tup ((grd Bs xs).map pcA)) := Cmp.tup (fun y hy => by
  rw [List.mem_map] at hy
  obtain ⟨p, hp, rfl⟩ := hy
  exact pc_cmp (gst_kinds he _ p hp)) (by have := gst_len (Bs := Bs) (xs := xs) xs.length; rw [List.length_map]; unfold grd; omega)
/-- the walk: agreement -/
theorem agreement_wp {xs ys : List A} {p s : Nat} {st : Store} {Q : A → Store → Prop} (hx : ∀ x ∈ xs, El x) (hy : ∀ x ∈ ys, El x) (hp : p ≤ xs.length) (hs : s ≤ ys.length) (k : Q (.int (agr (ys.drop s) (xs.drop p))) st) : (m_agreement [.tup xs, .int p, .tup ys, .int s] st).wp Q := by
  simp only [m_agreement]
  rw [wp_fn]
  refine ⟨rfl, ?_⟩
  simp only [List.map_cons, List.map_nil, List.cons_append, List.nil_append, List.replicate, Nat.reduceSub]
  refine seq_cut (fun ρ st' => ∃ m : Nat, (m = xs.length - p ∨ m = ys.length - s) ∧ m ≤ xs.length - p ∧ m ≤ ys.length - s ∧ st' = st ∧ ρ = [some (.tup xs), some (.int p), some (.tup ys), some (.int s), some (.int (m : Int)), none]) ?_ ?_
  · simp only [sp_set, wp_bin, wp_ca, wp_cons, wp_nil, wp_var, List.getElem?_cons_succ, List.getElem?_cons_zero, Option.some.injEq, ex_eq, w_lenT, w_sub, w_min2, List.set_cons_zero, List.set_cons_succ]
    by_cases c : (ys.length : Int) - s < (xs.length : Int) - p
    · refine ⟨ys.length - s, .inr rfl, by omega, by omega, trivial, ?_⟩
      rw [if_pos c]
      congr
      omega
    · refine ⟨xs.length - p, .inl rfl, by omega, by omega, trivial, ?_⟩
      rw [if_neg c]
      congr
      omega
  rintro ρ st1 ⟨m, m0, m1, m2, rfl, rfl⟩
  refine seq_cut (fun ρ st' => st' = st1 ∧ ρ = [some (.tup xs), some (.int p), some (.tup ys), some (.int s), some (.int (m : Int)), some (.int 0)]) ?_ ?_
  · simp
  rintro ρ st2 ⟨rfl, rfl⟩
  refine seq_cut (fun ρ st' => st' = st2 ∧ ρ = [some (.tup xs), some (.int p), some (.tup ys), some (.int s), some (.int (m : Int)), some (.int (agr (ys.drop s) (xs.drop p)))]) ?_ ?_
  · refine while_wp (fun ρ st' => ∃ c : Nat, c ≤ m ∧ (ys.drop s).take c = (xs.drop p).take c ∧ st' = st2 ∧ ρ = [some (.tup xs), some (.int p), some (.tup ys), some (.int s), some (.int (m : Int)), some (.int (c : Int))]) (fun ρ _ => match ρ with
      | [_, _, _, _, _, some (.int c)] => m - c.toNat
      | _ => 0) ?_ ⟨0, by omega, rfl, rfl, rfl⟩
    rintro ρ st' ⟨c, hc, ht, rfl, rfl⟩
    simp only [wp_and, wp_gb, wp_bin, wp_var, List.getElem?_cons_succ, List.getElem?_cons_zero, Option.some.injEq, ex_eq, w_lt, w_getB, decide_eq_true_eq]
    split
    · rename_i hlt
      have a1 : atI xs ((p : Int) + (c : Int)) = some xs[p + c] := by
        rw [atI_nn (by omega), show ((p : Int) + (c : Int)).toNat = p + c by omega, List.getElem?_eq_getElem]
      have a2 : atI ys ((s : Int) + (c : Int)) = some ys[s + c] := by
        rw [atI_nn (by omega), show ((s : Int) + (c : Int)).toNat = s + c by omega, List.getElem?_eq_getElem]
      simp only [w_add, w_ixT, a1, a2, Option.some.injEq, ex_eq]
      have b1 : (xs.drop p)[c]? = some xs[p + c] := by rw [List.getElem?_drop, List.getElem?_eq_getElem]
      have b2 : (ys.drop s)[c]? = some ys[s + c] := by rw [List.getElem?_drop, List.getElem?_eq_getElem]
      refine w_eqC ((el_cmp (hx _ (List.getElem_mem _))).mono (by omega)) ((el_cmp (hy _ (List.getElem_mem _))).mono (by omega)) ?_
      by_cases q : xs[p + c] = ys[s + c]
      · simp only [q, decide_true, w_getB, if_true]
        simp only [sp_aug, wp_var, wp_c, List.getElem?_cons_succ, List.getElem?_cons_zero, Option.some.injEq, ex_eq, w_iadd, List.set_cons_zero, List.set_cons_succ]
        refine ⟨⟨c + 1, by omega, ?_, trivial, by simp⟩, ?_⟩
        · rw [List.take_add_one, List.take_add_one, ht, b1, b2, q]
        · simp
          omega
      · simp only [q, decide_false, w_getB, Bool.false_eq_true, if_false]
        rw [agr_is ht (by rw [List.length_drop]; omega) (by rw [List.length_drop]; omega) (.inr (.inr (by rw [b1, b2]; simpa using fun z => q z.symm)))]
        simp
    · rename_i hlt
      have : c = m := by omega
      subst this
      simp only [Bool.false_eq_true, if_false]
      rw [agr_is ht (by rw [List.length_drop]; omega) (by rw [List.length_drop]; omega) (by
        rw [List.length_drop, List.length_drop]
        omega)]
      simp
  rintro ρ st3 ⟨rfl, rfl⟩
  simp only [sp_ret, wp_var, List.getElem?_cons_succ, List.getElem?_cons_zero, Option.some.injEq, ex_eq]
  exact k
def triA (b : N3) : A := .tup [.int (b.2.1 : Nat), .int (b.2.2 : Nat), .int (b.1 : Nat)]
def SlI (xs : List A) (p : Nat) (Bs : List (List A)) (st0 : Store) (i : Nat) (ρ : ML.Env) (st : Store) : Prop := ∃ v4 v5 v6 v7 : Option A, st = st0 ∧ ρ = [some (.tup xs), some (.int p), some (.tup (Bs.map A.tup)), some (triA (outB (xs.drop p) Bs i)), v4, v5, v6, v7]
def SlJ (xs : List A) (p : Nat) (Bs : List (List A)) (B : List A) (st0 : Store) (i : Nat) (s : Nat) (ρ : ML.Env) (st : Store) : Prop := ∃ v6 v7 : Option A, st = st0 ∧ ρ = [some (.tup xs), some (.int p), some (.tup (Bs.map A.tup)), some (triA (inB (xs.drop p) B i (outB (xs.drop p) Bs i) s)), some (.int (i : Nat)), some (.tup B), v6, v7]
theorem slice_wp {xs : List A} {p : Nat} {Bs : List (List A)} {st : Store} {Q : A → Store → Prop} (hx : ∀ x ∈ xs, El x) (hB : ∀ B ∈ Bs, B.length ≤ 100000 ∧ ∀ x ∈ B, El x) (hp : p < xs.length) (hn : Bs.length ≤ 100000) (k : Q (triA (lgst Bs (xs.drop p))) st) : (m_longest_slice [.tup xs, .int p, .tup (Bs.map A.tup)] st).wp Q := by
  simp only [m_longest_slice]
  rw [wp_fn]
  refine ⟨rfl, ?_⟩
  simp only [List.map_cons, List.map_nil, List.cons_append, List.nil_append, List.replicate, Nat.reduceSub]
  have AW := @agreement_wp
  generalize m_agreement = ma at AW ⊢
  generalize hF : @mFor = F
  refine seq_cut (SlI xs p Bs st 0) ?_ ?_
  · simp only [sp_set, wp_tup, wp_cons, wp_nil, wp_c, List.set_cons_zero, List.set_cons_succ]
    exact ⟨by simp [sizeLine], none, none, none, none, rfl, rfl⟩
  rintro ρ st1 h1
  refine seq_cut (SlI xs p Bs st Bs.length) ?_ ?_
  · subst hF
    have h1' := h1
    obtain ⟨v4, v5, v6, v7, rfl, rfl⟩ := h1
    simp only [sp_for, wp_enumT, wp_cons, wp_nil, wp_var, List.getElem?_cons_succ, List.getElem?_cons_zero, Option.some.injEq, ex_eq, w_enumT]
    refine for_zipv (SlI xs p Bs st1) (by simp [cntA]) h1' ?_ (fun ρ st' q => by rw [List.length_map] at q; exact q) _ (by simp [Src.size, cntA])
    rintro i x y ρ st2 hxi hyi ⟨v4, v5, v6, v7, rfl, rfl⟩
    rw [List.getElem?_map, Option.map_eq_some_iff] at hyi
    obtain ⟨B, hb, rfl⟩ := hyi
    have hi : i < Bs.length := (List.getElem?_eq_some_iff.mp hb).1
    have ex : x = .int (i : Nat) := by
      simp [cntA, hi] at hxi
      exact hxi.symm
    subst ex
    have hBm := List.mem_of_getElem? hb
    have hgd : Bs.getD i [] = B := by rw [List.getD_eq_getElem?_getD, hb]; rfl
    have hBl := (hB B hBm).1
    refine ⟨[some (.tup xs), some (.int p), some (.tup (Bs.map A.tup)), some (triA (outB (xs.drop p) Bs i)), some (.int (i : Nat)), some (.tup B), v6, v7], rfl, ?_⟩
    simp only [sp_for, wp_rng, wp_ca, wp_cons, wp_nil, wp_var, List.getElem?_cons_succ, List.getElem?_cons_zero, Option.some.injEq, ex_eq, w_lenT, w_rng1, List.set_cons_zero, List.set_cons_succ]
    refine ⟨⟨by omega, by omega⟩, ?_⟩
    rw [Int.toNat_natCast]
    refine for_rng (SlJ xs p Bs B st2 i) ⟨v6, v7, rfl, rfl⟩ ?_ (fun ρ st' q => by
      obtain ⟨v6, v7, q1, q2⟩ := q
      refine ⟨some (.int (i : Nat)), some (.tup B), v6, v7, q1, ?_⟩
      rw [q2]
      simp only [outB, hgd])
    rintro s ρ st3 hs ⟨v6, v7, rfl, rfl⟩
    refine ⟨_, rfl, ?_⟩
    have a1 : atI B (0 + (s : Int)) = some B[s] := by
      rw [atI_nn (by omega), show (0 + (s : Int)).toNat = s by omega, List.getElem?_eq_getElem]
    have a2 : atI xs (p : Int) = some xs[p] := by
      rw [atI_nn (by omega), Int.toNat_natCast, List.getElem?_eq_getElem]
    have dB : B.drop s = B[s] :: B.drop (s + 1) := List.drop_eq_getElem_cons hs
    have dX : xs.drop p = xs[p] :: xs.drop (p + 1) := List.drop_eq_getElem_cons hp
    simp only [sp_ifs, wp_gb, wp_bin, wp_var, List.getElem?_cons_succ, List.getElem?_cons_zero, Option.some.injEq, ex_eq, List.set_cons_zero, List.set_cons_succ, w_ixT, a1, a2]
    refine w_eqC ((el_cmp ((hB B hBm).2 _ (List.getElem_mem _))).mono (by omega)) ((el_cmp (hx _ (List.getElem_mem _))).mono (by omega)) ?_
    by_cases q : B[s] = xs[p]
    · simp only [q, decide_true, w_getB, if_true]
      refine seq_cut (fun ρ st' => st' = st3 ∧ ρ = [some (.tup xs), some (.int p), some (.tup (Bs.map A.tup)), some (triA (inB (xs.drop p) B i (outB (xs.drop p) Bs i) s)), some (.int (i : Nat)), some (.tup B), some (.int (0 + (s : Int))), some (.int (agr (B.drop s) (xs.drop p)))]) ?_ ?_
      · simp only [sp_set, wp_call, wp_cons, wp_nil, wp_var, List.getElem?_cons_succ, List.getElem?_cons_zero, Option.some.injEq, ex_eq, List.set_cons_zero, List.set_cons_succ]
        rw [show (0 : Int) + (s : Int) = ((s : Nat) : Int) by omega]
        exact AW hx (hB B hBm).2 (by omega) (by omega) ⟨rfl, rfl⟩
      rintro ρ st4 ⟨rfl, rfl⟩
      have i2 : atI [A.int ((inB (xs.drop p) B i (outB (xs.drop p) Bs i) s).2.1 : Nat), .int ((inB (xs.drop p) B i (outB (xs.drop p) Bs i) s).2.2 : Nat), .int ((inB (xs.drop p) B i (outB (xs.drop p) Bs i) s).1 : Nat)] 2 = some (.int ((inB (xs.drop p) B i (outB (xs.drop p) Bs i) s).1 : Nat)) := rfl
      simp only [sp_ifs, wp_gb, wp_bin, wp_c, wp_var, List.getElem?_cons_succ, List.getElem?_cons_zero, Option.some.injEq, ex_eq, triA, w_ixT, i2, w_gt, w_getB, decide_eq_true_eq]
      by_cases g : (inB (xs.drop p) B i (outB (xs.drop p) Bs i) s).1 < agr (B.drop s) (xs.drop p)
      · rw [if_pos (by omega)]
        simp only [sp_set, wp_tup, wp_cons, wp_nil, wp_var, List.getElem?_cons_succ, List.getElem?_cons_zero, Option.some.injEq, ex_eq, List.set_cons_zero, List.set_cons_succ]
        refine ⟨by simp [sizeLine], some (.int (0 + (s : Int))), some (.int (agr (B.drop s) (xs.drop p))), rfl, ?_⟩
        simp only [inB, better, if_pos g, triA]
        rw [show (0 : Int) + (s : Int) = (s : Int) by omega]
      · rw [if_neg (by omega)]
        simp only [sp_next]
        refine ⟨some (.int (0 + (s : Int))), some (.int (agr (B.drop s) (xs.drop p))), rfl, ?_⟩
        simp only [inB, better, if_neg g, triA]
    · simp only [q, decide_false, w_getB, Bool.false_eq_true, if_false, sp_next]
      have z : agr (B.drop s) (xs.drop p) = 0 := by
        rw [dB, dX]
        simp [agr, q]
      refine ⟨some (.int (0 + (s : Int))), v7, rfl, ?_⟩
      simp only [inB, better, z, Nat.not_lt_zero, if_false]
  rintro ρ st2 ⟨v4, v5, v6, v7, rfl, rfl⟩
  simp only [sp_ret, wp_var, List.getElem?_cons_succ, List.getElem?_cons_zero, Option.some.injEq, ex_eq]
  exact k
def lensB (Bs : List (List A)) : List Int := Bs.map fun B => (B.length : Int)
abbrev tooLarge : Er := ⟨"DeltaTooLarge", []⟩
theorem work_wp {xs : List A} {Bs : List (List A)} {v2 v3 v4 v5 v6 v7 : Option A} {st : Store} {Q : Bool → Store → Prop} (hn : Bs.length ≤ 100000) (hl : xs.length ≤ 100000) (k : Q (decide (100000 < (xs.length : Int) * (lensB Bs).sum)) (st ++ [.lst ((lensB Bs).map A.int)])) : (mGB (mBin gtA (mBin mulA (mCa lenA (mCons (mVar 0) mNil)) (mCa sumA (mCons (mLc (mSrc (mVar 1)) (.one 7) [7] mYes (mCa lenA (mCons (mVar 7) mNil))) mNil))) (mC (.int 100000))) [some (.tup xs), some (.tup (Bs.map A.tup)), v2, v3, v4, v5, v6, v7] st).wp Q := by
  simp only [wp_gb, wp_bin, wp_ca, wp_cons, wp_nil, wp_lc, wp_src, wp_var, wp_c, List.getElem?_cons_succ, List.getElem?_cons_zero, Option.some.injEq, ex_eq, w_lenT, w_srcT, wipeA_cons, wipeA_nil]
  refine lc_vals (fun i st' acc => st' = st ∧ acc = (lensB (Bs.take i)).map A.int) ⟨rfl, by simp [lensB]⟩ ?_ ?_
  · rintro i x st' acc hx ⟨rfl, rfl⟩
    refine ⟨_, rfl, ?_⟩
    rw [List.getElem?_map, Option.map_eq_some_iff] at hx
    obtain ⟨B, hb, rfl⟩ := hx
    simp only [wp_yes, if_true, wp_ca, wp_cons, wp_nil, wp_var, List.set_cons_succ, List.set_cons_zero, List.getElem?_cons_succ, List.getElem?_cons_zero, Option.some.injEq, ex_eq, w_lenT]
    refine ⟨?_, trivial, ?_⟩
    · rw [size_eq]
      simp [lensB]
      omega
    · simp only [lensB]
      rw [List.take_add_one, hb]
      simp
  · rintro st' acc ⟨rfl, rfl⟩
    rw [List.length_map, List.take_length]
    refine w_sumI stL_new ?_
    rw [w_mul]
    exact ⟨cmul_l (by omega) (by omega), k⟩
theorem find_large {xs : List A} {Bs : List (List A)} {st : Store} (hn : Bs.length ≤ 100000) (hl : xs.length ≤ 100000) (h : 100000 < (xs.length : Int) * (lensB Bs).sum) : m_find_delta [.tup xs, .tup (Bs.map A.tup)] st = .er tooLarge (st ++ [.lst ((lensB Bs).map A.int)]) := by
  have W := fun v2 v3 v4 v5 v6 v7 => @work_wp xs Bs v2 v3 v4 v5 v6 v7 st (fun b s => b = true ∧ s = st ++ [.lst ((lensB Bs).map A.int)]) hn hl ⟨by simpa using h, rfl⟩
  simp only [m_find_delta]
  generalize hg : mGB (mBin gtA (mBin mulA (mCa lenA (mCons (mVar 0) mNil)) (mCa sumA (mCons (mLc (mSrc (mVar 1)) (.one 7) [7] mYes (mCa lenA (mCons (mVar 7) mNil))) mNil))) (mC (.int 100000))) = G at W ⊢
  have E := is_ok (W none none none none none none)
  simp only [mFn, mSeq, List.map_cons, List.map_nil, List.cons_append, List.nil_append, List.replicate, Nat.reduceSub, List.length_cons, List.length_nil, mIfS, R.bind, R.toS, E, mRaise0]
  rfl
def FdtI (xs : List A) (Bs : List (List A)) (st0 : Store) (ρ : ML.Env) (st : Store) : Prop := ∃ (r k : Nat) (v4 v5 v6 v7 : Option A), (k = 0 ∨ (gst Bs xs (k - 1)).1 < xs.length) ∧ Kp st0 st ∧ (∀ i, i < st0.length → st[i]? = st0[i]?) ∧ st0.length ≤ r ∧ stL st r = some ((gst Bs xs k).2.map pcA) ∧ ρ = [some (.tup xs), some (.tup (Bs.map A.tup)), some (.ref r), some (.int ((gst Bs xs k).1 : Nat)), v4, v5, v6, v7]
theorem find_wp {xs : List A} {Bs : List (List A)} {st : Store} {Q : A → Store → Prop} (hx : ∀ x ∈ xs, El x) (hB : ∀ B ∈ Bs, B.length ≤ 100000 ∧ ∀ x ∈ B, El x) (hn : Bs.length ≤ 100000) (hl : xs.length ≤ 100000) (h : ¬ 100000 < (xs.length : Int) * (lensB Bs).sum) (k : ∀ st', (∀ r ys, stL st r = some ys → stL st' r = some ys) → Q (.tup ((grd Bs xs).map pcA)) st') : (m_find_delta [.tup xs, .tup (Bs.map A.tup)] st).wp Q := by
  simp only [m_find_delta]
  rw [wp_fn]
  refine ⟨rfl, ?_⟩
  simp only [List.map_cons, List.map_nil, List.cons_append, List.nil_append, List.replicate, Nat.reduceSub]
  have SW := @slice_wp
  have WW := @work_wp
  generalize m_longest_slice = ms at SW ⊢
  generalize hg : mGB (mBin gtA (mBin mulA (mCa lenA (mCons (mVar 0) mNil)) (mCa sumA (mCons (mLc (mSrc (mVar 1)) (.one 7) [7] mYes (mCa lenA (mCons (mVar 7) mNil))) mNil))) (mC (.int 100000))) = G at WW ⊢
  refine seq_cut (fun ρ st' => st' = st ++ [.lst ((lensB Bs).map A.int)] ∧ ρ = [some (.tup xs), some (.tup (Bs.map A.tup)), none, none, none, none, none, none]) ?_ ?_
  · rw [sp_ifs]
    refine WW hn hl ?_
    simp [h]
  rintro ρ st1 ⟨rfl, rfl⟩
  have g1 : Grown st (st ++ [.lst ((lensB Bs).map A.int)]) := .one _ _
  refine seq_cut (fun ρ st' => st' = st ++ [.lst ((lensB Bs).map A.int)] ++ [.lst []] ∧ ρ = [some (.tup xs), some (.tup (Bs.map A.tup)), some (.ref (st ++ [Ob.lst ((lensB Bs).map A.int)]).length), none, none, none, none, none]) ?_ ?_
  · simp only [sp_set, wp_lst, wp_nil, List.set_cons_zero, List.set_cons_succ]
    exact ⟨by simp [sizeLine], trivial, trivial⟩
  rintro ρ st2 ⟨rfl, rfl⟩
  have g2 := g1.trans (.one _ (.lst []))
  have h0 : FdtI xs Bs st [some (.tup xs), some (.tup (Bs.map A.tup)), some (.ref (st ++ [Ob.lst ((lensB Bs).map A.int)]).length), some (.int 0), none, none, none, none] (st ++ [.lst ((lensB Bs).map A.int)] ++ [.lst []]) := ⟨_, 0, none, none, none, none, .inl rfl, Kp.grown g2, fun i hi => by
    rw [List.getElem?_append_left (by simp; omega), List.getElem?_append_left hi], by simp, stL_new, rfl⟩
  refine seq_cut (FdtI xs Bs st) ?_ ?_
  · simp only [sp_set, wp_c, List.set_cons_zero, List.set_cons_succ]
    exact h0
  intro ρ st3 h3
  refine seq_cut (fun ρ st' => ∃ (r : Nat) (v3 v4 v5 v6 v7 : Option A), (∀ i, i < st.length → st'[i]? = st[i]?) ∧ stL st' r = some ((grd Bs xs).map pcA) ∧ ρ = [some (.tup xs), some (.tup (Bs.map A.tup)), some (.ref r), v3, v4, v5, v6, v7]) ?_ ?_
  · refine while_wp (FdtI xs Bs st) (fun ρ _ => match ρ with
      | [_, _, _, some (.int p), _, _, _, _] => xs.length - p.toNat
      | _ => 0) ?_ h3
    rintro ρ st' ⟨r, j, v4, v5, v6, v7, hj, k', o', hr, hs, rfl⟩
    simp only [wp_gb, wp_bin, wp_ca, wp_cons, wp_nil, wp_var, List.getElem?_cons_succ, List.getElem?_cons_zero, Option.some.injEq, ex_eq, w_lenT, w_lt, w_getB]
    have hjl : j ≤ xs.length := by
      rcases hj with rfl | hj
      · omega
      · rcases gst_far (Bs := Bs) (xs := xs) (j - 1) with q | q
        · omega
        · omega
    have hps : (gst Bs xs j).2.length ≤ j := gst_len j
    by_cases c : (gst Bs xs j).1 < xs.length
    · rw [if_pos (by simpa using c)]
      have lg := lgst_le Bs (xs.drop (gst Bs xs j).1)
      rw [List.length_drop] at lg
      have hstep : gst Bs xs (j + 1) = if (lgst Bs (xs.drop (gst Bs xs j).1)).1 = 0 then ((gst Bs xs j).1 + 1, (gst Bs xs j).2 ++ [.ins (xs.getD (gst Bs xs j).1 .non)])
          else ((gst Bs xs j).1 + (lgst Bs (xs.drop (gst Bs xs j).1)).1, (gst Bs xs j).2 ++ [.cp (lgst Bs (xs.drop (gst Bs xs j).1)).2.1 (lgst Bs (xs.drop (gst Bs xs j).1)).2.2 (((lgst Bs (xs.drop (gst Bs xs j).1)).2.2 : Int) + (lgst Bs (xs.drop (gst Bs xs j).1)).1)]) := by
        conv => lhs; rw [gst]
        rw [if_pos c]
      generalize hG : gst Bs xs j = G1 at *
      obtain ⟨p, ps⟩ := G1
      simp only at *
      generalize hL : lgst Bs (xs.drop p) = L at *
      obtain ⟨m, b, s⟩ := L
      simp only at *
      refine seq_cut (fun ρ st'' => st'' = st' ∧ ρ = [some (.tup xs), some (.tup (Bs.map A.tup)), some (.ref r), some (.int (p : Nat)), some (.int (b : Nat)), some (.int (s : Nat)), some (.int (m : Nat)), v7]) ?_ ?_
      · simp only [sp_asg, wp_call, wp_cons, wp_nil, wp_var, List.getElem?_cons_succ, List.getElem?_cons_zero, Option.some.injEq, ex_eq]
        refine SW hx hB c hn ?_
        rw [hL]
        exact ⟨_, rfl, rfl, rfl⟩
      rintro ρ st'' ⟨rfl, rfl⟩
      have hrl : r < st''.length := (List.getElem?_eq_some_iff.mp (stL_eq hs)).1
      simp only [sp_ifs, wp_gb, wp_bin, wp_c, wp_var, List.getElem?_cons_succ, List.getElem?_cons_zero, Option.some.injEq, ex_eq, w_eq, w_getB, decide_eq_true_eq]
      by_cases z : m = 0
      · rw [if_pos (by omega)]
        rw [if_pos z] at hstep
        have a2 : atI xs (p : Int) = some xs[p] := by
          rw [atI_nn (by omega), Int.toNat_natCast, List.getElem?_eq_getElem]
        have gd : xs.getD p .non = xs[p] := by rw [List.getD_eq_getElem?_getD, List.getElem?_eq_getElem c]; rfl
        simp only [sp_seq, sp_expr, wp_bm, wp_tup, wp_bin, wp_cons, wp_nil, wp_c, wp_var, List.getElem?_cons_succ, List.getElem?_cons_zero, Option.some.injEq, ex_eq, isL_ref, hs, Option.isSome_some, w_ixT, a2]
        refine ⟨trivial, by simp [sizeLine], ?_⟩
        rw [w_append, hs]
        refine ⟨_, rfl, by rw [size_eq, List.length_map]; omega, ?_⟩
        simp only [sp_aug, wp_var, wp_c, List.getElem?_cons_succ, List.getElem?_cons_zero, Option.some.injEq, ex_eq, w_iadd, List.set_cons_zero, List.set_cons_succ]
        refine ⟨⟨r, j + 1, some (.int (b : Nat)), some (.int (s : Nat)), some (.int (m : Nat)), v7, .inr (by rw [show j + 1 - 1 = j by omega, hG]; exact c), kp_put k' hr, fun i hi => by rw [List.getElem?_set_ne (by omega)]; exact o' i hi, hr, by rw [stL_set_self hs, hstep, gd]; simp [pcA], by rw [hstep]; simp⟩, ?_⟩
        simp
        omega
      · rw [if_neg (by omega)]
        rw [if_neg z] at hstep
        simp only [sp_seq, sp_expr, wp_bm, wp_tup, wp_bin, wp_cons, wp_nil, wp_c, wp_var, List.getElem?_cons_succ, List.getElem?_cons_zero, Option.some.injEq, ex_eq, isL_ref, hs, Option.isSome_some, w_add]
        refine ⟨trivial, by simp [sizeLine], ?_⟩
        rw [w_append, hs]
        refine ⟨_, rfl, by rw [size_eq, List.length_map]; omega, ?_⟩
        simp only [sp_aug, wp_var, wp_c, List.getElem?_cons_succ, List.getElem?_cons_zero, Option.some.injEq, ex_eq, w_iadd, List.set_cons_zero, List.set_cons_succ]
        refine ⟨⟨r, j + 1, some (.int (b : Nat)), some (.int (s : Nat)), some (.int (m : Nat)), v7, .inr (by rw [show j + 1 - 1 = j by omega, hG]; exact c), kp_put k' hr, fun i hi => by rw [List.getElem?_set_ne (by omega)]; exact o' i hi, hr, by rw [stL_set_self hs, hstep]; simp [pcA], by rw [hstep]; simp⟩, ?_⟩
        simp
        omega
    · rw [if_neg (by simpa using c)]
      refine ⟨r, _, _, _, _, _, o', ?_, rfl⟩
      rw [hs, gst_end hjl c]
  rintro ρ st4 ⟨r, v3, v4, v5, v6, v7, o4, h4, rfl⟩
  simp only [sp_ret, wp_ca, wp_cons, wp_nil, wp_var, List.getElem?_cons_succ, List.getElem?_cons_zero, Option.some.injEq, ex_eq, w_tupL, h4]
  refine k st4 fun q ys e => ?_
  have hq := (List.getElem?_eq_some_iff.mp (stL_eq e)).1
  exact stL_of (by rw [o4 q hq]; exact stL_eq e)
end Law
namespace Law
open PySem PySem.Spec L2 ML
/-! mirrors -/
def m_law_step : MF := mFn 12 4 (mSeq (mSet 4 (mCall m_law_draw (mCons (mVar 0) (mCons (mC (.int 6)) mNil))))
    (mSeq (mSet 5 (mTup (mCons (mC (.str "literal")) (mCons (mCall m_law_element (mCons (mVar 0) mNil)) mNil))))
    (mSeq (mIfS (mAnd (mGB (mBin ltA (mVar 4) (mC (.int 3)))) (mTru (mVar 1))) (mSeq (mSet 6 (mCall m_law_draw (mCons (mVar 0) (mCons (mCa lenA (mCons (mVar 1) mNil)) mNil))))
    (mSeq (mSet 7 (mCa lenA (mCons (mBin ixA (mVar 1) (mVar 6)) mNil)))
    (mSeq (mSet 8 (mCall m_law_draw (mCons (mVar 0) (mCons (mCa minA (mCons (mBin addA (mVar 7) (mC (.int 1))) (mCons (mBin ixA (mLst (mCons (mC (.int 9)) (mCons (mC (.int 2001)) mNil))) (mCall m_law_draw (mCons (mVar 0) (mCons (mC (.int 2)) mNil)))) mNil))) mNil))))
    (mSet 5 (mTup (mCons (mC (.str "copy")) (mCons (mVar 6) (mCons (mVar 8) (mCons (mBin subA (mVar 7) (mCall m_law_draw (mCons (mVar 0) (mCons (mCa minA (mCons (mBin subA (mBin addA (mVar 7) (mC (.int 1))) (mVar 8)) (mCons (mBin ixA (mLst (mCons (mC (.int 9)) (mCons (mC (.int 2001)) mNil))) (mCall m_law_draw (mCons (mVar 0) (mCons (mC (.int 2)) mNil)))) mNil))) mNil)))) mNil))))))))) mNext)
    (mSeq (mIfS (mAnd (mGB (mBin gtA (mVar 4) (mC (.int 3)))) (mTru (mVar 2))) (mSet 5 (mTup (mCons (mC (.str "concat")) (mCons (mBin mulA (mCa tupleA (mCons (mLc (mRng (mCons (mCall m_law_draw (mCons (mVar 0) (mCons (mC (.int 4)) mNil))) mNil)) (.one 10) [10] mYes (mCall m_law_draw (mCons (mVar 0) (mCons (mCa lenA (mCons (mVar 2) mNil)) mNil)))) mNil)) (mBin ixA (mLst (mCons (mC (.int 1)) (mCons (mC (.int 1)) (mCons (mC (.int 1)) (mCons (mC (.int 33)) mNil))))) (mCall m_law_draw (mCons (mVar 0) (mCons (mC (.int 4)) mNil))))) mNil)))) mNext)
    (mSeq (mIfS (mAnd (mGB (mBin eqA (mVar 4) (mC (.int 3)))) (mTru (mVar 2))) (mSet 5 (mTup (mCons (mC (.str "repeat")) (mCons (mCall m_law_draw (mCons (mVar 0) (mCons (mCa lenA (mCons (mVar 2) mNil)) mNil))) (mCons (mBin ixA (mLst (mCons (mC (.int 0)) (mCons (mC (.int 1)) (mCons (mC (.int 2)) (mCons (mC (.int 3)) (mCons (mC (.int 5)) (mCons (mC (.int 12)) (mCons (mC (.int 40)) mNil)))))))) (mCall m_law_draw (mCons (mVar 0) (mCons (mC (.int 7)) mNil)))) mNil))))) mNext)
    (mSeq (mSet 9 (mC (.int 1)))
    (mSeq (mIfS (mGB (mBin eqA (mBin ixA (mVar 5) (mC (.int 0))) (mC (.str "copy")))) (mSet 9 (mBin subA (mBin ixA (mVar 5) (mC (.int 3))) (mBin ixA (mVar 5) (mC (.int 2))))) (mIfS (mGB (mBin eqA (mBin ixA (mVar 5) (mC (.int 0))) (mC (.str "repeat")))) (mSet 9 (mBin mulA (mCa lenA (mCons (mBin ixA (mVar 2) (mBin ixA (mVar 5) (mC (.int 1)))) mNil)) (mBin ixA (mVar 5) (mC (.int 2))))) (mIfS (mGB (mBin eqA (mBin ixA (mVar 5) (mC (.int 0))) (mC (.str "concat")))) (mSet 9 (mCa sumA (mCons (mLc (mSrc (mBin ixA (mVar 5) (mC (.int 1)))) (.one 11) [11] mYes (mCa lenA (mCons (mBin ixA (mVar 2) (mVar 11)) mNil))) mNil))) mNext)))
    (mSeq (mIfS (mGB (mBin gtA (mVar 9) (mVar 3))) (mSet 5 (mTup (mCons (mC (.str "literal")) (mCons (mVar 4) mNil)))) mNext)
    (mRet (mVar 5))))))))))
def m_law_result : MF := mFn 5 3 (mSeq (mIfS (mGB (mBin eqA (mBin ixA (mVar 2) (mC (.int 0))) (mC (.str "literal")))) (mRet (mLst (mCons (mBin ixA (mVar 2) (mC (.int 1))) mNil))) mNext)
    (mSeq (mIfS (mGB (mBin eqA (mBin ixA (mVar 2) (mC (.int 0))) (mC (.str "copy")))) (mRet (mSl (mBin ixA (mVar 0) (mBin ixA (mVar 2) (mC (.int 1)))) (mPart (mBin ixA (mVar 2) (mC (.int 2)))) (mPart (mBin ixA (mVar 2) (mC (.int 3)))))) mNext)
    (mSeq (mIfS (mGB (mBin eqA (mBin ixA (mVar 2) (mC (.int 0))) (mC (.str "repeat")))) (mRet (mBin mulA (mBin ixA (mVar 1) (mBin ixA (mVar 2) (mC (.int 1)))) (mBin ixA (mVar 2) (mC (.int 2))))) mNext)
    (mSeq (mSet 3 (mLst mNil))
    (mSeq (mFor (mSrc (mBin ixA (mVar 2) (mC (.int 1)))) (.one 4) (mSet 3 (mBin addA (mVar 3) (mBin ixA (mVar 1) (mVar 4)))))
    (mRet (mVar 3)))))))
def m_result_length : MF := mFn 3 2 (mSeq (mIfS (mGB (mBin eqA (mBin ixA (mVar 0) (mC (.int 0))) (mC (.str "copy")))) (mRet (mBin subA (mBin ixA (mVar 0) (mC (.int 3))) (mBin ixA (mVar 0) (mC (.int 2))))) mNext)
    (mSeq (mIfS (mGB (mBin eqA (mBin ixA (mVar 0) (mC (.int 0))) (mC (.str "concat")))) (mRet (mCa sumA (mCons (mLc (mSrc (mBin ixA (mVar 0) (mC (.int 1)))) (.one 2) [2] mYes (mCa lenA (mCons (mBin ixA (mVar 1) (mVar 2)) mNil))) mNil))) mNext)
    (mSeq (mIfS (mGB (mBin eqA (mBin ixA (mVar 0) (mC (.int 0))) (mC (.str "repeat")))) (mRet (mBin mulA (mCa lenA (mCons (mBin ixA (mVar 1) (mBin ixA (mVar 0) (mC (.int 1)))) mNil)) (mBin ixA (mVar 0) (mC (.int 2))))) mNext)
    (mRet (mC (.int 1))))))
def m_check_count : MF := mFn 1 1 (mIfS (mGB (mBin gtA (mVar 0) (mC (.int 2000)))) (mRaise "TooManyElements" "count" (mVar 0)) mNext)
def m_is_valid : MF := mFn 7 3 (mSeq (mIfS (mGB (mBin eqA (mBin ixA (mVar 0) (mC (.int 0))) (mC (.str "copy")))) (mSeq (mAsg (.many [3, 4, 5]) (mSl (mVar 0) (mPart (mC (.int 1))) mNoPart))
    (mRet (mAndV (mBin ltA (mVar 3) (mCa lenA (mCons (mVar 2) mNil))) (mAndV (mBin leA (mVar 4) (mVar 5)) (mBin leA (mVar 5) (mCa lenA (mCons (mBin ixA (mVar 2) (mVar 3)) mNil))))))) mNext)
    (mSeq (mIfS (mGB (mBin eqA (mBin ixA (mVar 0) (mC (.int 0))) (mC (.str "concat")))) (mRet (mCa allA (mCons (mLc (mSrc (mBin ixA (mVar 0) (mC (.int 1)))) (.one 6) [6] mYes (mBin ltA (mVar 6) (mVar 1))) mNil))) mNext)
    (mSeq (mIfS (mGB (mBin eqA (mBin ixA (mVar 0) (mC (.int 0))) (mC (.str "repeat")))) (mRet (mBin ltA (mBin ixA (mVar 0) (mC (.int 1))) (mVar 1))) mNext)
    (mRet (mC (.bl true))))))
def m_result_of : MF := mFn 8 3 (mSeq (mIfS (mGB (mBin eqA (mBin ixA (mVar 0) (mC (.int 0))) (mC (.str "copy")))) (mSeq (mAsg (.many [3, 4, 5]) (mSl (mVar 0) (mPart (mC (.int 1))) mNoPart))
    (mRet (mSl (mBin ixA (mVar 2) (mVar 3)) (mPart (mVar 4)) (mPart (mVar 5))))) mNext)
    (mSeq (mIfS (mGB (mBin eqA (mBin ixA (mVar 0) (mC (.int 0))) (mC (.str "concat")))) (mSeq (mSet 6 (mLst mNil))
    (mSeq (mFor (mSrc (mBin ixA (mVar 0) (mC (.int 1)))) (.one 7) (mExpr (mBm extendA (mVar 6) (mCons (mBin ixA (mVar 1) (mVar 7)) mNil))))
    (mRet (mCa tupleA (mCons (mVar 6) mNil))))) mNext)
    (mSeq (mIfS (mGB (mBin eqA (mBin ixA (mVar 0) (mC (.int 0))) (mC (.str "repeat")))) (mRet (mBin mulA (mBin ixA (mVar 1) (mBin ixA (mVar 0) (mC (.int 1)))) (mBin ixA (mVar 0) (mC (.int 2))))) mNext)
    (mRet (mTup (mCons (mBin ixA (mVar 0) (mC (.int 1))) mNil))))))
def m_run_recipe : MF := mFn 7 2 (mSeq (mSet 2 (mLst mNil))
    (mSeq (mSet 3 (mC (.int 0)))
    (mSeq (mFor (mEnumT (mCons (mVar 0) mNil)) (.many [4, 5]) (mSeq (mIfS (mNot (mTru (mCall m_is_valid (mCons (mVar 5) (mCons (mVar 4) (mCons (mVar 1) mNil)))))) (mRaise "InvalidInstruction" "place" (mVar 4)) mNext)
    (mSeq (mSet 6 (mCall m_result_length (mCons (mVar 5) (mCons (mVar 2) mNil))))
    (mSeq (mExpr (mCall m_check_count (mCons (mVar 6) mNil)))
    (mSeq (mAug 3 iaddA (mVar 6))
    (mSeq (mIfS (mGB (mBin gtA (mVar 3) (mC (.int 200000)))) (mRaise "RecipeTooLarge" "place" (mVar 4)) mNext)
    (mExpr (mBm appendA (mVar 2) (mCons (mCall m_result_of (mCons (mVar 5) (mCons (mVar 2) (mCons (mVar 1) mNil)))) mNil)))))))))
    (mSeq (mIfS (mNot (mTru (mVar 2))) (mRet (mTup mNil)) mNext)
    (mRet (mBin ixA (mVar 2) (mUn negA (mC (.int 1)))))))))
def m_law : MF := mFn 9 1 (mSeq (mSet 1 (mCall m_law_tape (mCons (mVar 0) mNil)))
    (mSeq (mSet 2 (mLc (mRng (mCons (mCall m_law_draw (mCons (mVar 1) (mCons (mBin ixA (mLst (mCons (mC (.int 4)) (mCons (mC (.int 4)) (mCons (mC (.int 9)) mNil)))) (mCall m_law_draw (mCons (mVar 1) (mCons (mC (.int 3)) mNil)))) mNil))) mNil)) (.one 5) [5] mYes (mCall m_law_contents (mCons (mVar 1) (mCons (mC (.int 20)) mNil)))))
    (mSeq (mSet 3 (mLst mNil))
    (mSeq (mSet 4 (mLst mNil))
    (mSeq (mFor (mRng (mCons (mCall m_law_draw (mCons (mVar 1) (mCons (mC (.int 9)) mNil))) mNil)) (.one 5) (mSeq (mSet 6 (mCall m_law_step (mCons (mVar 1) (mCons (mVar 2) (mCons (mVar 4) (mCons (mC (.int 300)) mNil))))))
    (mSeq (mExpr (mBm appendA (mVar 4) (mCons (mCall m_law_result (mCons (mVar 2) (mCons (mVar 4) (mCons (mVar 6) mNil)))) mNil)))
    (mExpr (mBm appendA (mVar 3) (mCons (mVar 6) mNil))))))
    (mSeq (mSet 7 (mBin addA (mLst (mCons (mLst mNil) mNil)) (mVar 4)))
    (mSeq (mFor (mRng (mCons (mCa lenA (mCons (mVar 7) mNil)) mNil)) (.one 5) (mSeq (mIfS (mTru (mVar 2)) (mSet 8 (mCall m_run_recipe (mCons (mCa tupleA (mCons (mSl (mVar 3) mNoPart (mPart (mVar 5))) mNil)) (mCons (mCall m_law_given (mCons (mVar 2) mNil)) mNil)))) (mSet 8 (mCall m_run_recipe (mCons (mCa tupleA (mCons (mSl (mVar 3) mNoPart (mPart (mVar 5))) mNil)) (mCons (mC (.tup [])) mNil)))))
    (mIfS (mNot (mTru (mCall (m_law_alike 40) (mCons (mVar 8) (mCons (mCa tupleA (mCons (mBin ixA (mVar 7) (mVar 5)) mNil)) mNil))))) (mRet (mC (.bl false))) mNext)))
    (mRet (mC (.bl true))))))))))
/-! an instruction, its outcome -/
inductive Ins where
  | lit (x : A)
  | copy (b s e : Nat)
  | cat (ps : List Nat)
  | rep (p n : Nat)
def natA (n : Nat) : A := .int (n : Int)
def insA : Ins → A
  | .lit x => .tup [.str "literal", x]
  | .copy b s e => .tup [.str "copy", natA b, natA s, natA e]
  | .cat ps => .tup [.str "concat", .tup (ps.map natA)]
  | .rep p n => .tup [.str "repeat", natA p, natA n]
def resI (B R : List (List A)) : Ins → List A
  | .lit x => [x]
  | .copy b s e => cutA (bAt B b) (some (s : Int)) (some (e : Int))
  | .cat ps => (ps.map fun p : Nat => bAt R p).flatten
  | .rep p n => (List.replicate n (bAt R p)).flatten
def okI (B R : List (List A)) : Ins → Prop
  | .lit x => El x
  | .copy b s e => b < B.length ∧ s ≤ e ∧ e ≤ (bAt B b).length
  | .cat ps => (∀ p ∈ ps, p < R.length) ∧ ps.length ≤ 99
  | .rep p n => p < R.length ∧ n ≤ 40
def lenI (R : List (List A)) : Ins → Nat
  | .lit _ => 1
  | .copy _ s e => e - s
  | .cat ps => (ps.map fun p : Nat => (bAt R p).length).sum
  | .rep p n => (bAt R p).length * n
theorem lenI_eq {B R : List (List A)} {I : Ins} (h : okI B R I) : (resI B R I).length = lenI R I := by
  cases I with
  | lit x => rfl
  | copy b s e =>
    obtain ⟨h1, h2, h3⟩ := h
    simp only [resI, lenI]
    rw [ML.cut_mid (by omega) (by omega)]
    simp
    omega
  | cat ps =>
    simp only [resI, lenI, List.length_flatten, List.map_map]
    rfl
  | rep p n =>
    simp only [resI, lenI]
    simp
    rw [Nat.mul_comm]
def tagI : Ins → Str
  | .lit _ => "literal"
  | .copy .. => "copy"
  | .cat _ => "concat"
  | .rep .. => "repeat"
theorem sp_tag {I : Ins} {s : Str} {i : Nat} {ρ : ML.Env} {st : Store} {N B C : ML.Env → Store → Prop} {Rt : A → Store → Prop} {m1 m2 : MS} (h : ρ[i]? = some (some (insA I))) :
    (mIfS (mGB (mBin eqA (mBin ixA (mVar i) (mC (.int 0))) (mC (.str s)))) m1 m2 ρ st).wp N B C Rt ↔ if tagI I = s then (m1 ρ st).wp N B C Rt else (m2 ρ st).wp N B C Rt := by
  cases I <;> simp only [sp_ifs, wp_gb, wp_bin, wp_var, wp_c, h, Option.some.injEq, ex_eq, insA, w_ixT, atI_nn (Int.le_refl 0), Int.toNat_zero, List.getElem?_cons_zero, w_eqS, w_getB, decide_eq_true_eq, tagI] <;> exact iff_of_eq (by congr)
theorem sp_tagY {I : Ins} {s : Str} {i : Nat} {ρ : ML.Env} {st : Store} {N B C : ML.Env → Store → Prop} {Rt : A → Store → Prop} {m1 m2 : MS} (h : ρ[i]? = some (some (insA I))) (ht : tagI I = s) (k : (m1 ρ st).wp N B C Rt) :
    (mIfS (mGB (mBin eqA (mBin ixA (mVar i) (mC (.int 0))) (mC (.str s)))) m1 m2 ρ st).wp N B C Rt := by
  rw [sp_tag h, if_pos ht]
  exact k
theorem sp_tagN {I : Ins} {s t : Str} {i : Nat} {ρ : ML.Env} {st : Store} {N B C : ML.Env → Store → Prop} {Rt : A → Store → Prop} {m1 m2 : MS} (h : ρ[i]? = some (some (insA I))) (ht : tagI I = t) (hn : t ≠ s) (k : (m2 ρ st).wp N B C Rt) :
    (mIfS (mGB (mBin eqA (mBin ixA (mVar i) (mC (.int 0))) (mC (.str s)))) m1 m2 ρ st).wp N B C Rt := by
  rw [sp_tag h, if_neg (by rw [ht]; exact hn)]
  exact k
theorem drawN_wp {st : Store} {many : Int} {Q : A → Store → Prop} (t : TpOk st) (hm : many.natAbs < 2 ^ 200) (k : ∀ (n : Nat) st', (n : Int) < max many 1 → TpOk st' → Kp st st' → st'.length = st.length → Q (natA n) st') : (m_law_draw [.ref 1, .int many] st).wp Q :=
  draw_wp t hm fun n st' n0 n1 t' k' l' => by
    obtain ⟨m, rfl⟩ := Int.eq_ofNat_of_zero_le n0
    exact k m st' n1 t' k' l'
theorem pickd {xs : List Int} {l : List A} {c : Int} {st : Store} {Q : A → Store → Prop} (hl : l = xs.map A.int) (hc : c = xs.length) (t : TpOk st) (h1 : 1 ≤ xs.length) (h2 : xs.length ≤ 100)
    (k : ∀ m ∈ xs, ∀ st', TpOk st' → Kp st st' → Q (.int m) st') : (m_law_draw [.ref 1, .int c] (st ++ [.lst l])).wp fun a st1 => (ixA (.ref st.length) a st1).wp Q := by
  have g : Grown st (st ++ [.lst l]) := .one _ _
  refine draw_wp (t.grown g) (by omega) fun n st' n0 n1 t' k' l' => ?_
  rw [w_ixL]
  have hn : n.toNat < xs.length := by omega
  refine ⟨l, k'.stL (by have := t.len; omega) stL_new, .int xs[n.toNat], ?_, k _ (List.getElem_mem hn) st' t' ((Kp.grown g).trans k')⟩
  rw [atI_nn n0, hl, List.getElem?_map, List.getElem?_eq_getElem hn]
  rfl
theorem sum_nat (f : Nat → Nat) : ∀ (ps : List Nat), (ps.map fun p => ((f p : Nat) : Int)).sum = ((ps.map f).sum : Nat)
  | [] => rfl
  | p :: r => by
    rw [List.map_cons, List.sum_cons, sum_nat f r, List.map_cons, List.sum_cons]
    omega
structure StE (B R : List (List A)) (b d : Nat) (bs rs : List A) (st : Store) : Prop where
  t : TpOk st
  hb : stL st b = some bs
  hd : stL st d = some rs
  b1 : 1 < b
  d1 : 1 < d
  RB : BsL B bs st
  RR : BsL R rs st
  fB : Refs1 bs
  fR : Refs1 rs
  nB : B.length ≤ 9
  nR : R.length ≤ 9
  lB : ∀ x ∈ B, x.length ≤ 20
  lR : ∀ x ∈ R, x.length ≤ 300
theorem StE.kp {B R : List (List A)} {b d : Nat} {bs rs : List A} {st st' : Store} (h : StE B R b d bs rs st) (t : TpOk st') (k : Kp st st') : StE B R b d bs rs st' := ⟨t, k.stL h.b1 h.hb, k.stL h.d1 h.hd, h.b1, h.d1, h.RB.kp h.fB k, h.RR.kp h.fR k, h.fB, h.fR, h.nB, h.nR, h.lB, h.lR⟩
theorem bAt_mem {B : List (List A)} {b : Nat} (h : b < B.length) : bAt B b ∈ B := by
  unfold bAt
  rw [List.getD_eq_getElem?_getD, Int.toNat_natCast, List.getElem?_eq_getElem h]
  exact List.getElem_mem h
theorem flat_natA {ps : List Nat} {k : Nat} : (List.replicate k (ps.map natA)).flatten = ((List.replicate k ps).flatten).map natA := by
  rw [List.map_flatten, List.map_replicate]
theorem step_wp {B R : List (List A)} {b d : Nat} {bs rs : List A} {st : Store} {Q : A → Store → Prop} (E : StE B R b d bs rs st) (k : ∀ I st', okI B R I → lenI R I ≤ 300 → TpOk st' → Kp st st' → Q (insA I) st') : (m_law_step [.ref 1, .ref b, .ref d, .int 300] st).wp Q := by
  simp only [m_law_step]
  rw [wp_fn]
  refine ⟨rfl, ?_⟩
  simp only [List.map_cons, List.map_nil, List.cons_append, List.nil_append, List.replicate, Nat.reduceSub]
  generalize hL : @mLc = L
  generalize hM : @mulA = M
  have lb : bs.length = B.length := E.RB.1
  have lr : rs.length = R.length := E.RR.1
  have nB := E.nB
  have nR := E.nR
  refine seq_cut (fun ρ st' => ∃ c : Nat, StE B R b d bs rs st' ∧ Kp st st' ∧ c < 6 ∧ ρ = [some (.ref 1), some (.ref b), some (.ref d), some (.int 300), some (natA c), none, none, none, none, none, none, none]) ?_ ?_
  · simp only [sp_set, wp_call, wp_cons, wp_nil, wp_var, wp_c, List.getElem?_cons_succ, List.getElem?_cons_zero, Option.some.injEq, ex_eq, List.set_cons_zero, List.set_cons_succ]
    exact drawN_wp E.t (by decide) fun c st' hc t' k' l' => ⟨c, E.kp t' k', k', by omega, rfl⟩
  rintro ρ st1 ⟨c, E1, k1, hc, rfl⟩
  let S2 : ML.Env → Store → Prop := fun ρ st' => ∃ I v6 v7 v8, okI B R I ∧ StE B R b d bs rs st' ∧ Kp st st' ∧ ρ = [some (.ref 1), some (.ref b), some (.ref d), some (.int 300), some (natA c), some (insA I), v6, v7, v8, none, none, none]
  refine seq_cut S2 ?_ ?_
  · simp only [sp_set, wp_call, wp_tup, wp_cons, wp_nil, wp_var, wp_c, List.getElem?_cons_succ, List.getElem?_cons_zero, Option.some.injEq, ex_eq, List.set_cons_zero, List.set_cons_succ]
    exact element_wp E1.t fun x st' hx t' k' => ⟨by simp [size_eq], .lit x, none, none, none, hx, E1.kp t' k', k1.trans k', rfl⟩
  rintro ρ st2 ⟨I2, u6, u7, u8, o2, E2, k2, rfl⟩
  refine seq_cut S2 ?_ ?_
  · simp only [sp_ifs, wp_and, wp_gb, wp_tru, wp_bin, wp_var, wp_c, List.getElem?_cons_succ, List.getElem?_cons_zero, Option.some.injEq, ex_eq, natA, w_lt, w_getB, w_truL, E2.hb]
    by_cases hc3 : ¬ ((c : Int) < 3)
    · rw [if_neg (by simpa using hc3), if_neg (by simp)]
      exact ⟨I2, u6, u7, u8, o2, E2, k2, rfl⟩
    have hc3 := Decidable.not_not.mp hc3
    rw [if_pos (by simpa using hc3)]
    by_cases he : bs = []
    · subst he
      rw [if_neg (by simp)]
      exact ⟨I2, u6, u7, u8, o2, E2, k2, rfl⟩
    have h0 : 1 ≤ bs.length := List.length_pos_iff.mpr he
    rw [if_pos (by simp [he])]
    simp only [sp_seq, sp_set, wp_call, wp_ca, wp_bin, wp_lst, wp_tup, wp_cons, wp_nil, wp_var, wp_c, List.getElem?_cons_succ, List.getElem?_cons_zero, Option.some.injEq, ex_eq, List.set_cons_zero, List.set_cons_succ, w_lenL, E2.hb]
    refine drawN_wp E2.t (by omega) fun x st3 hx t3 k3 l3 => ?_
    have E3 := E2.kp t3 k3
    have xb : x < B.length := by omega
    obtain ⟨q, h1, h2⟩ := E3.RB.at (b := (x : Int)) (by omega) (by omega)
    have hl := E2.lB _ (bAt_mem xb)
    generalize hv : bAt B (x : Int) = row at h2 hl
    rw [natA, w_ixL]
    refine ⟨bs, E3.hb, _, h1, ?_⟩
    rw [w_lenL]
    refine ⟨_, h2, ?_⟩
    rw [w_add]
    refine ⟨by simp [size_eq], ?_⟩
    refine pickd (xs := [9, 2001]) rfl rfl E3.t (by decide) (by decide) fun m hm st4 t4 k4 => ?_
    have hm : 9 ≤ m ∧ m ≤ 2001 := by
      simp at hm
      omega
    rw [w_min2]
    refine drawN_wp t4 (by split <;> omega) fun y st5 hy t5 k5 l5 => ?_
    have hy : y ≤ row.length := by
      split at hy <;> omega
    rw [natA, w_add, w_sub]
    refine ⟨by simp [size_eq], ?_⟩
    refine pickd (xs := [9, 2001]) rfl rfl t5 (by decide) (by decide) fun m hm st6 t6 k6 => ?_
    have hm : 9 ≤ m ∧ m ≤ 2001 := by
      simp at hm
      omega
    rw [w_min2]
    refine drawN_wp t6 (by split <;> omega) fun z st7 hz t7 k7 l7 => ?_
    have hz : z ≤ row.length - y := by
      split at hz <;> omega
    rw [natA, w_sub]
    have kk := ((k3.trans k4).trans (k5.trans k6)).trans k7
    refine ⟨by simp [size_eq], .copy x y (row.length - z), some (.int (x : Int)), some (.int (row.length : Nat)), some (.int (y : Int)), ⟨xb, by omega, by rw [hv]; omega⟩, E2.kp t7 kk, k2.trans kk, ?_⟩
    have : ((row.length - z : Nat) : Int) = (row.length : Int) - (z : Int) := by omega
    simp only [insA, natA, this]
  clear E1 k1 E2 k2 o2 u6 u7 u8
  rintro ρ st2 ⟨I2, u6, u7, u8, o2, E2, k2, rfl⟩
  refine seq_cut S2 ?_ ?_
  · simp only [sp_ifs, wp_and, wp_gb, wp_tru, wp_bin, wp_var, wp_c, List.getElem?_cons_succ, List.getElem?_cons_zero, Option.some.injEq, ex_eq, natA, w_gt, w_getB, w_truL, E2.hd]
    by_cases hc3 : ¬ (3 < (c : Int))
    · rw [if_neg (by simpa using hc3), if_neg (by simp)]
      exact ⟨I2, u6, u7, u8, o2, E2, k2, rfl⟩
    have hc3 := Decidable.not_not.mp hc3
    rw [if_pos (by simpa using hc3)]
    by_cases he : rs = []
    · subst he
      rw [if_neg (by simp)]
      exact ⟨I2, u6, u7, u8, o2, E2, k2, rfl⟩
    have h0 : 1 ≤ rs.length := List.length_pos_iff.mpr he
    rw [if_pos (by simp [he])]
    subst hL
    simp only [sp_set, wp_call, wp_ca, wp_bin, wp_lst, wp_tup, wp_cons, wp_nil, wp_var, wp_c, wp_lc, wp_rng, List.getElem?_cons_succ, List.getElem?_cons_zero, Option.some.injEq, ex_eq, List.set_cons_zero, List.set_cons_succ, wipeA_cons, wipeA_nil]
    refine drawN_wp E2.t (by decide) fun n st3 hn t3 k3 l3 => ?_
    rw [natA, w_rng1]
    refine ⟨by omega, ?_⟩
    refine lc_rng (fun j st' acc => ∃ ps : List Nat, TpOk st' ∧ Kp st2 st' ∧ acc = ps.map natA ∧ ps.length = j ∧ ∀ p ∈ ps, p < R.length) ⟨[], t3, k3, rfl, rfl, by simp⟩ ?_ ?_
    · rintro j st' acc hj ⟨ps, t', k', rfl, lp, hp⟩
      refine ⟨_, rfl, ?_⟩
      simp only [wp_yes, if_true, wp_call, wp_ca, wp_cons, wp_nil, wp_var, List.set_cons_zero, List.set_cons_succ, List.getElem?_cons_succ, List.getElem?_cons_zero, Option.some.injEq, ex_eq, w_lenL, (E2.kp t' k').hd]
      refine drawN_wp t' (by omega) fun p st4 h4 t4 k4 l4 => ⟨by rw [size_eq]; simp; omega, ps ++ [p], t4, k'.trans k4, by simp, by simp [lp], ?_⟩
      intro y hy
      rcases List.mem_append.mp hy with h | h
      · exact hp y h
      · simp at h
        omega
    · rintro st4 acc ⟨ps, t4, k4, rfl, lp, hp⟩
      rw [w_tupL, stL_new]
      refine ⟨_, rfl, by simp [size_eq], ?_⟩
      have t4' := t4.grown (.one st4 (.lst (ps.map natA)))
      refine pickd (xs := [1, 1, 1, 33]) rfl rfl t4' (by decide) (by decide) fun m hm st5 t5 k5 => ?_
      have hm : 1 ≤ m ∧ m ≤ 33 := by
        simp at hm
        omega
      subst hM
      have q1 : ps.length * m.toNat ≤ 3 * 33 := Nat.mul_le_mul (by omega) (by omega)
      rw [w_mulT]
      refine ⟨⟨by omega, by omega, by rw [size_eq, List.length_map]; omega⟩, by simp [size_eq], .cat (List.replicate m.toNat ps).flatten, u6, u7, u8, ⟨?_, ?_⟩, E2.kp t5 ((k4.trans (Kp.grown (.one _ _))).trans k5), k2.trans ((k4.trans (Kp.grown (.one _ _))).trans k5), ?_⟩
      · intro p h
        rw [List.mem_flatten] at h
        obtain ⟨l, e1, e2⟩ := h
        rw [List.mem_replicate] at e1
        rw [e1.2] at e2
        exact hp p e2
      · simp
        rw [Nat.mul_comm]
        omega
      · rw [flat_natA]
        rfl
  clear E2 k2 o2 u6 u7 u8
  rintro ρ st2 ⟨I2, u6, u7, u8, o2, E2, k2, rfl⟩
  refine seq_cut S2 ?_ ?_
  · simp only [sp_ifs, wp_and, wp_gb, wp_tru, wp_bin, wp_var, wp_c, List.getElem?_cons_succ, List.getElem?_cons_zero, Option.some.injEq, ex_eq, natA, w_eq, w_getB, w_truL, E2.hd]
    by_cases hc3 : ¬ ((c : Int) = 3)
    · rw [if_neg (by simpa using hc3), if_neg (by simp)]
      exact ⟨I2, u6, u7, u8, o2, E2, k2, rfl⟩
    have hc3 := Decidable.not_not.mp hc3
    rw [if_pos (by simpa using hc3)]
    by_cases he : rs = []
    · subst he
      rw [if_neg (by simp)]
      exact ⟨I2, u6, u7, u8, o2, E2, k2, rfl⟩
    have h0 : 1 ≤ rs.length := List.length_pos_iff.mpr he
    rw [if_pos (by simp [he])]
    simp only [sp_set, wp_call, wp_ca, wp_bin, wp_lst, wp_tup, wp_cons, wp_nil, wp_var, wp_c, List.getElem?_cons_succ, List.getElem?_cons_zero, Option.some.injEq, ex_eq, List.set_cons_zero, List.set_cons_succ, w_lenL, E2.hd]
    refine drawN_wp E2.t (by omega) fun p st3 hp t3 k3 l3 => ?_
    refine ⟨by simp [size_eq], ?_⟩
    refine pickd (xs := [0, 1, 2, 3, 5, 12, 40]) rfl rfl t3 (by decide) (by decide) fun m hm st4 t4 k4 => ?_
    have hm : 0 ≤ m ∧ m ≤ 40 := by
      simp at hm
      omega
    obtain ⟨n, rfl⟩ := Int.eq_ofNat_of_zero_le hm.1
    exact ⟨by simp [size_eq], .rep p n, u6, u7, u8, ⟨by omega, by omega⟩, E2.kp t4 (k3.trans k4), k2.trans (k3.trans k4), rfl⟩
  clear E2 k2 o2 u6 u7 u8
  rintro ρ st2 ⟨I2, u6, u7, u8, o2, E2, k2, rfl⟩
  let S3 : Int → ML.Env → Store → Prop := fun z ρ st' => StE B R b d bs rs st' ∧ Kp st st' ∧ ρ = [some (.ref 1), some (.ref b), some (.ref d), some (.int 300), some (natA c), some (insA I2), u6, u7, u8, some (.int z), none, none]
  refine seq_cut (S3 1) ?_ ?_
  · simp only [sp_set, wp_c, List.set_cons_zero, List.set_cons_succ]
    exact ⟨E2, k2, rfl⟩
  clear E2 k2
  rintro ρ st2 ⟨E2, k2, rfl⟩
  refine seq_cut (S3 (lenI R I2)) ?_ ?_
  · cases I2 with
    | lit x =>
      refine sp_tagN (I := .lit x) (t := "literal") rfl rfl (by decide) ?_
      refine sp_tagN (I := .lit x) (t := "literal") rfl rfl (by decide) ?_
      refine sp_tagN (I := .lit x) (t := "literal") rfl rfl (by decide) ?_
      rw [sp_next]
      exact ⟨E2, k2, rfl⟩
    | copy x y z =>
      refine sp_tagY (I := .copy x y z) rfl rfl ?_
      simp only [sp_set, wp_bin, wp_var, wp_c, List.getElem?_cons_succ, List.getElem?_cons_zero, Option.some.injEq, ex_eq, List.set_cons_zero, List.set_cons_succ, insA, w_ixT]
      refine ⟨natA z, rfl, natA y, rfl, ?_⟩
      rw [natA, natA, w_sub]
      have : ((z : Int) - (y : Int)) = (lenI R (.copy x y z) : Nat) := by
        obtain ⟨h1, h2, h3⟩ := o2
        simp only [lenI]
        omega
      rw [this]
      exact ⟨E2, k2, rfl⟩
    | rep p n =>
      refine sp_tagN (I := .rep p n) (t := "repeat") rfl rfl (by decide) ?_
      refine sp_tagY (I := .rep p n) rfl rfl ?_
      simp only [sp_set, wp_bin, wp_ca, wp_cons, wp_nil, wp_var, wp_c, List.getElem?_cons_succ, List.getElem?_cons_zero, Option.some.injEq, ex_eq, List.set_cons_zero, List.set_cons_succ, insA, w_ixT]
      refine ⟨natA p, rfl, ?_⟩
      obtain ⟨q, h1, h2⟩ := E2.RR.at (b := (p : Int)) (by omega) (by have := o2.1; omega)
      rw [natA, w_ixL]
      refine ⟨rs, E2.hd, _, h1, ?_⟩
      rw [w_lenL]
      refine ⟨_, h2, natA n, rfl, ?_⟩
      subst hM
      have hl := E2.lR _ (bAt_mem o2.1)
      have hn := o2.2
      have q1 : (bAt R (p : Int)).length * n ≤ 300 * 40 := Nat.mul_le_mul hl hn
      rw [natA, w_mul]
      refine ⟨?_, ?_⟩
      · exact cmul_r (by omega) (by omega)
      rw [← Int.natCast_mul]
      exact ⟨E2, k2, rfl⟩
    | cat ps =>
      refine sp_tagN (I := .cat ps) (t := "concat") rfl rfl (by decide) ?_
      refine sp_tagN (I := .cat ps) (t := "concat") rfl rfl (by decide) ?_
      refine sp_tagY (I := .cat ps) rfl rfl ?_
      subst hL
      simp only [sp_set, wp_bin, wp_ca, wp_lc, wp_src, wp_cons, wp_nil, wp_var, wp_c, List.getElem?_cons_succ, List.getElem?_cons_zero, Option.some.injEq, ex_eq, List.set_cons_zero, List.set_cons_succ, insA, w_ixT, wipeA_cons, wipeA_nil]
      refine ⟨.tup (ps.map natA), rfl, ?_⟩
      rw [w_srcT]
      refine lc_vals (fun j st' acc => st' = st2 ∧ acc = (ps.take j).map fun p : Nat => natA (bAt R p).length) ⟨rfl, rfl⟩ ?_ ?_
      · rintro j x st' acc hx ⟨rfl, rfl⟩
        refine ⟨_, rfl, ?_⟩
        rw [List.getElem?_map] at hx
        cases hj : ps[j]? with
        | none => rw [hj] at hx; cases hx
        | some p =>
          rw [hj] at hx
          cases hx
          have jl := (List.getElem?_eq_some_iff.mp hj).1
          have pl := o2.1 p (List.mem_of_getElem? hj)
          obtain ⟨q, h1, h2⟩ := E2.RR.at (b := (p : Int)) (by omega) (by omega)
          simp only [wp_yes, if_true, wp_bin, wp_ca, wp_cons, wp_nil, wp_var, List.set_cons_zero, List.set_cons_succ, List.getElem?_cons_succ, List.getElem?_cons_zero, Option.some.injEq, ex_eq, natA]
          rw [w_ixL]
          refine ⟨rs, E2.hd, _, h1, ?_⟩
          rw [w_lenL]
          refine ⟨_, h2, ?_, rfl, ?_⟩
          · have := o2.2
            rw [size_eq]
            simp
            omega
          · rw [List.take_add_one, hj]
            simp
      · rintro st' acc ⟨rfl, rfl⟩
        rw [List.length_map, List.take_length, w_sumL, stL_new]
        refine ⟨_, rfl, ps.map fun p : Nat => ((bAt R p).length : Int), ?_, ?_⟩
        · have := intsOf_map (ps.map fun p : Nat => ((bAt R p).length : Int))
          rw [List.map_map] at this
          exact this
        · have : (ps.map fun p : Nat => ((bAt R p).length : Int)).sum = (lenI R (.cat ps) : Nat) := by
            simp only [lenI]
            exact sum_nat (fun p : Nat => (bAt R p).length) ps
          rw [this]
          have g : Kp st' (st' ++ [.lst ((ps).map fun p : Nat => natA (bAt R p).length)]) := Kp.grown (.one _ _)
          exact ⟨E2.kp (E2.t.grown (.one _ _)) g, k2.trans g, rfl⟩
  clear E2 k2
  rintro ρ st2 ⟨E2, k2, rfl⟩
  refine seq_cut (fun ρ st' => ∃ I v6 v7 v8 v9, okI B R I ∧ lenI R I ≤ 300 ∧ TpOk st' ∧ Kp st st' ∧ ρ = [some (.ref 1), some (.ref b), some (.ref d), some (.int 300), some (natA c), some (insA I), v6, v7, v8, v9, none, none]) ?_ ?_
  · simp only [sp_ifs, wp_gb, wp_bin, wp_var, wp_c, List.getElem?_cons_succ, List.getElem?_cons_zero, Option.some.injEq, ex_eq, w_gt, w_getB, decide_eq_true_eq]
    by_cases hz : ((300 : Int) < (lenI R I2 : Nat))
    · rw [if_pos hz]
      simp only [sp_set, wp_tup, wp_cons, wp_nil, wp_var, wp_c, List.getElem?_cons_succ, List.getElem?_cons_zero, Option.some.injEq, ex_eq, List.set_cons_zero, List.set_cons_succ]
      exact ⟨by simp [size_eq], .lit (natA c), u6, u7, u8, _, .inl (.inr ⟨_, rfl, by omega, by omega⟩), by simp [lenI], E2.t, k2, rfl⟩
    · rw [if_neg hz]
      exact ⟨I2, u6, u7, u8, _, o2, by omega, E2.t, k2, rfl⟩
  rintro ρ st3 ⟨I3, v6, v7, v8, v9, o3, l3, t3, k3, rfl⟩
  simp only [sp_ret, wp_var, List.getElem?_cons_succ, List.getElem?_cons_zero, Option.some.injEq, ex_eq]
  exact k I3 st3 o3 l3 t3 k3
theorem bat_nat (Bs : List (List A)) (b : Nat) : bAt Bs (b : Int) = Bs.getD b [] := rfl
theorem flat_le {R : List (List A)} (hR : ∀ x ∈ R, x.length ≤ 300) : ∀ {ps : List Nat}, (∀ p ∈ ps, p < R.length) → (ps.map fun p : Nat => bAt R p).flatten.length ≤ 300 * ps.length
  | [], _ => by simp
  | p :: r, h => by
    have h1 := hR _ (bAt_mem (h p (List.mem_cons_self ..)))
    have h2 := flat_le hR (ps := r) fun q hq => h q (List.mem_cons_of_mem _ hq)
    rw [List.map_cons, List.flatten_cons, List.length_append, List.length_cons]
    omega
theorem result_wp {B R : List (List A)} {b d : Nat} {bs rs : List A} {st : Store} {Q : A → Store → Prop} {I : Ins} (E : StE B R b d bs rs st) (o : okI B R I) (k : ∀ q st', Grown st st' → st.length ≤ q → q < st'.length → stL st' q = some (resI B R I) → Q (.ref q) st') : (m_law_result [.ref b, .ref d, insA I] st).wp Q := by
  simp only [m_law_result]
  rw [wp_fn]
  refine ⟨rfl, ?_⟩
  simp only [List.map_cons, List.map_nil, List.cons_append, List.nil_append, List.replicate, Nat.reduceSub]
  generalize hF : @mFor = F
  generalize hM : @mulA = M
  have lb : bs.length = B.length := E.RB.1
  have lr : rs.length = R.length := E.RR.1
  rw [sp_seq]
  cases I with
  | lit x =>
    refine sp_tagY (I := .lit x) rfl rfl ?_
    simp only [sp_ret, wp_lst, wp_bin, wp_cons, wp_nil, wp_var, wp_c, List.getElem?_cons_succ, List.getElem?_cons_zero, Option.some.injEq, ex_eq, insA, w_ixT]
    exact ⟨x, rfl, by simp [size_eq], k _ _ (.one _ _) (Nat.le_refl _) (by simp) stL_new⟩
  | copy x y z =>
    refine sp_tagN (I := .copy x y z) (t := "copy") rfl rfl (by decide) ?_
    rw [sp_next, sp_seq]
    refine sp_tagY (I := .copy x y z) rfl rfl ?_
    simp only [sp_ret, wp_sl, wp_part, wp_bin, wp_cons, wp_nil, wp_var, wp_c, List.getElem?_cons_succ, List.getElem?_cons_zero, Option.some.injEq, ex_eq, insA, w_ixT]
    refine ⟨natA x, rfl, ?_⟩
    obtain ⟨q, h1, h2⟩ := E.RB.at (b := (x : Int)) (by omega) (by have := o.1; omega)
    rw [natA, w_ixL]
    refine ⟨bs, E.hb, _, h1, natA y, rfl, ?_⟩
    rw [natA, w_getI]
    refine ⟨natA z, rfl, ?_⟩
    rw [natA, w_getI, w_slL]
    exact ⟨_, h2, k _ _ (.one _ _) (Nat.le_refl _) (by simp) stL_new⟩
  | rep p n =>
    refine sp_tagN (I := .rep p n) (t := "repeat") rfl rfl (by decide) ?_
    rw [sp_next, sp_seq]
    refine sp_tagN (I := .rep p n) (t := "repeat") rfl rfl (by decide) ?_
    rw [sp_next, sp_seq]
    refine sp_tagY (I := .rep p n) rfl rfl ?_
    simp only [sp_ret, wp_bin, wp_cons, wp_nil, wp_var, wp_c, List.getElem?_cons_succ, List.getElem?_cons_zero, Option.some.injEq, ex_eq, insA, w_ixT]
    refine ⟨natA p, rfl, ?_⟩
    obtain ⟨q, h1, h2⟩ := E.RR.at (b := (p : Int)) (by omega) (by have := o.1; omega)
    rw [natA, w_ixL]
    refine ⟨rs, E.hd, _, h1, natA n, rfl, ?_⟩
    subst hM
    have hl := E.lR _ (bAt_mem o.1)
    have hn := o.2
    have q1 : (bAt R (p : Int)).length * n ≤ 300 * 40 := Nat.mul_le_mul hl hn
    rw [natA, w_mulL]
    refine ⟨_, h2, ⟨by omega, by omega, by rw [size_eq, Int.toNat_natCast]; omega⟩, ?_⟩
    rw [Int.toNat_natCast]
    exact k _ _ (.one _ _) (Nat.le_refl _) (by simp) stL_new
  | cat ps =>
    refine sp_tagN (I := .cat ps) (t := "concat") rfl rfl (by decide) ?_
    rw [sp_next, sp_seq]
    refine sp_tagN (I := .cat ps) (t := "concat") rfl rfl (by decide) ?_
    rw [sp_next, sp_seq]
    refine sp_tagN (I := .cat ps) (t := "concat") rfl rfl (by decide) ?_
    rw [sp_next, sp_seq]
    simp only [sp_set, wp_lst, wp_nil, List.set_cons_zero, List.set_cons_succ]
    refine ⟨by simp [sizeLine], ?_⟩
    rw [sp_seq]
    subst hF
    simp only [sp_for, wp_src, wp_bin, wp_var, wp_c, List.getElem?_cons_succ, List.getElem?_cons_zero, Option.some.injEq, ex_eq, insA, w_ixT]
    refine ⟨.tup (ps.map natA), rfl, ?_⟩
    rw [w_srcT]
    refine for_vals (fun i ρ st' => ∃ w v4, Grown st st' ∧ st.length ≤ w ∧ w < st'.length ∧ stL st' w = some ((ps.take i).map fun p : Nat => bAt R p).flatten ∧ ρ = [some (.ref b), some (.ref d), some (.tup [.str "concat", .tup (ps.map natA)]), some (.ref w), v4]) ?_ ?_ ?_
    · exact ⟨st.length, none, .one _ _, Nat.le_refl _, by simp, stL_new, rfl⟩
    · rintro j x ρ st' hx ⟨w, v4, g, w0, w1, hw, rfl⟩
      rw [List.getElem?_map] at hx
      cases hj : ps[j]? with
      | none => rw [hj] at hx; cases hx
      | some p =>
        rw [hj] at hx
        cases hx
        refine ⟨_, rfl, ?_⟩
        have jl := (List.getElem?_eq_some_iff.mp hj).1
        have pl := o.1 p (List.mem_of_getElem? hj)
        have E' := E.kp (E.t.grown g) (Kp.grown g)
        obtain ⟨q, h1, h2⟩ := E'.RR.at (b := (p : Int)) (by omega) (by omega)
        have hl := E.lR _ (bAt_mem pl)
        have hf := flat_le E.lR (ps := ps.take j) fun q hq => o.1 q (List.mem_of_mem_take hq)
        have hp := o.2
        simp only [sp_set, wp_bin, wp_var, List.set_cons_zero, List.set_cons_succ, List.getElem?_cons_succ, List.getElem?_cons_zero, Option.some.injEq, ex_eq, natA]
        rw [w_ixL]
        refine ⟨rs, E'.hd, _, h1, ?_⟩
        rw [w_addL]
        rw [List.length_take] at hf
        refine ⟨_, hw, _, h2, by rw [size_eq]; omega, st'.length, some (.int (p : Int)), g.trans (.one _ _), by omega, by simp, ?_, rfl⟩
        rw [stL_new, List.take_add_one, hj, List.map_append, List.flatten_append]
        simp
    · rintro ρ st' ⟨w, v4, g, w0, w1, hw, rfl⟩
      rw [List.length_map, List.take_length] at hw
      simp only [sp_ret, wp_var, List.getElem?_cons_succ, List.getElem?_cons_zero, Option.some.injEq, ex_eq]
      exact k _ _ g w0 w1 hw
theorem atT {R : List (List A)} {p : Nat} (h : p < R.length) : atI (R.map A.tup) (p : Int) = some (.tup (bAt R p)) := by
  rw [atI_nn (by omega), Int.toNat_natCast, List.getElem?_map, List.getElem?_eq_getElem h, bat_nat, List.getD_eq_getElem?_getD, List.getElem?_eq_getElem h]
  rfl
theorem rlen_wp {B R : List (List A)} {d : Nat} {st : Store} {Q : A → Store → Prop} {I : Ins} (hd : stL st d = some (R.map A.tup)) (hR : ∀ x ∈ R, x.length ≤ 300) (o : okI B R I) (k : ∀ st', Grown st st' → Q (.int (lenI R I : Nat)) st') : (m_result_length [insA I, .ref d] st).wp Q := by
  simp only [m_result_length]
  rw [wp_fn]
  refine ⟨rfl, ?_⟩
  simp only [List.map_cons, List.map_nil, List.cons_append, List.nil_append, List.replicate, Nat.reduceSub]
  generalize hL : @mLc = L
  generalize hM : @mulA = M
  rw [sp_seq]
  cases I with
  | lit x =>
    refine sp_tagN (I := .lit x) (t := "literal") rfl rfl (by decide) ?_
    rw [sp_next, sp_seq]
    refine sp_tagN (I := .lit x) (t := "literal") rfl rfl (by decide) ?_
    rw [sp_next, sp_seq]
    refine sp_tagN (I := .lit x) (t := "literal") rfl rfl (by decide) ?_
    rw [sp_next, sp_ret, wp_c]
    exact k _ (.refl _)
  | copy x y z =>
    refine sp_tagY (I := .copy x y z) rfl rfl ?_
    simp only [sp_ret, wp_bin, wp_var, wp_c, List.getElem?_cons_succ, List.getElem?_cons_zero, Option.some.injEq, ex_eq, insA, w_ixT]
    refine ⟨natA z, rfl, natA y, rfl, ?_⟩
    rw [natA, natA, w_sub]
    have : ((z : Int) - (y : Int)) = (lenI R (.copy x y z) : Nat) := by
      obtain ⟨h1, h2, h3⟩ := o
      simp only [lenI]
      omega
    rw [this]
    exact k _ (.refl _)
  | rep p n =>
    refine sp_tagN (I := .rep p n) (t := "repeat") rfl rfl (by decide) ?_
    rw [sp_next, sp_seq]
    refine sp_tagN (I := .rep p n) (t := "repeat") rfl rfl (by decide) ?_
    rw [sp_next, sp_seq]
    refine sp_tagY (I := .rep p n) rfl rfl ?_
    simp only [sp_ret, wp_bin, wp_ca, wp_cons, wp_nil, wp_var, wp_c, List.getElem?_cons_succ, List.getElem?_cons_zero, Option.some.injEq, ex_eq, insA, w_ixT]
    refine ⟨natA p, rfl, ?_⟩
    rw [natA, w_ixL]
    refine ⟨_, hd, _, atT o.1, ?_⟩
    rw [w_lenT]
    refine ⟨natA n, rfl, ?_⟩
    subst hM
    have hl := hR _ (bAt_mem o.1)
    have hn := o.2
    rw [natA, w_mul]
    refine ⟨cmul_r (by omega) (by omega), ?_⟩
    rw [← Int.natCast_mul]
    exact k _ (.refl _)
  | cat ps =>
    refine sp_tagN (I := .cat ps) (t := "concat") rfl rfl (by decide) ?_
    rw [sp_next, sp_seq]
    refine sp_tagY (I := .cat ps) rfl rfl ?_
    subst hL
    simp only [sp_ret, wp_bin, wp_ca, wp_lc, wp_src, wp_cons, wp_nil, wp_var, wp_c, List.getElem?_cons_succ, List.getElem?_cons_zero, Option.some.injEq, ex_eq, List.set_cons_zero, List.set_cons_succ, insA, w_ixT, wipeA_cons, wipeA_nil]
    refine ⟨.tup (ps.map natA), rfl, ?_⟩
    rw [w_srcT]
    refine lc_vals (fun j st' acc => st' = st ∧ acc = (ps.take j).map fun p : Nat => natA (bAt R p).length) ⟨rfl, rfl⟩ ?_ ?_
    · rintro j x st' acc hx ⟨rfl, rfl⟩
      refine ⟨_, rfl, ?_⟩
      rw [List.getElem?_map] at hx
      cases hj : ps[j]? with
      | none => rw [hj] at hx; cases hx
      | some p =>
        rw [hj] at hx
        cases hx
        have jl := (List.getElem?_eq_some_iff.mp hj).1
        have pl := o.1 p (List.mem_of_getElem? hj)
        simp only [wp_yes, if_true, wp_bin, wp_ca, wp_cons, wp_nil, wp_var, List.set_cons_zero, List.set_cons_succ, List.getElem?_cons_succ, List.getElem?_cons_zero, Option.some.injEq, ex_eq, natA]
        rw [w_ixL]
        refine ⟨_, hd, _, atT pl, ?_⟩
        rw [w_lenT]
        refine ⟨?_, rfl, ?_⟩
        · have := o.2
          rw [size_eq]
          simp
          omega
        · rw [List.take_add_one, hj]
          simp
    · rintro st' acc ⟨rfl, rfl⟩
      rw [List.length_map, List.take_length, w_sumL, stL_new]
      refine ⟨_, rfl, ps.map fun p : Nat => ((bAt R p).length : Int), ?_, ?_⟩
      · have := intsOf_map (ps.map fun p : Nat => ((bAt R p).length : Int))
        rw [List.map_map] at this
        exact this
      · have : (ps.map fun p : Nat => ((bAt R p).length : Int)).sum = (lenI R (.cat ps) : Nat) := by
          simp only [lenI]
          exact sum_nat (fun p : Nat => (bAt R p).length) ps
        rw [this]
        exact k _ (.one _ _)
theorem w_allI {r n : Nat} {st : Store} {Q : A → Store → Prop} (hr : stL st r = some (List.replicate n (A.bl true))) (k : Q (.bl true) st) : (allA [.ref r] st).wp Q := by
  have h1 : blsOf (List.replicate n (A.bl true)) = some (List.replicate n true) := by
    have := blsOf_map (List.replicate n true)
    rw [List.map_replicate] at this
    exact this
  have h2 : (List.replicate n true).all id = true := by simp
  simp only [allA, itemsL_ref, hr, Option.bind_some, h1, h2]
  exact k
theorem valid_wp {B R : List (List A)} {st : Store} {Q : A → Store → Prop} {I : Ins} (o : okI B R I) (k : ∀ st', Grown st st' → Q (.bl true) st') : (m_is_valid [insA I, .int (R.length : Nat), .tup (B.map A.tup)] st).wp Q := by
  simp only [m_is_valid]
  rw [wp_fn]
  refine ⟨rfl, ?_⟩
  simp only [List.map_cons, List.map_nil, List.cons_append, List.nil_append, List.replicate, Nat.reduceSub]
  generalize hL : @mLc = L
  rw [sp_seq]
  cases I with
  | lit x =>
    refine sp_tagN (I := .lit x) (t := "literal") rfl rfl (by decide) ?_
    rw [sp_next, sp_seq]
    refine sp_tagN (I := .lit x) (t := "literal") rfl rfl (by decide) ?_
    rw [sp_next, sp_seq]
    refine sp_tagN (I := .lit x) (t := "literal") rfl rfl (by decide) ?_
    rw [sp_next, sp_ret, wp_c]
    exact k _ (.refl _)
  | copy x y z =>
    obtain ⟨o1, o2, o3⟩ := o
    refine sp_tagY (I := .copy x y z) rfl rfl ?_
    simp only [sp_seq, sp_asg, wp_sl, wp_part, wp_noPart, wp_var, wp_c, List.getElem?_cons_succ, List.getElem?_cons_zero, Option.some.injEq, ex_eq, insA, w_getI, w_slT]
    refine ⟨[some (insA (.copy x y z)), some (.int (R.length : Nat)), some (.tup (B.map A.tup)), some (natA x), some (natA y), some (natA z), none], rfl, ?_⟩
    simp only [sp_ret, wp_andV, wp_bin, wp_ca, wp_cons, wp_nil, wp_var, wp_c, List.getElem?_cons_succ, List.getElem?_cons_zero, Option.some.injEq, ex_eq, natA, w_lenT, List.length_map, w_lt, w_le, w_getB]
    rw [if_pos (by simp; omega), if_pos (by simp; omega), w_ixT]
    refine ⟨_, atT o1, ?_⟩
    rw [w_lenT, w_le, decide_eq_true (by omega)]
    exact k _ (.refl _)
  | rep p n =>
    refine sp_tagN (I := .rep p n) (t := "repeat") rfl rfl (by decide) ?_
    rw [sp_next, sp_seq]
    refine sp_tagN (I := .rep p n) (t := "repeat") rfl rfl (by decide) ?_
    rw [sp_next, sp_seq]
    refine sp_tagY (I := .rep p n) rfl rfl ?_
    simp only [sp_ret, wp_bin, wp_var, wp_c, List.getElem?_cons_succ, List.getElem?_cons_zero, Option.some.injEq, ex_eq, insA, w_ixT]
    refine ⟨natA p, rfl, ?_⟩
    have := o.1
    rw [natA, w_lt, decide_eq_true (by omega)]
    exact k _ (.refl _)
  | cat ps =>
    refine sp_tagN (I := .cat ps) (t := "concat") rfl rfl (by decide) ?_
    rw [sp_next, sp_seq]
    refine sp_tagY (I := .cat ps) rfl rfl ?_
    subst hL
    simp only [sp_ret, wp_bin, wp_ca, wp_lc, wp_src, wp_cons, wp_nil, wp_var, wp_c, List.getElem?_cons_succ, List.getElem?_cons_zero, Option.some.injEq, ex_eq, List.set_cons_zero, List.set_cons_succ, insA, w_ixT, wipeA_cons, wipeA_nil]
    refine ⟨.tup (ps.map natA), rfl, ?_⟩
    rw [w_srcT]
    refine lc_vals (fun j st' acc => st' = st ∧ acc = List.replicate j (A.bl true)) ⟨rfl, rfl⟩ ?_ ?_
    · rintro j x st' acc hx ⟨rfl, rfl⟩
      refine ⟨_, rfl, ?_⟩
      rw [List.getElem?_map] at hx
      cases hj : ps[j]? with
      | none => rw [hj] at hx; cases hx
      | some p =>
        rw [hj] at hx
        cases hx
        have jl := (List.getElem?_eq_some_iff.mp hj).1
        have pl := o.1 p (List.mem_of_getElem? hj)
        simp only [wp_yes, if_true, wp_bin, wp_var, List.set_cons_zero, List.set_cons_succ, List.getElem?_cons_succ, List.getElem?_cons_zero, Option.some.injEq, ex_eq, natA]
        rw [w_lt, decide_eq_true (by omega)]
        refine ⟨?_, rfl, ?_⟩
        · have := o.2
          rw [size_eq]
          simp
          omega
        · rw [List.replicate_succ']
    · rintro st' acc ⟨rfl, rfl⟩
      refine w_allI stL_new ?_
      exact k _ (.one _ _)
theorem rof_wp {B R : List (List A)} {d : Nat} {st : Store} {Q : A → Store → Prop} {I : Ins} (hd : stL st d = some (R.map A.tup)) (hR : ∀ x ∈ R, x.length ≤ 300) (o : okI B R I) (k : ∀ st', Grown st st' → Q (.tup (resI B R I)) st') : (m_result_of [insA I, .ref d, .tup (B.map A.tup)] st).wp Q := by
  simp only [m_result_of]
  rw [wp_fn]
  refine ⟨rfl, ?_⟩
  simp only [List.map_cons, List.map_nil, List.cons_append, List.nil_append, List.replicate, Nat.reduceSub]
  generalize hF : @mFor = F
  generalize hM : @mulA = M
  rw [sp_seq]
  cases I with
  | lit x =>
    refine sp_tagN (I := .lit x) (t := "literal") rfl rfl (by decide) ?_
    rw [sp_next, sp_seq]
    refine sp_tagN (I := .lit x) (t := "literal") rfl rfl (by decide) ?_
    rw [sp_next, sp_seq]
    refine sp_tagN (I := .lit x) (t := "literal") rfl rfl (by decide) ?_
    rw [sp_next]
    simp only [sp_ret, wp_tup, wp_bin, wp_cons, wp_nil, wp_var, wp_c, List.getElem?_cons_succ, List.getElem?_cons_zero, Option.some.injEq, ex_eq, insA, w_ixT]
    exact ⟨x, rfl, by simp [size_eq], k _ (.refl _)⟩
  | copy x y z =>
    obtain ⟨o1, o2, o3⟩ := o
    refine sp_tagY (I := .copy x y z) rfl rfl ?_
    simp only [sp_seq, sp_asg, wp_sl, wp_part, wp_noPart, wp_var, wp_c, List.getElem?_cons_succ, List.getElem?_cons_zero, Option.some.injEq, ex_eq, insA, w_getI, w_slT]
    refine ⟨[some (insA (.copy x y z)), some (.ref d), some (.tup (B.map A.tup)), some (natA x), some (natA y), some (natA z), none, none], rfl, ?_⟩
    simp only [sp_ret, wp_sl, wp_part, wp_bin, wp_var, List.getElem?_cons_succ, List.getElem?_cons_zero, Option.some.injEq, ex_eq, natA, w_getI]
    rw [w_ixT]
    refine ⟨_, atT o1, ?_⟩
    rw [w_slT]
    exact k _ (.refl _)
  | rep p n =>
    refine sp_tagN (I := .rep p n) (t := "repeat") rfl rfl (by decide) ?_
    rw [sp_next, sp_seq]
    refine sp_tagN (I := .rep p n) (t := "repeat") rfl rfl (by decide) ?_
    rw [sp_next, sp_seq]
    refine sp_tagY (I := .rep p n) rfl rfl ?_
    simp only [sp_ret, wp_bin, wp_var, wp_c, List.getElem?_cons_succ, List.getElem?_cons_zero, Option.some.injEq, ex_eq, insA, w_ixT]
    refine ⟨natA p, rfl, ?_⟩
    rw [natA, w_ixL]
    refine ⟨_, hd, _, atT o.1, natA n, rfl, ?_⟩
    subst hM
    have hl := hR _ (bAt_mem o.1)
    have hn := o.2
    have q1 : (bAt R (p : Int)).length * n ≤ 300 * 40 := Nat.mul_le_mul hl hn
    rw [natA, w_mulT]
    refine ⟨⟨by omega, by omega, by rw [size_eq, Int.toNat_natCast]; omega⟩, ?_⟩
    rw [Int.toNat_natCast]
    exact k _ (.refl _)
  | cat ps =>
    refine sp_tagN (I := .cat ps) (t := "concat") rfl rfl (by decide) ?_
    rw [sp_next, sp_seq]
    refine sp_tagY (I := .cat ps) rfl rfl ?_
    rw [sp_seq]
    simp only [sp_set, wp_lst, wp_nil, List.set_cons_zero, List.set_cons_succ]
    refine ⟨by simp [sizeLine], ?_⟩
    rw [sp_seq]
    subst hF
    simp only [sp_for, wp_src, wp_bin, wp_var, wp_c, List.getElem?_cons_succ, List.getElem?_cons_zero, Option.some.injEq, ex_eq, insA, w_ixT]
    refine ⟨.tup (ps.map natA), rfl, ?_⟩
    rw [w_srcT]
    refine for_vals (fun i ρ st' => ∃ v7, st' = st ++ [.lst ((ps.take i).map fun p : Nat => bAt R p).flatten] ∧ ρ = [some (.tup [.str "concat", .tup (ps.map natA)]), some (.ref d), some (.tup (B.map A.tup)), none, none, none, some (.ref st.length), v7]) ⟨none, rfl, rfl⟩ ?_ ?_
    · rintro j x ρ st' hx ⟨v7, rfl, rfl⟩
      rw [List.getElem?_map] at hx
      cases hj : ps[j]? with
      | none => rw [hj] at hx; cases hx
      | some p =>
        rw [hj] at hx
        cases hx
        refine ⟨_, rfl, ?_⟩
        have jl := (List.getElem?_eq_some_iff.mp hj).1
        have pl := o.1 p (List.mem_of_getElem? hj)
        have hl := hR _ (bAt_mem pl)
        have hf := flat_le hR (ps := ps.take j) fun q hq => o.1 q (List.mem_of_mem_take hq)
        have hp := o.2
        simp only [sp_expr, wp_bm, wp_bin, wp_cons, wp_nil, wp_var, List.set_cons_zero, List.set_cons_succ, List.getElem?_cons_succ, List.getElem?_cons_zero, Option.some.injEq, ex_eq, isL_ref, stL_new, Option.isSome_some, natA]
        refine ⟨trivial, ?_⟩
        rw [w_ixL]
        refine ⟨_, Grown.stL (.one _ _) hd, _, atT pl, ?_⟩
        rw [w_extendT, stL_new]
        rw [List.length_take] at hf
        refine ⟨_, rfl, by rw [size_eq]; omega, some (.int (p : Int)), ?_, rfl⟩
        rw [List.set_append_right _ _ (Nat.le_refl _), List.take_add_one, hj, List.map_append, List.flatten_append]
        simp
    · rintro ρ st' ⟨v7, rfl, rfl⟩
      rw [List.length_map, List.take_length]
      simp only [sp_ret, wp_ca, wp_cons, wp_nil, wp_var, List.getElem?_cons_succ, List.getElem?_cons_zero, Option.some.injEq, ex_eq, w_tupL, stL_new]
      exact k _ (.one _ _)
structure Prg (B : List (List A)) (Is : List Ins) (R : List (List A)) : Prop where
  len : Is.length = R.length
  has : ∀ (i : Nat) (I : Ins), Is[i]? = some I → okI B (R.take i) I ∧ R[i]? = some (resI B (R.take i) I) ∧ lenI (R.take i) I ≤ 300
theorem Prg.take {B : List (List A)} {Is : List Ins} {R : List (List A)} (h : Prg B Is R) (k : Nat) : Prg B (Is.take k) (R.take k) := ⟨by rw [List.length_take, List.length_take, h.len], fun i I e => by
  have hk : i < k := by
    have := (List.getElem?_eq_some_iff.mp e).1
    rw [List.length_take] at this
    omega
  rw [List.getElem?_take_of_lt hk] at e
  rw [List.take_take, Nat.min_eq_left (by omega), List.getElem?_take_of_lt hk]
  exact h.has i I e⟩
theorem Prg.snoc {B : List (List A)} {Is : List Ins} {R : List (List A)} {I : Ins} (h : Prg B Is R) (o : okI B R I) (l : lenI R I ≤ 300) : Prg B (Is ++ [I]) (R ++ [resI B R I]) := ⟨by simp [h.len], fun i J e => by
  have hl := h.len
  by_cases c : i < Is.length
  · rw [List.getElem?_append_left c] at e
    rw [List.take_append_of_le_length (by omega), List.getElem?_append_left (by omega)]
    exact h.has i J e
  · rw [List.getElem?_append_right (by omega)] at e
    have hi := (List.getElem?_eq_some_iff.mp e).1
    simp at hi
    have hi : i = R.length := by omega
    subst hi
    rw [hl, Nat.sub_self] at e
    cases e
    rw [List.take_append_of_le_length (Nat.le_refl _), List.take_length]
    exact ⟨o, by simp, l⟩⟩
theorem cc_wp {n : Int} {st : Store} {Q : A → Store → Prop} (h : n ≤ 2000) (k : Q .non st) : (m_check_count [.int n] st).wp Q := by
  simp only [m_check_count]
  rw [wp_fn]
  refine ⟨rfl, ?_⟩
  simp only [List.map_cons, List.map_nil, List.cons_append, List.nil_append, List.replicate, Nat.reduceSub, sp_ifs, wp_gb, wp_bin, wp_var, wp_c, List.getElem?_cons_succ, List.getElem?_cons_zero, Option.some.injEq, ex_eq, w_gt, w_getB]
  rw [if_neg (by simp; omega), sp_next]
  exact k
theorem Grown.setHi {st st' : Store} {d : Nat} {o : Ob} (g : Grown st st') (h : st.length ≤ d) : Grown st (st'.set d o) := by
  obtain ⟨l, rfl⟩ := g
  exact ⟨l.set (d - st.length) o, List.set_append_right _ _ h⟩
theorem run_wp {B : List (List A)} {Is : List Ins} {R : List (List A)} {st : Store} {Q : A → Store → Prop} (P : Prg B Is R) (n : R.length ≤ 9) (lR : ∀ x ∈ R, x.length ≤ 300) (k : ∀ st', Grown st st' → Q (.tup (bAt ([] :: R) R.length)) st') : (m_run_recipe [.tup (Is.map insA), .tup (B.map A.tup)] st).wp Q := by
  simp only [m_run_recipe]
  rw [wp_fn]
  refine ⟨rfl, ?_⟩
  simp only [List.map_cons, List.map_nil, List.cons_append, List.nil_append, List.replicate, Nat.reduceSub]
  generalize hF : @mFor = F
  have hl := P.len
  rw [sp_seq]
  simp only [sp_set, wp_lst, wp_nil, List.set_cons_zero, List.set_cons_succ]
  refine ⟨by simp [sizeLine], ?_⟩
  rw [sp_seq]
  simp only [sp_set, wp_c, List.set_cons_zero, List.set_cons_succ]
  let J : Nat → ML.Env → Store → Prop := fun i ρ st' => ∃ (T : Int) (v4 v5 v6 : Option A), 0 ≤ T ∧ T ≤ 300 * i ∧ Grown st st' ∧ stL st' st.length = some ((R.take i).map A.tup) ∧ ρ = [some (.tup (Is.map insA)), some (.tup (B.map A.tup)), some (.ref st.length), some (.int T), v4, v5, v6]
  refine seq_cut (J R.length) ?_ ?_
  · subst hF
    simp only [sp_for, wp_enumT, wp_cons, wp_nil, wp_var, List.getElem?_cons_succ, List.getElem?_cons_zero, Option.some.injEq, ex_eq, w_enumT]
    refine for_zipv J (by simp [cntA]) ⟨0, none, none, none, by omega, by omega, .one _ _, stL_new, rfl⟩ ?_ (fun ρ st' q => by rw [List.length_map, hl] at q; exact q) _ (by simp [Src.size, cntA])
    rintro i x y ρ st2 hxi hyi ⟨T, v4, v5, v6, T0, T1, g2, hd, rfl⟩
    rw [List.getElem?_map, Option.map_eq_some_iff] at hyi
    obtain ⟨I, hI, rfl⟩ := hyi
    have hi : i < Is.length := (List.getElem?_eq_some_iff.mp hI).1
    have ex : x = .int (i : Nat) := by
      simp [cntA, hi] at hxi
      exact hxi.symm
    subst ex
    obtain ⟨o, hr, l3⟩ := P.has i I hI
    have hli : (R.take i).length = i := by
      rw [List.length_take]
      omega
    have lR' : ∀ x ∈ R.take i, x.length ≤ 300 := fun x hx => lR x (List.mem_of_mem_take hx)
    have V := @valid_wp B (R.take i)
    rw [hli] at V
    refine ⟨[some (.tup (Is.map insA)), some (.tup (B.map A.tup)), some (.ref st.length), some (.int T), some (.int (i : Nat)), some (insA I), v6], rfl, ?_⟩
    rw [sp_seq]
    simp only [sp_ifs, wp_not, wp_tru, wp_call, wp_cons, wp_nil, wp_var, List.set_cons_zero, List.set_cons_succ, List.getElem?_cons_succ, List.getElem?_cons_zero, Option.some.injEq, ex_eq]
    refine V o fun st3 g3 => ?_
    rw [w_truB, if_neg (by simp), sp_next, sp_seq]
    simp only [sp_set, wp_call, wp_cons, wp_nil, wp_var, List.set_cons_zero, List.set_cons_succ, List.getElem?_cons_succ, List.getElem?_cons_zero, Option.some.injEq, ex_eq]
    refine rlen_wp (g3.stL hd) lR' o fun st4 g4 => ?_
    rw [sp_seq]
    simp only [sp_expr, wp_call, wp_cons, wp_nil, wp_var, List.getElem?_cons_succ, List.getElem?_cons_zero, Option.some.injEq, ex_eq]
    refine cc_wp (by omega) ?_
    rw [sp_seq]
    simp only [sp_aug, wp_var, List.set_cons_zero, List.set_cons_succ, List.getElem?_cons_succ, List.getElem?_cons_zero, Option.some.injEq, ex_eq]
    rw [w_iadd, sp_seq]
    simp only [sp_ifs, wp_gb, wp_bin, wp_var, wp_c, List.getElem?_cons_succ, List.getElem?_cons_zero, Option.some.injEq, ex_eq, w_gt, w_getB]
    rw [if_neg (by simp; omega), sp_next]
    have hd4 := g4.stL (g3.stL hd)
    simp only [sp_expr, wp_bm, wp_call, wp_cons, wp_nil, wp_var, List.getElem?_cons_succ, List.getElem?_cons_zero, Option.some.injEq, ex_eq, isL_ref, hd4, Option.isSome_some]
    refine ⟨trivial, ?_⟩
    refine rof_wp hd4 lR' o fun st5 g5 => ?_
    have hd5 := g5.stL hd4
    rw [w_append, hd5]
    refine ⟨_, rfl, by rw [size_eq, List.length_map]; omega, T + (lenI (R.take i) I : Nat), some (.int (i : Nat)), some (insA I), some (.int (lenI (R.take i) I : Nat)), by omega, by omega, Grown.setHi (((g2.trans g3).trans g4).trans g5) (Nat.le_refl _), ?_, rfl⟩
    rw [stL_set_self hd5, List.take_add_one, hr, List.map_append]
    rfl
  rintro ρ st2 ⟨T, v4, v5, v6, T0, T1, g2, hd, rfl⟩
  rw [List.take_length] at hd
  rw [sp_seq]
  simp only [sp_ifs, wp_not, wp_tru, wp_var, List.getElem?_cons_succ, List.getElem?_cons_zero, Option.some.injEq, ex_eq, w_truL, hd]
  by_cases c : R = []
  · subst c
    rw [if_pos (by simp)]
    simp only [sp_ret, wp_tup, wp_nil]
    exact ⟨by simp [sizeLine], k _ g2⟩
  · rw [if_neg (by simpa using c), sp_next]
    simp only [sp_ret, wp_bin, wp_un, wp_var, wp_c, List.getElem?_cons_succ, List.getElem?_cons_zero, Option.some.injEq, ex_eq, w_neg]
    rw [w_ixL]
    have e := List.dropLast_concat_getLast c
    have h2 : atI (R.map A.tup) (-1) = some (.tup (R.getLast c)) := by
      have e2 : R.map A.tup = (R.dropLast).map A.tup ++ [.tup (R.getLast c)] := by
        conv => lhs; rw [← e]
        simp
      rw [e2]
      unfold atI
      have : L2.ixN ((R.dropLast).map A.tup ++ [A.tup (R.getLast c)]).length (-1) = some ((R.dropLast).map A.tup).length := by
        unfold L2.ixN
        rw [if_neg (by decide), List.length_append, List.length_singleton, if_pos (by omega)]
        congr 1
        omega
      rw [this]
      simp
    have h3 : R.getLast c = bAt ([] :: R) R.length := by
      have h0 : 0 < R.length := List.length_pos_iff.mpr c
      rw [bat_nat, List.getD_eq_getElem?_getD]
      obtain ⟨m, hm⟩ : ∃ m, R.length = m + 1 := ⟨R.length - 1, by omega⟩
      rw [hm, List.getElem?_cons_succ, List.getLast_eq_getElem, List.getElem?_eq_getElem (by omega)]
      simp [hm]
    refine ⟨_, hd, _, h2, ?_⟩
    rw [h3]
    exact k _ g2
theorem el_res {B R : List (List A)} {I : Ins} (hB : ∀ x ∈ B, ∀ y ∈ x, El y) (hR : ∀ x ∈ R, ∀ y ∈ x, El y) (o : okI B R I) : ∀ y ∈ resI B R I, El y := fun y hy => by
  cases I with
  | lit x =>
    simp [resI] at hy
    subst hy
    exact o
  | copy x s e => exact hB _ (bAt_mem o.1) _ (cut_mem23 hy)
  | rep p n => exact hR _ (bAt_mem o.1) _ (mem_rep23 hy)
  | cat ps =>
    simp only [resI, List.mem_flatten, List.mem_map] at hy
    obtain ⟨l, ⟨p, hp, rfl⟩, h2⟩ := hy
    exact hR _ (bAt_mem (o.1 p hp)) _ h2
theorem BsL.setNe {Bs : List (List A)} {rs : List A} {st : Store} {s : Nat} {ys : List A} (h : BsL Bs rs st) (hr : ∀ (i r : Nat), rs[i]? = some (.ref r) → s ≠ r) : BsL Bs rs (st.set s (.lst ys)) := ⟨h.1, fun i x e => by
  obtain ⟨r, q1, q2⟩ := h.2 i x e
  subst q1
  exact ⟨r, rfl, by rw [stL_set_ne (hr i r e)]; exact q2⟩⟩
theorem BsL.cons {Bs : List (List A)} {rs : List A} {st : Store} {B : List A} {r : Nat} (h : BsL Bs rs st) (hr : stL st r = some B) : BsL (B :: Bs) (.ref r :: rs) st := by
  refine ⟨by simp [h.1], fun i x e => ?_⟩
  cases i with
  | zero =>
    cases e
    exact ⟨r, rfl, hr⟩
  | succ i => exact h.2 i x e
theorem due_take {R : List (List A)} {k : Nat} (h : k ≤ R.length) : bAt ([] :: R.take k) (R.take k).length = bAt ([] :: R) k := by
  rw [bat_nat, bat_nat, List.length_take, Nat.min_eq_left h]
  cases k with
  | zero => rfl
  | succ k =>
    simp only [List.getD_eq_getElem?_getD, List.getElem?_cons_succ]
    rw [List.getElem?_take_of_lt (by omega)]
theorem law_true : LawTrue m_law := fun ns0 h1 h2 => by
  have key : (m_law [.scr (ns0.map .int)] []).wp fun a _ => a = .bl true := by
    simp only [m_law, wp_fn]
    refine ⟨rfl, ?_⟩
    simp only [List.map_cons, List.map_nil, List.cons_append, List.nil_append, List.replicate, Nat.reduceSub]
    have KW := @conts_wp
    have SW := @step_wp
    have OW := @result_wp
    have RW := @run_wp
    have GW := @given_wp
    have AL := @alike_cmp
    generalize m_law_contents = mct at KW ⊢
    generalize m_law_step = mst at SW ⊢
    generalize m_law_result = mrs at OW ⊢
    generalize m_run_recipe = mrr at RW ⊢
    generalize m_law_given = mgv at GW ⊢
    generalize m_law_alike 40 = mal at AL ⊢
    generalize hF : @mFor = F
    generalize hL : @mLc = L
    refine seq_cut (fun ρ st => TpOk st ∧ ρ = [some (.scr (ns0.map .int)), some (.ref 1), none, none, none, none, none, none, none]) ?_ ?_
    · simp
      exact tape_wp fun st t0 l0 => ⟨t0, rfl⟩
    rintro ρ st ⟨t0, rfl⟩
    generalize hs0 : some (A.scr (ns0.map .int)) = s0
    refine seq_cut (fun ρ st => ∃ (b : Nat) (bs : List A) (B : List (List A)), TpOk st ∧ stL st b = some bs ∧ 1 < b ∧ b < st.length ∧ BsL B bs st ∧ (∀ (i r : Nat), bs[i]? = some (.ref r) → 1 < r ∧ r < b) ∧ B.length ≤ 9 ∧ (∀ x ∈ B, x.length ≤ 20) ∧ (∀ x ∈ B, ∀ y ∈ x, El y) ∧ ρ = [s0, some (.ref 1), some (.ref b), none, none, none, none, none, none]) ?_ ?_
    · subst hL
      simp only [sp_set, wp_lc, wp_rng, wp_bin, wp_call, wp_lst, wp_cons, wp_nil, wp_var, wp_c, List.getElem?_cons_succ, List.getElem?_cons_zero, Option.some.injEq, ex_eq, List.set_cons_zero, List.set_cons_succ, wipeA_cons, wipeA_nil]
      refine ⟨by simp [size_eq], ?_⟩
      refine pickd (xs := [4, 4, 9]) rfl rfl t0 (by decide) (by decide) fun m hm st1 t1 k1 => ?_
      have hm : 4 ≤ m ∧ m ≤ 9 := by
        simp at hm
        omega
      refine drawN_wp t1 (by omega) fun n st2 hn t2 k2 l2 => ?_
      rw [natA, w_rng1]
      refine ⟨by omega, ?_⟩
      refine lc_rng (fun j st' acc => ∃ B, TpOk st' ∧ B.length = j ∧ BsL B acc st' ∧ (∀ (i r : Nat), acc[i]? = some (.ref r) → 1 < r ∧ r < st'.length) ∧ (∀ x ∈ B, x.length ≤ 20) ∧ (∀ x ∈ B, ∀ y ∈ x, El y)) ⟨[], t2, rfl, ⟨rfl, fun i x e => (by cases e)⟩, fun i r e => (by cases e), by simp, by simp⟩ ?_ ?_
      · rintro j st' acc hj ⟨B, t', lB, bB, fB, xB, eB⟩
        refine ⟨_, rfl, ?_⟩
        simp only [wp_yes, if_true, wp_call, wp_cons, wp_nil, wp_var, wp_c, List.set_cons_zero, List.set_cons_succ, List.getElem?_cons_succ, List.getElem?_cons_zero, Option.some.injEq, ex_eq]
        have lt := t'.len
        have la := bB.1
        refine KW t' (by decide) (by decide) fun r xs st3 he hl hl2 t3 k3 hr hx => ⟨by rw [size_eq]; omega, B ++ [xs], t3, by simp [lB], ?_, ?_, ?_, ?_⟩
        · exact (bB.kp (fun i r e => (fB i r e).1) k3).snoc hx
        · intro i q e
          have hq : q < st3.length → 1 < q → 1 < q ∧ q < st3.length := fun a b => ⟨b, a⟩
          by_cases c : i < acc.length
          · rw [List.getElem?_append_left c] at e
            have := fB i q e
            have := k3.len
            omega
          · rw [List.getElem?_append_right (by omega)] at e
            have hi := (List.getElem?_eq_some_iff.mp e).1
            simp at hi
            have hi : i - acc.length = 0 := by omega
            rw [hi] at e
            cases e
            have := (List.getElem?_eq_some_iff.mp (stL_eq hx)).1
            omega
        · intro x hx
          rcases List.mem_append.mp hx with h | h
          · exact xB x h
          · simp at h
            subst h
            exact hl
        · intro x hx
          rcases List.mem_append.mp hx with h | h
          · exact eB x h
          · simp at h
            subst h
            exact he
      · rintro st' acc ⟨B, t', lB, bB, fB, xB, eB⟩
        have lt := t'.len
        refine ⟨st'.length, acc, B, t'.grown (.one _ _), stL_new, by omega, by simp, bB.grown (.one _ _), fun i r e => fB i r e, ?_, xB, eB, rfl⟩
        omega
    clear t0 st
    rintro ρ st ⟨b, bs, B, t0, hb, b1, b2, bB, fB, nB, xB, eB, rfl⟩
    refine seq_cut (fun ρ st' => Grown st st' ∧ stL st' st.length = some [] ∧ st'.length = st.length + 1 ∧ ρ = [s0, some (.ref 1), some (.ref b), some (.ref st.length), none, none, none, none, none]) ?_ ?_
    · simp only [sp_set, wp_lst, wp_nil, List.set_cons_zero, List.set_cons_succ]
      exact ⟨by simp [sizeLine], .one _ _, stL_new, by simp, by trivial⟩
    rintro ρ st1 ⟨g1, hc, l1, rfl⟩
    generalize hcc : st.length = c at *
    let S : Nat → ML.Env → Store → Prop := fun i ρ st' => ∃ (Is : List Ins) (R : List (List A)) (rs : List A) (v5 v6 : Option A), TpOk st' ∧ stL st' b = some bs ∧ stL st' c = some (Is.map insA) ∧ stL st' (c + 1) = some rs ∧ BsL B bs st' ∧ BsL R rs st' ∧ (∀ (i r : Nat), rs[i]? = some (.ref r) → c + 1 < r) ∧ Prg B Is R ∧ R.length ≤ i ∧ (∀ x ∈ R, x.length ≤ 300) ∧ (∀ x ∈ R, ∀ y ∈ x, El y) ∧ ρ = [s0, some (.ref 1), some (.ref b), some (.ref c), some (.ref (c + 1)), v5, v6, none, none]
    refine seq_cut (S 0) ?_ ?_
    · simp only [sp_set, wp_lst, wp_nil, List.set_cons_zero, List.set_cons_succ]
      have g2 : Grown st1 (st1 ++ [.lst []]) := .one _ _
      have g := g1.trans g2
      refine ⟨by simp [sizeLine], [], [], [], none, none, t0.grown g, g.stL hb, g2.stL hc, by rw [← l1]; exact stL_new, bB.grown g, ⟨rfl, fun i x e => (by cases e)⟩, fun i r e => (by cases e), ⟨rfl, fun i x e => (by cases e)⟩, by simp, by simp, by simp, by rw [l1]⟩
    clear t0 hb bB g1 hc l1
    rintro ρ st2 h2
    refine seq_cut (S 8) ?_ ?_
    · subst hF
      have h2' := h2
      obtain ⟨Is, R, rs, v5, v6, t2, hb, hc, hd, bB, bR, fR, P, nR, xR, eR, rfl⟩ := h2
      simp only [sp_for, wp_rng, wp_call, wp_cons, wp_nil, wp_var, wp_c, List.getElem?_cons_succ, List.getElem?_cons_zero, Option.some.injEq, ex_eq]
      refine drawN_wp t2 (by decide) fun n st3 hn t3 k3 l3 => ?_
      rw [natA, w_rng1]
      refine ⟨by omega, ?_⟩
      refine for_rng S ⟨Is, R, rs, v5, v6, t3, k3.stL b1 hb, k3.stL (by omega) hc, k3.stL (by omega) hd, bB.kp (fun i r e => (fB i r e).1) k3, bR.kp (fun i r e => by have := fR i r e; omega) k3, fR, P, nR, xR, eR, rfl⟩ ?_ ?_
      · clear h2' hb hc hd bB bR fR P nR xR eR t2 t3 k3
        rintro i ρ st3 hi ⟨Is, R, rs, v5, v6, t3, hb, hc, hd, bB, bR, fR, P, nR, xR, eR, rfl⟩
        refine ⟨_, rfl, ?_⟩
        have E : StE B R b (c + 1) bs rs st3 := ⟨t3, hb, hd, b1, by omega, bB, bR, fun i r e => (fB i r e).1, fun i r e => by have := fR i r e; omega, nB, by omega, xB, xR⟩
        rw [sp_seq]
        simp only [sp_set, wp_call, wp_cons, wp_nil, wp_var, wp_c, List.set_cons_zero, List.set_cons_succ, List.getElem?_cons_succ, List.getElem?_cons_zero, Option.some.injEq, ex_eq]
        refine SW E fun I st4 o l4 t4 k4 => ?_
        have E4 := E.kp t4 k4
        have hc4 := k4.stL (by omega) hc
        rw [sp_seq]
        simp only [sp_expr, wp_bm, wp_call, wp_cons, wp_nil, wp_var, List.getElem?_cons_succ, List.getElem?_cons_zero, Option.some.injEq, ex_eq, isL_ref, E4.hd, Option.isSome_some]
        refine ⟨trivial, ?_⟩
        refine OW E4 o fun q st5 g5 q0 q1 hq => ?_
        have E5 := E4.kp (E4.t.grown g5) (Kp.grown g5)
        have hc5 := g5.stL hc4
        have ll := P.len
        have lr := bR.1
        have dl := (List.getElem?_eq_some_iff.mp (stL_eq E4.hd)).1
        rw [w_append, E5.hd]
        refine ⟨_, rfl, by rw [size_eq]; omega, ?_⟩
        have hc6 : stL (st5.set (c + 1) (.lst (rs ++ [.ref q]))) c = some (Is.map insA) := by
          rw [stL_set_ne (by omega)]
          exact hc5
        refine ⟨by rw [hc6]; rfl, ?_⟩
        rw [w_append, hc6]
        refine ⟨_, rfl, by rw [size_eq, List.length_map]; omega, Is ++ [I], R ++ [resI B R I], rs ++ [.ref q], _, some (insA I), ?_, ?_, ?_, ?_, ?_, ?_, ?_, P.snoc o l4, by simp; omega, ?_, ?_, rfl⟩
        · obtain ⟨ns, p, r, t, a0, a1, a2⟩ := E5.t.ex
          exact ⟨ns, p, r, t, a0, by rw [List.getElem?_set_ne (by omega), List.getElem?_set_ne (by omega)]; exact a1, by rw [List.getElem?_set_ne (by omega), List.getElem?_set_ne (by omega)]; exact a2⟩
        · rw [stL_set_ne (by omega), stL_set_ne (by omega)]
          exact E5.hb
        · rw [stL_set_self hc6, List.map_append]
          rfl
        · rw [stL_set_ne (by omega)]
          exact stL_set_self E5.hd
        · exact (E5.RB.setNe fun i r e => by have := fB i r e; omega).setNe fun i r e => by have := fB i r e; omega
        · refine (BsL.snoc (E5.RR.setNe fun i r e => by have := fR i r e; omega) ?_).setNe ?_
          · rw [stL_set_ne (by omega)]
            exact hq
          · intro i r e
            by_cases cc : i < rs.length
            · rw [List.getElem?_append_left cc] at e
              have := fR i r e
              omega
            · rw [List.getElem?_append_right (by omega)] at e
              have hi := (List.getElem?_eq_some_iff.mp e).1
              simp at hi
              have hi : i - rs.length = 0 := by omega
              rw [hi] at e
              cases e
              omega
        · intro i r e
          by_cases cc : i < rs.length
          · rw [List.getElem?_append_left cc] at e
            exact fR i r e
          · rw [List.getElem?_append_right (by omega)] at e
            have hi := (List.getElem?_eq_some_iff.mp e).1
            simp at hi
            have hi : i - rs.length = 0 := by omega
            rw [hi] at e
            cases e
            omega
        · intro x hx
          rcases List.mem_append.mp hx with h | h
          · exact xR x h
          · simp at h
            subst h
            rw [lenI_eq o]
            exact l4
        · intro x hx
          rcases List.mem_append.mp hx with h | h
          · exact eR x h
          · simp at h
            subst h
            exact el_res eB eR o
      · rintro ρ st4 ⟨Is, R, rs, v5, v6, t3, hb, hc, hd, bB, bR, fR, P, nR, xR, eR, rfl⟩
        exact ⟨Is, R, rs, v5, v6, t3, hb, hc, hd, bB, bR, fR, P, by omega, xR, eR, rfl⟩
    clear h2 st2
    rintro ρ st2 ⟨Is, R, rs, v5, v6, t3, hb, hc, hd, bB, bR, fR, P, nR, xR, eR, rfl⟩
    have lr := bR.1
    refine seq_cut (fun ρ st' => ∃ e ds, Grown st2 st' ∧ stL st' e = some ds ∧ BsL ([] :: R) ds st' ∧ ρ = [s0, some (.ref 1), some (.ref b), some (.ref c), some (.ref (c + 1)), v5, v6, some (.ref e), none]) ?_ ?_
    · simp only [sp_set, wp_bin, wp_lst, wp_cons, wp_nil, wp_var, List.getElem?_cons_succ, List.getElem?_cons_zero, Option.some.injEq, ex_eq, List.set_cons_zero, List.set_cons_succ]
      refine ⟨by simp [sizeLine], by simp [sizeLine], ?_⟩
      have g1 : Grown st2 (st2 ++ [.lst []]) := .one _ _
      have g2 : Grown (st2 ++ [.lst []]) (st2 ++ [.lst []] ++ [.lst [.ref st2.length]]) := .one _ _
      have g := g1.trans g2
      rw [w_addL, stL_new]
      refine ⟨_, rfl, rs, g.stL hd, by rw [size_eq]; simp; omega, _, _, g.trans (.one _ _), stL_new, ?_, rfl⟩
      exact BsL.grown (BsL.cons (bR.grown g) (g2.stL stL_new)) (.one _ _)
    rintro ρ st3 ⟨e, ds, g3, he, bD, rfl⟩
    have ld := bD.1
    rw [List.length_cons] at ld
    refine seq_cutR (fun ρ st' => True) ?_ ?_
    · subst hF
      simp only [sp_for, wp_rng, wp_ca, wp_cons, wp_nil, wp_var, List.getElem?_cons_succ, List.getElem?_cons_zero, Option.some.injEq, ex_eq, w_lenL, he, w_rng1]
      refine ⟨by omega, ?_⟩
      refine for_rng (fun i ρ st' => ∃ v5 v8, Grown st3 st' ∧ ρ = [s0, some (.ref 1), some (.ref b), some (.ref c), some (.ref (c + 1)), v5, v6, some (.ref e), v8]) ⟨v5, none, .refl _, rfl⟩ ?_ (fun _ _ _ => trivial)
      rintro i ρ st4 hi ⟨v5', v8, g4, rfl⟩
      have hi : i ≤ R.length := by omega
      refine ⟨[s0, some (.ref 1), some (.ref b), some (.ref c), some (.ref (c + 1)), some (.int (0 + (i : Nat))), v6, some (.ref e), v8], rfl, ?_⟩
      have g := g3.trans g4
      refine seq_cut (fun ρ st' => Grown st4 st' ∧ ρ = [s0, some (.ref 1), some (.ref b), some (.ref c), some (.ref (c + 1)), some (.int (0 + (i : Nat))), v6, some (.ref e), some (.tup (bAt ([] :: R) i))]) ?_ ?_
      · have run : ∀ (st5 : Store), Grown st4 st5 → (mrr [.tup ((Is.take i).map insA), .tup (B.map A.tup)] st5).wp fun a st' => Grown st4 st' ∧ [s0, some (.ref 1), some (.ref b), some (.ref c), some (.ref (c + 1)), some (.int (0 + (i : Nat))), v6, some (.ref e), some a] = [s0, some (.ref 1), some (.ref b), some (.ref c), some (.ref (c + 1)), some (.int (0 + (i : Nat))), v6, some (.ref e), some (.tup (bAt ([] :: R) i))] := fun st5 g5 => by
          refine RW (P.take i) (by rw [List.length_take]; omega) (fun x hx => xR x (List.mem_of_mem_take hx)) fun st6 g6 => ⟨g5.trans g6, ?_⟩
          rw [due_take hi]
        simp only [sp_ifs, wp_tru, wp_var, List.getElem?_cons_succ, List.getElem?_cons_zero, Option.some.injEq, ex_eq, w_truL, g.stL hb]
        by_cases cb : bs = []
        · have hB : B = [] := by
            have := bB.1
            rw [cb] at this
            exact List.eq_nil_of_length_eq_zero this.symm
          rw [if_neg (by simpa using cb)]
          simp only [sp_set, wp_ca, wp_sl, wp_noPart, wp_part, wp_call, wp_cons, wp_nil, wp_var, wp_c, List.getElem?_cons_succ, List.getElem?_cons_zero, Option.some.injEq, ex_eq, List.set_cons_zero, List.set_cons_succ]
          rw [w_getI, w_slL]
          refine ⟨_, g.stL hc, ?_⟩
          rw [w_tupL, stL_new]
          refine ⟨_, rfl, ?_⟩
          have e1 : cutA (Is.map insA) none (some (0 + (i : Int))) = (Is.take i).map insA := by
            rw [Law.cut_to (by omega), show (0 + (i : Int)).toNat = i by omega, List.map_take]
          rw [e1]
          have := run _ (.one st4 (.lst ((Is.take i).map insA)))
          rw [hB] at this
          exact this
        · rw [if_pos (by simpa using cb)]
          simp only [sp_set, wp_ca, wp_sl, wp_noPart, wp_part, wp_call, wp_cons, wp_nil, wp_var, wp_c, List.getElem?_cons_succ, List.getElem?_cons_zero, Option.some.injEq, ex_eq, List.set_cons_zero, List.set_cons_succ]
          rw [w_getI, w_slL]
          refine ⟨_, g.stL hc, ?_⟩
          rw [w_tupL, stL_new]
          refine ⟨_, rfl, ?_⟩
          have e1 : cutA (Is.map insA) none (some (0 + (i : Int))) = (Is.take i).map insA := by
            rw [Law.cut_to (by omega), show (0 + (i : Int)).toNat = i by omega, List.map_take]
          rw [e1]
          have g5 : Grown st4 (st4 ++ [.lst ((Is.take i).map insA)]) := .one _ _
          refine GW (bB.grown (g.trans g5)) ((g.trans g5).stL hb) (by omega) fun st6 g6 => ?_
          exact run st6 (g5.trans g6)
      · rintro ρ st5 ⟨g5, rfl⟩
        simp only [sp_ifs, wp_not, wp_tru, wp_ca, wp_bin, wp_call, wp_cons, wp_nil, wp_var, List.getElem?_cons_succ, List.getElem?_cons_zero, Option.some.injEq, ex_eq]
        have gg := g4.trans g5
        have bD' := bD.grown gg
        obtain ⟨q, h1, h2⟩ := bD'.at (b := 0 + (i : Int)) (by omega) (by simp; omega)
        have e0 : bAt ([] :: R) (0 + (i : Int)) = bAt ([] :: R) i := by rw [Int.zero_add]
        rw [e0] at h2
        rw [w_ixL]
        refine ⟨ds, gg.stL he, _, h1, ?_⟩
        rw [w_tupL]
        refine ⟨_, h2, ?_⟩
        have hm : bAt ([] :: R) i ∈ [] :: R := bAt_mem (by simp; omega)
        have hcmp : Cmp 39 (.tup (bAt ([] :: R) i)) := by
          rcases List.mem_cons.mp hm with h | h
          · rw [h]
            exact (Cmp.tup (d := 1) (fun x hx => (by cases hx)) (by simp)).mono (by omega)
          · exact (Cmp.tup (d := 1) (fun x hx => el_cmp (eR _ h x hx)) (by have := xR _ h; omega)).mono (by omega)
        refine AL hcmp ?_
        rw [w_truB, if_neg (by simp), sp_next]
        exact ⟨_, _, gg, rfl⟩
    · rintro ρ st4 _
      simp only [sp_ret, wp_c]
  obtain ⟨a, st, e, h⟩ := R.wp.ex key
  subst h
  exact ⟨st, e⟩
/-! the walk -/
def top (i : Nat) : Stmt := PySem.Challenge.pw_sameshape_k35_running_a_recipe.main.body.getD i (.Pass ⟨0, 0, 0, 0⟩)
section
variable {P : Program} {w : World} {K : PySem.W.Frag} {mg : Str → Option Value} {base : Heap}
abbrev s_law_tape : Stmt := top 15
theorem sc_law_tape : FnScope ["_law_script", "_law_total", "_law_cell"] ["_law_script"] (defScope s_law_tape) := ⟨rfl, rfl, rfl, by decide +kernel, rfl, by decide +kernel, by decide +kernel⟩
theorem c_law_tape (G_law_tape : GF K mg "_law_tape" s_law_tape ["_law_script"]) (n_int : mg "int" = none) (n_abs : mg "abs" = none) (n_list : mg "list" = none) : Cal P w K mg base "_law_tape" 1 m_law_tape := cal_of G_law_tape sc_law_tape fun f cdv A outer s H E hr => (
    (mss_cons (ms_set sc_law_tape.nd me_int)
    (mss_cons (ms_for passesE (mi_it (me_var 0)) (mg_one sc_law_tape.nd) (mss_one (ms_set sc_law_tape.nd (me_bin op_modP os_mod (me_callTy call_int1 cs_int (by decide +kernel) n_int (ma_cons (me_bin op_addU os_add (me_bin op_mulU os_mul (me_var 1) me_int) (me_callB call_abs cs_abs PyProof.Rows.boot_abs n_abs (ma_cons (me_callTy call_int1 cs_int (by decide +kernel) n_int (ma_cons (me_var 2) ma_nil)) ma_nil))) ma_nil)) me_int))))
    (mss_one (ms_ret (me_lst (ma_cons (me_callTy call_list_of cs_list (by decide +kernel) n_list (ma_cons (me_var 0) ma_nil)) (ma_cons me_int (ma_cons me_int (ma_cons (me_var 1) ma_nil))))))))))
abbrev s_law_draw : Stmt := top 16
theorem sc_law_draw : FnScope ["_law_tape_here", "_law_many", "_law_place", "_law_number"] ["_law_tape_here", "_law_many"] (defScope s_law_draw) := ⟨rfl, rfl, rfl, by decide +kernel, rfl, by decide +kernel, by decide +kernel⟩
theorem c_law_draw (G_law_draw : GF K mg "_law_draw" s_law_draw ["_law_tape_here", "_law_many"]) (n_len : mg "len" = none) (n_int : mg "int" = none) (n_abs : mg "abs" = none) (n_max : mg "max" = none) : Cal P w K mg base "_law_draw" 1 m_law_draw := cal_of G_law_draw sc_law_draw fun f cdv A outer s H E hr => (
    (mss_cons (ms_if (mt_cmp (op_eqU (units_ok hr)) os_eq (me_ix (me_var 0) me_int) me_int) (mss_cons (ms_set sc_law_draw.nd (me_ix (me_var 0) me_int))
    (mss_cons (ms_set sc_law_draw.nd me_int)
    (mss_cons (ms_if (mt_cmp op_ltU os_lt (me_var 2) (me_callB call_len cs_len PySem.boot_len n_len (ma_cons (me_ix (me_var 0) me_int) ma_nil))) (mss_one (ms_set sc_law_draw.nd (me_callB call_abs cs_abs PyProof.Rows.boot_abs n_abs (ma_cons (me_callTy call_int1 cs_int (by decide +kernel) n_int (ma_cons (me_ix (me_ix (me_var 0) me_int) (me_var 2)) ma_nil)) ma_nil)))) (mss_cons (ms_put (me_var 0) me_int (me_bin op_modP os_mod (me_callTy call_int1 cs_int (by decide +kernel) n_int (ma_cons (me_bin op_addU os_add (me_bin op_addU os_add (me_bin op_mulU os_mul (me_ix (me_var 0) me_int) me_int) (me_var 2)) me_int) ma_nil)) me_int))
    (mss_one (ms_set sc_law_draw.nd (me_ix (me_var 0) me_int)))))
    (mss_cons (ms_put (me_var 0) me_int (me_bin op_addU os_add (me_var 2) me_int))
    (mss_cons (ms_if (mt_cmp op_ltU os_lt (me_var 3) (me_bin op_pow os_pow me_int me_int)) (mss_cons (ms_set sc_law_draw.nd (me_bin op_modP os_mod (me_callTy call_int1 cs_int (by decide +kernel) n_int (ma_cons (me_bin op_addU os_add (me_bin op_addU os_add (me_bin op_mulU os_mul (me_var 3) me_int) (me_bin op_mulU os_mul (me_var 2) me_int)) me_int) ma_nil)) me_int))
    (mss_cons (ms_set sc_law_draw.nd (me_bin op_modP os_mod (me_callTy call_int1 cs_int (by decide +kernel) n_int (ma_cons (me_bin op_mulU os_mul (me_var 3) me_int) ma_nil)) me_int))
    (mss_one (ms_ret (me_bin op_modP os_mod (me_callTy call_int1 cs_int (by decide +kernel) n_int (ma_cons (me_var 3) ma_nil)) (me_callB (call_maxU rfl) cs_max PyProof.Rows.boot_max n_max (ma_cons (me_var 1) (ma_cons me_int ma_nil)))))))) mss_nil)
    (mss_one (ms_put (me_var 0) me_int (me_var 3)))))))) mss_nil)
    (mss_cons (ms_set sc_law_draw.nd (me_ix (me_var 0) me_int))
    (mss_cons (ms_put (me_var 0) me_int (me_bin op_fdivW os_fdiv (me_var 3) (me_callB (call_maxU rfl) cs_max PyProof.Rows.boot_max n_max (ma_cons (me_var 1) (ma_cons me_int ma_nil)))))
    (mss_one (ms_ret (me_bin op_modP os_mod (me_callTy call_int1 cs_int (by decide +kernel) n_int (ma_cons (me_var 3) ma_nil)) (me_callB (call_maxU rfl) cs_max PyProof.Rows.boot_max n_max (ma_cons (me_var 1) (ma_cons me_int ma_nil))))))))))
abbrev s_law_sign : Stmt := top 18
theorem sc_law_sign : FnScope ["_law_tape_here", "_law_signs"] ["_law_tape_here"] (defScope s_law_sign) := ⟨rfl, rfl, rfl, by decide +kernel, rfl, by decide +kernel, by decide +kernel⟩
theorem c_law_sign (G_law_sign : GF K mg "_law_sign" s_law_sign ["_law_tape_here"]) (C_law_draw : Cal P w K mg base "_law_draw" 1 m_law_draw) : Cal P w K mg base "_law_sign" 2 m_law_sign := cal_of G_law_sign sc_law_sign fun f cdv A outer s H E hr => (
    (mss_cons (ms_set sc_law_sign.nd me_str)
    (mss_cons (ms_set sc_law_sign.nd (me_bin op_addU os_add (me_var 1) me_str))
    (mss_one (ms_ret (me_ix (me_var 1) (me_call C_law_draw (hr.mono (by decide)) takesE (ma_cons (me_var 0) (ma_cons me_int ma_nil)))))))))
abbrev s_law_word : Stmt := top 19
theorem sc_law_word : FnScope ["_law_tape_here", "_law_word_here", "_law_k"] ["_law_tape_here"] (defScope s_law_word) := ⟨rfl, rfl, rfl, by decide +kernel, rfl, by decide +kernel, by decide +kernel⟩
theorem c_law_word (G_law_word : GF K mg "_law_word" s_law_word ["_law_tape_here"]) (C_law_draw : Cal P w K mg base "_law_draw" 1 m_law_draw) (C_law_sign : Cal P w K mg base "_law_sign" 2 m_law_sign) (n_range : mg "range" = none) : Cal P w K mg base "_law_word" 3 m_law_word := cal_of G_law_word sc_law_word fun f cdv A outer s H E hr => (
    (mss_cons (ms_set sc_law_word.nd (me_ix (me_lst (ma_cons me_str (ma_cons me_str (ma_cons me_str (ma_cons me_str ma_nil))))) (me_call C_law_draw (hr.mono (by decide)) takesE (ma_cons (me_var 0) (ma_cons me_int ma_nil)))))
    (mss_cons (ms_for passesE (mi_range1 (x := "range") n_range (ma_cons (me_call C_law_draw (hr.mono (by decide)) takesE (ma_cons (me_var 0) (ma_cons me_int ma_nil))) ma_nil) (hn := cons1)) (mg_one sc_law_word.nd) (mss_one (ms_set sc_law_word.nd (me_bin op_addU os_add (me_var 1) (me_call C_law_sign (hr.mono (by decide)) takesE (ma_cons (me_var 0) ma_nil))))))
    (mss_one (ms_ret (me_var 1))))))
abbrev s_law_scalar : Stmt := top 20
theorem sc_law_scalar : FnScope ["_law_tape_here", "_law_choice", "_law_edges"] ["_law_tape_here"] (defScope s_law_scalar) := ⟨rfl, rfl, rfl, by decide +kernel, rfl, by decide +kernel, by decide +kernel⟩
theorem c_law_scalar (G_law_scalar : GF K mg "_law_scalar" s_law_scalar ["_law_tape_here"]) (C_law_draw : Cal P w K mg base "_law_draw" 1 m_law_draw) (C_law_word : Cal P w K mg base "_law_word" 3 m_law_word) : Cal P w K mg base "_law_scalar" 4 m_law_scalar := cal_of G_law_scalar sc_law_scalar fun f cdv A outer s H E hr => (
    (mss_cons (ms_set sc_law_scalar.nd (me_call C_law_draw (hr.mono (by decide)) takesE (ma_cons (me_var 0) (ma_cons me_int ma_nil))))
    (mss_cons (ms_if (mt_cmp (op_eqU (units_ok hr)) os_eq (me_var 1) me_int) (mss_one (ms_ret (me_call C_law_word (hr.mono (by decide)) takesE (ma_cons (me_var 0) ma_nil)))) mss_nil)
    (mss_cons (ms_if (mt_cmp (op_eqU (units_ok hr)) os_eq (me_var 1) me_int) (mss_cons (ms_set sc_law_scalar.nd (me_lst (ma_cons me_int (ma_cons me_int (ma_cons me_int (ma_cons me_int (ma_cons me_int (ma_cons me_int (ma_cons me_int (ma_cons me_int (ma_cons (me_bin op_sub os_sub (me_bin op_pow os_pow me_int me_int) me_int) (ma_cons (me_bin op_pow os_pow me_int me_int) ma_nil))))))))))))
    (mss_one (ms_ret (me_bin op_mulU os_mul (me_ix (me_var 2) (me_call C_law_draw (hr.mono (by decide)) takesE (ma_cons (me_var 0) (ma_cons me_int ma_nil)))) (me_bin op_sub os_sub me_int (me_bin op_mulU os_mul me_int (me_call C_law_draw (hr.mono (by decide)) takesE (ma_cons (me_var 0) (ma_cons me_int ma_nil))))))))) mss_nil)
    (mss_cons (ms_if (mt_cmp (op_eqU (units_ok hr)) os_eq (me_var 1) me_int) (mss_one (ms_ret (me_bin op_mulU os_mul (me_bin op_sub os_sub (me_call C_law_draw (hr.mono (by decide)) takesE (ma_cons (me_var 0) (ma_cons me_int ma_nil))) me_int) (me_ix (me_lst (ma_cons me_int (ma_cons me_int (ma_cons me_int ma_nil)))) (me_call C_law_draw (hr.mono (by decide)) takesE (ma_cons (me_var 0) (ma_cons me_int ma_nil))))))) mss_nil)
    (mss_cons (ms_if (mt_cmp (op_eqU (units_ok hr)) os_eq (me_var 1) me_int) (mss_one (ms_ret (me_bin op_sub os_sub (me_call C_law_draw (hr.mono (by decide)) takesE (ma_cons (me_var 0) (ma_cons (me_bin op_addU os_add (me_bin op_mulU os_mul me_int (me_bin op_pow os_pow me_int me_int)) me_int) ma_nil))) (me_bin op_pow os_pow me_int me_int)))) mss_nil)
    (mss_one (ms_ret (me_call C_law_draw (hr.mono (by decide)) takesE (ma_cons (me_var 0) (ma_cons me_int ma_nil)))))))))))
abbrev s_law_element : Stmt := top 21
theorem sc_law_element : FnScope ["_law_tape_here", "_law_first"] ["_law_tape_here"] (defScope s_law_element) := ⟨rfl, rfl, rfl, by decide +kernel, rfl, by decide +kernel, by decide +kernel⟩
theorem c_law_element (G_law_element : GF K mg "_law_element" s_law_element ["_law_tape_here"]) (C_law_scalar : Cal P w K mg base "_law_scalar" 4 m_law_scalar) (C_law_draw : Cal P w K mg base "_law_draw" 1 m_law_draw) : Cal P w K mg base "_law_element" 5 m_law_element := cal_of G_law_element sc_law_element fun f cdv A outer s H E hr => (
    (mss_cons (ms_set sc_law_element.nd (me_call C_law_scalar (hr.mono (by decide)) takesE (ma_cons (me_var 0) ma_nil)))
    (mss_cons (ms_if (mt_cmp (op_eqU (units_ok hr)) os_eq (me_call C_law_draw (hr.mono (by decide)) takesE (ma_cons (me_var 0) (ma_cons me_int ma_nil))) me_int) (mss_one (ms_ret (me_tup (ma_cons (me_var 1) (ma_cons (me_call C_law_scalar (hr.mono (by decide)) takesE (ma_cons (me_var 0) ma_nil)) ma_nil))))) mss_nil)
    (mss_one (ms_ret (me_var 1))))))
abbrev s_law_contents : Stmt := top 22
theorem sc_law_contents : FnScope ["_law_tape_here", "_law_most", "_law_pool", "_law_row", "_law_k", "_law_choice", "_law_start", "_law_at", "_law_j"] ["_law_tape_here", "_law_most"] (defScope s_law_contents) := ⟨rfl, rfl, rfl, by decide +kernel, rfl, by decide +kernel, by decide +kernel⟩
theorem c_law_contents (G_law_contents : GF K mg "_law_contents" s_law_contents ["_law_tape_here", "_law_most"]) (C_law_draw : Cal P w K mg base "_law_draw" 1 m_law_draw) (C_law_element : Cal P w K mg base "_law_element" 5 m_law_element) (n_range : mg "range" = none) (n_len : mg "len" = none) : Cal P w K mg base "_law_contents" 6 m_law_contents := cal_of G_law_contents sc_law_contents fun f cdv A outer s H E hr => (
    (mss_cons (ms_set sc_law_contents.nd (me_lc [("_law_k", 4)] sc_law_contents.nd (mi_range1 (x := "range") n_range (ma_cons (me_bin op_addU os_add me_int (me_call C_law_draw (hr.mono (by decide)) takesE (ma_cons (me_var 0) (ma_cons me_int ma_nil)))) ma_nil) (hn := cons1)) (blkOk_by (N := ["_law_tape_here", "_law_most", "_law_pool", "_law_row", "_law_k", "_law_choice", "_law_start", "_law_at", "_law_j"]) (sc := defScope s_law_contents) (own := [("_law_k", 4)]) (by decide +kernel)) (fun _ _ _ _ _ => (mg_one sc_law_contents.nd)) (fun _ _ _ _ _ => mts_nil) (fun _ _ _ _ _ => (me_call C_law_element (hr.mono (by decide)) takes0 (ma_cons (me_var 0) ma_nil)))))
    (mss_cons (ms_set sc_law_contents.nd (me_lst ma_nil))
    (mss_cons (ms_for passesE (mi_range1 (x := "range") n_range (ma_cons (me_call C_law_draw (hr.mono (by decide)) takesE (ma_cons (me_var 0) (ma_cons me_int ma_nil))) ma_nil) (hn := cons1)) (mg_one sc_law_contents.nd) (mss_cons (ms_set sc_law_contents.nd (me_call C_law_draw (hr.mono (by decide)) takesE (ma_cons (me_var 0) (ma_cons me_int ma_nil))))
    (mss_one (ms_if (mt_cmp (op_eqU (units_ok hr)) os_eq (me_var 5) me_int) (mss_one (ms_set sc_law_contents.nd (me_bin op_addU os_add (me_var 3) (me_bin op_mulU os_mul (me_lst (ma_cons (me_ix (me_var 2) (me_call C_law_draw (hr.mono (by decide)) takesE (ma_cons (me_var 0) (ma_cons (me_callB call_len cs_len PySem.boot_len n_len (ma_cons (me_var 2) ma_nil)) ma_nil)))) ma_nil)) (me_bin op_addU os_add me_int (me_call C_law_draw (hr.mono (by decide)) takesE (ma_cons (me_var 0) (ma_cons me_int ma_nil)))))))) (mss_one (ms_if (mt_cmp (op_eqU (units_ok hr)) os_eq (me_var 5) me_int) (mss_cons (ms_set sc_law_contents.nd (me_call C_law_draw (hr.mono (by decide)) takesE (ma_cons (me_var 0) (ma_cons me_int ma_nil))))
    (mss_one (ms_set sc_law_contents.nd (me_bin op_addU os_add (me_var 3) (me_lc [("_law_j", 8)] sc_law_contents.nd (mi_range1 (x := "range") n_range (ma_cons (me_bin op_addU os_add me_int (me_call C_law_draw (hr.mono (by decide)) takesE (ma_cons (me_var 0) (ma_cons me_int ma_nil)))) ma_nil) (hn := cons1)) (blkOk_by (N := ["_law_tape_here", "_law_most", "_law_pool", "_law_row", "_law_k", "_law_choice", "_law_start", "_law_at", "_law_j"]) (sc := defScope s_law_contents) (own := [("_law_j", 8)]) (by decide +kernel)) (fun _ _ _ _ _ => (mg_one sc_law_contents.nd)) (fun _ _ _ _ _ => mts_nil) (fun _ _ _ _ _ => (me_bin op_addU os_add (me_var 6) (me_var 8)))))))) (mss_one (ms_if (mt_cmp (op_eqU (units_ok hr)) os_eq (me_var 5) me_int) (mss_cons (ms_set sc_law_contents.nd (me_call C_law_draw (hr.mono (by decide)) takesE (ma_cons (me_var 0) (ma_cons (me_bin op_addU os_add (me_callB call_len cs_len PySem.boot_len n_len (ma_cons (me_var 3) ma_nil)) me_int) ma_nil))))
    (mss_one (ms_set sc_law_contents.nd (me_bin op_addU os_add (me_var 3) (me_slice (me_var 3) (mo_some (me_var 7)) (mo_some (me_bin op_addU os_add (me_bin op_addU os_add (me_var 7) me_int) (me_call C_law_draw (hr.mono (by decide)) takesE (ma_cons (me_var 0) (ma_cons me_int ma_nil)))))))))) (mss_one (ms_if (mt_cmp (op_eqU (units_ok hr)) os_eq (me_var 5) me_int) (mss_one (ms_set sc_law_contents.nd (me_bin op_addU os_add (me_var 3) (me_bin op_mulU os_mul (me_bin op_addU os_add (me_slice (me_var 3) (mo_some (me_neg me_int)) mo_none) (me_lst (ma_cons (me_ix (me_var 2) (me_call C_law_draw (hr.mono (by decide)) takesE (ma_cons (me_var 0) (ma_cons (me_callB call_len cs_len PySem.boot_len n_len (ma_cons (me_var 2) ma_nil)) ma_nil)))) ma_nil))) (me_bin op_addU os_add me_int (me_call C_law_draw (hr.mono (by decide)) takesE (ma_cons (me_var 0) (ma_cons me_int ma_nil)))))))) (mss_one (ms_set sc_law_contents.nd (me_bin op_addU os_add (me_var 3) (me_lc [("_law_j", 8)] sc_law_contents.nd (mi_range1 (x := "range") n_range (ma_cons (me_bin op_addU os_add me_int (me_call C_law_draw (hr.mono (by decide)) takesE (ma_cons (me_var 0) (ma_cons me_int ma_nil)))) ma_nil) (hn := cons1)) (blkOk_by (N := ["_law_tape_here", "_law_most", "_law_pool", "_law_row", "_law_k", "_law_choice", "_law_start", "_law_at", "_law_j"]) (sc := defScope s_law_contents) (own := [("_law_j", 8)]) (by decide +kernel)) (fun _ _ _ _ _ => (mg_one sc_law_contents.nd)) (fun _ _ _ _ _ => mts_nil) (fun _ _ _ _ _ => (me_ix (me_var 2) (me_call C_law_draw (hr.mono (by decide)) takes0 (ma_cons (me_var 0) (ma_cons (me_callB call_len cs_len PySem.boot_len n_len (ma_cons (me_var 2) ma_nil)) ma_nil)))))))))))))))))))
    (mss_one (ms_ret (me_slice (me_var 3) mo_none (mo_some (me_var 1)))))))))
abbrev s_law_step : Stmt := top 24
theorem sc_law_step : FnScope ["_law_tape_here", "_law_bases", "_law_results", "_law_most", "_law_choice", "_law_step_here", "_law_base", "_law_many", "_law_start", "_law_size", "_law_k", "_law_part"] ["_law_tape_here", "_law_bases", "_law_results", "_law_most"] (defScope s_law_step) := ⟨rfl, rfl, rfl, by decide +kernel, rfl, by decide +kernel, by decide +kernel⟩
theorem c_law_step (G_law_step : GF K mg "_law_step" s_law_step ["_law_tape_here", "_law_bases", "_law_results", "_law_most"]) (C_law_draw : Cal P w K mg base "_law_draw" 1 m_law_draw) (C_law_element : Cal P w K mg base "_law_element" 5 m_law_element) (n_len : mg "len" = none) (n_min : mg "min" = none) (n_range : mg "range" = none) (n_tuple : mg "tuple" = none) (n_sum : mg "sum" = none) : Cal P w K mg base "_law_step" 6 m_law_step := cal_of G_law_step sc_law_step fun f cdv A outer s H E hr => (
    (mss_cons (ms_set sc_law_step.nd (me_call C_law_draw (hr.mono (by decide)) takesE (ma_cons (me_var 0) (ma_cons me_int ma_nil))))
    (mss_cons (ms_set sc_law_step.nd (me_tup (ma_cons me_str (ma_cons (me_call C_law_element (hr.mono (by decide)) takesE (ma_cons (me_var 0) ma_nil)) ma_nil))))
    (mss_cons (ms_if (L2.PW.pt (mw_and (mt_cmp op_ltU os_lt (me_var 4) me_int) (mw_and1 (mt_tru (me_var 1))))) (mss_cons (ms_set sc_law_step.nd (me_call C_law_draw (hr.mono (by decide)) takesE (ma_cons (me_var 0) (ma_cons (me_callB call_len cs_len PySem.boot_len n_len (ma_cons (me_var 1) ma_nil)) ma_nil))))
    (mss_cons (ms_set sc_law_step.nd (me_callB call_len cs_len PySem.boot_len n_len (ma_cons (me_ix (me_var 1) (me_var 6)) ma_nil)))
    (mss_cons (ms_set sc_law_step.nd (me_call C_law_draw (hr.mono (by decide)) takesE (ma_cons (me_var 0) (ma_cons (me_callB (call_minU rfl) cs_min PyProof.Rows.boot_min n_min (ma_cons (me_bin op_addU os_add (me_var 7) me_int) (ma_cons (me_ix (me_lst (ma_cons me_int (ma_cons me_int ma_nil))) (me_call C_law_draw (hr.mono (by decide)) takesE (ma_cons (me_var 0) (ma_cons me_int ma_nil)))) ma_nil))) ma_nil))))
    (mss_one (ms_set sc_law_step.nd (me_tup (ma_cons me_str (ma_cons (me_var 6) (ma_cons (me_var 8) (ma_cons (me_bin op_sub os_sub (me_var 7) (me_call C_law_draw (hr.mono (by decide)) takesE (ma_cons (me_var 0) (ma_cons (me_callB (call_minU rfl) cs_min PyProof.Rows.boot_min n_min (ma_cons (me_bin op_sub os_sub (me_bin op_addU os_add (me_var 7) me_int) (me_var 8)) (ma_cons (me_ix (me_lst (ma_cons me_int (ma_cons me_int ma_nil))) (me_call C_law_draw (hr.mono (by decide)) takesE (ma_cons (me_var 0) (ma_cons me_int ma_nil)))) ma_nil))) ma_nil)))) ma_nil)))))))))) mss_nil)
    (mss_cons (ms_if (L2.PW.pt (mw_and (mt_cmp op_gtU os_gt (me_var 4) me_int) (mw_and1 (mt_tru (me_var 2))))) (mss_one (ms_set sc_law_step.nd (me_tup (ma_cons me_str (ma_cons (me_bin op_mulU os_mul (me_callTy call_tupleP cs_tuple (by decide +kernel) n_tuple (ma_cons (me_lc [("_law_k", 10)] sc_law_step.nd (mi_range1 (x := "range") n_range (ma_cons (me_call C_law_draw (hr.mono (by decide)) takesE (ma_cons (me_var 0) (ma_cons me_int ma_nil))) ma_nil) (hn := cons1)) (blkOk_by (N := ["_law_tape_here", "_law_bases", "_law_results", "_law_most", "_law_choice", "_law_step_here", "_law_base", "_law_many", "_law_start", "_law_size", "_law_k", "_law_part"]) (sc := defScope s_law_step) (own := [("_law_k", 10)]) (by decide +kernel)) (fun _ _ _ _ _ => (mg_one sc_law_step.nd)) (fun _ _ _ _ _ => mts_nil) (fun _ _ _ _ _ => (me_call C_law_draw (hr.mono (by decide)) takes0 (ma_cons (me_var 0) (ma_cons (me_callB call_len cs_len PySem.boot_len n_len (ma_cons (me_var 2) ma_nil)) ma_nil))))) ma_nil)) (me_ix (me_lst (ma_cons me_int (ma_cons me_int (ma_cons me_int (ma_cons me_int ma_nil))))) (me_call C_law_draw (hr.mono (by decide)) takesE (ma_cons (me_var 0) (ma_cons me_int ma_nil))))) ma_nil))))) mss_nil)
    (mss_cons (ms_if (L2.PW.pt (mw_and (mt_cmp (op_eqU (units_ok hr)) os_eq (me_var 4) me_int) (mw_and1 (mt_tru (me_var 2))))) (mss_one (ms_set sc_law_step.nd (me_tup (ma_cons me_str (ma_cons (me_call C_law_draw (hr.mono (by decide)) takesE (ma_cons (me_var 0) (ma_cons (me_callB call_len cs_len PySem.boot_len n_len (ma_cons (me_var 2) ma_nil)) ma_nil))) (ma_cons (me_ix (me_lst (ma_cons me_int (ma_cons me_int (ma_cons me_int (ma_cons me_int (ma_cons me_int (ma_cons me_int (ma_cons me_int ma_nil)))))))) (me_call C_law_draw (hr.mono (by decide)) takesE (ma_cons (me_var 0) (ma_cons me_int ma_nil)))) ma_nil)))))) mss_nil)
    (mss_cons (ms_set sc_law_step.nd me_int)
    (mss_cons (ms_if (mt_cmp (op_eqU (units_ok hr)) os_eq (me_ix (me_var 5) me_int) me_str) (mss_one (ms_set sc_law_step.nd (me_bin op_sub os_sub (me_ix (me_var 5) me_int) (me_ix (me_var 5) me_int)))) (mss_one (ms_if (mt_cmp (op_eqU (units_ok hr)) os_eq (me_ix (me_var 5) me_int) me_str) (mss_one (ms_set sc_law_step.nd (me_bin op_mulU os_mul (me_callB call_len cs_len PySem.boot_len n_len (ma_cons (me_ix (me_var 2) (me_ix (me_var 5) me_int)) ma_nil)) (me_ix (me_var 5) me_int)))) (mss_one (ms_if (mt_cmp (op_eqU (units_ok hr)) os_eq (me_ix (me_var 5) me_int) me_str) (mss_one (ms_set sc_law_step.nd (me_callB (cr_sum rfl) cs_sum (by decide +kernel) n_sum (ma_cons (me_lc [("_law_part", 11)] sc_law_step.nd (mi_it (me_ix (me_var 5) me_int)) (blkOk_by (N := ["_law_tape_here", "_law_bases", "_law_results", "_law_most", "_law_choice", "_law_step_here", "_law_base", "_law_many", "_law_start", "_law_size", "_law_k", "_law_part"]) (sc := defScope s_law_step) (own := [("_law_part", 11)]) (by decide +kernel)) (fun _ _ _ _ _ => (mg_one sc_law_step.nd)) (fun _ _ _ _ _ => mts_nil) (fun _ _ _ _ _ => (me_callB call_len cs_len PySem.boot_len n_len (ma_cons (me_ix (me_var 2) (me_var 11)) ma_nil)))) ma_nil)))) mss_nil)))))
    (mss_cons (ms_if (mt_cmp op_gtU os_gt (me_var 9) (me_var 3)) (mss_one (ms_set sc_law_step.nd (me_tup (ma_cons me_str (ma_cons (me_var 4) ma_nil))))) mss_nil)
    (mss_one (ms_ret (me_var 5))))))))))))
abbrev s_law_result : Stmt := top 23
theorem sc_law_result : FnScope ["_law_bases", "_law_results", "_law_step_here", "_law_found", "_law_part"] ["_law_bases", "_law_results", "_law_step_here"] (defScope s_law_result) := ⟨rfl, rfl, rfl, by decide +kernel, rfl, by decide +kernel, by decide +kernel⟩
theorem c_law_result (G_law_result : GF K mg "_law_result" s_law_result ["_law_bases", "_law_results", "_law_step_here"]) : Cal P w K mg base "_law_result" 1 m_law_result := cal_of G_law_result sc_law_result fun f cdv A outer s H E hr => (
    (mss_cons (ms_if (mt_cmp (op_eqU (units_ok hr)) os_eq (me_ix (me_var 2) me_int) me_str) (mss_one (ms_ret (me_lst (ma_cons (me_ix (me_var 2) me_int) ma_nil)))) mss_nil)
    (mss_cons (ms_if (mt_cmp (op_eqU (units_ok hr)) os_eq (me_ix (me_var 2) me_int) me_str) (mss_one (ms_ret (me_slice (me_ix (me_var 0) (me_ix (me_var 2) me_int)) (mo_some (me_ix (me_var 2) me_int)) (mo_some (me_ix (me_var 2) me_int))))) mss_nil)
    (mss_cons (ms_if (mt_cmp (op_eqU (units_ok hr)) os_eq (me_ix (me_var 2) me_int) me_str) (mss_one (ms_ret (me_bin op_mulU os_mul (me_ix (me_var 1) (me_ix (me_var 2) me_int)) (me_ix (me_var 2) me_int)))) mss_nil)
    (mss_cons (ms_set sc_law_result.nd (me_lst ma_nil))
    (mss_cons (ms_for passesE (mi_it (me_ix (me_var 2) me_int)) (mg_one sc_law_result.nd) (mss_one (ms_set sc_law_result.nd (me_bin op_addU os_add (me_var 3) (me_ix (me_var 1) (me_var 4))))))
    (mss_one (ms_ret (me_var 3)))))))))
abbrev s_result_length : Stmt := top 11
theorem sc_result_length : FnScope ["instruction", "results", "part"] ["instruction", "results"] (defScope s_result_length) := ⟨rfl, rfl, rfl, by decide +kernel, rfl, by decide +kernel, by decide +kernel⟩
theorem c_result_length (G_result_length : GF K mg "result_length" s_result_length ["instruction", "results"]) (n_len : mg "len" = none) (n_sum : mg "sum" = none) : Cal P w K mg base "result_length" 1 m_result_length := cal_of G_result_length sc_result_length fun f cdv A outer s H E hr => (
    (mss_cons (ms_if (mt_cmp (op_eqU (units_ok hr)) os_eq (me_ix (me_var 0) me_int) me_str) (mss_one (ms_ret (me_bin op_sub os_sub (me_ix (me_var 0) me_int) (me_ix (me_var 0) me_int)))) mss_nil)
    (mss_cons (ms_if (mt_cmp (op_eqU (units_ok hr)) os_eq (me_ix (me_var 0) me_int) me_str) (mss_one (ms_ret (me_callB (cr_sum rfl) cs_sum (by decide +kernel) n_sum (ma_cons (me_lc [("part", 2)] sc_result_length.nd (mi_it (me_ix (me_var 0) me_int)) (blkOk_by (N := ["instruction", "results", "part"]) (sc := defScope s_result_length) (own := [("part", 2)]) (by decide +kernel)) (fun _ _ _ _ _ => (mg_one sc_result_length.nd)) (fun _ _ _ _ _ => mts_nil) (fun _ _ _ _ _ => (me_callB call_len cs_len PySem.boot_len n_len (ma_cons (me_ix (me_var 1) (me_var 2)) ma_nil)))) ma_nil)))) mss_nil)
    (mss_cons (ms_if (mt_cmp (op_eqU (units_ok hr)) os_eq (me_ix (me_var 0) me_int) me_str) (mss_one (ms_ret (me_bin op_mulU os_mul (me_callB call_len cs_len PySem.boot_len n_len (ma_cons (me_ix (me_var 1) (me_ix (me_var 0) me_int)) ma_nil)) (me_ix (me_var 0) me_int)))) mss_nil)
    (mss_one (ms_ret me_int))))))
abbrev s_check_count : Stmt := top 7
theorem sc_check_count : FnScope ["count"] ["count"] (defScope s_check_count) := ⟨rfl, rfl, rfl, by decide +kernel, rfl, by decide +kernel, by decide +kernel⟩
theorem c_check_count {C_TooManyElements : Addr} {I_TooManyElements : Addr} (G_check_count : GF K mg "check_count" s_check_count ["count"]) (g_MOST_ELEMENTS : ∃ u, mg "MOST_ELEMENTS" = some (.int 2000 u)) (S_TooManyElements : PySem.SupX.SupTxt P K mg "TooManyElements" "count" "too many elements" C_TooManyElements I_TooManyElements) : Cal P w K mg base "check_count" 1 m_check_count := cal_of G_check_count sc_check_count fun f cdv A outer s H E hr => (
    (mss_one (ms_if (mt_cmp op_gtU os_gt (me_var 0) (g_MOST_ELEMENTS.elim fun _ hg => me_glob (v := .int 2000) (d := .int 2000) rfl hg ⟨_, rfl⟩ (fun _ _ => RV.int _))) (mss_one (ms_raise S_TooManyElements hr takesE (me_var 0))) mss_nil)))
abbrev s_is_valid : Stmt := top 10
theorem sc_is_valid : FnScope ["instruction", "place", "bases", "base", "start", "end", "part"] ["instruction", "place", "bases"] (defScope s_is_valid) := ⟨rfl, rfl, rfl, by decide +kernel, rfl, by decide +kernel, by decide +kernel⟩
theorem c_is_valid (G_is_valid : GF K mg "is_valid" s_is_valid ["instruction", "place", "bases"]) (n_len : mg "len" = none) (n_all : mg "all" = none) : Cal P w K mg base "is_valid" 1 m_is_valid := cal_of G_is_valid sc_is_valid fun f cdv A outer s H E hr => (
    (mss_cons (ms_if (mt_cmp (op_eqU (units_ok hr)) os_eq (me_ix (me_var 0) me_int) me_str) (mss_cons (ms_asg (me_slice (me_var 0) (mo_some me_int) mo_none) (mg_many (mgs_cons (mg_one (i := 3) sc_is_valid.nd) (mgs_cons (mg_one (i := 4) sc_is_valid.nd) (mgs_cons (mg_one (i := 5) sc_is_valid.nd) mgs_nil)))))
    (mss_one (ms_ret (me_and (me_cmp op_ltU os_lt (me_var 3) (me_callB call_len cs_len PySem.boot_len n_len (ma_cons (me_var 2) ma_nil))) (me_and (me_cmp op_le os_le (me_var 4) (me_var 5)) (me_one (me_cmp op_le os_le (me_var 5) (me_callB call_len cs_len PySem.boot_len n_len (ma_cons (me_ix (me_var 2) (me_var 3)) ma_nil))))))))) mss_nil)
    (mss_cons (ms_if (mt_cmp (op_eqU (units_ok hr)) os_eq (me_ix (me_var 0) me_int) me_str) (mss_one (ms_ret (me_callB (cr_all rfl) cs_all (by decide +kernel) n_all (ma_cons (me_lc [("part", 6)] sc_is_valid.nd (mi_it (me_ix (me_var 0) me_int)) (blkOk_by (N := ["instruction", "place", "bases", "base", "start", "end", "part"]) (sc := defScope s_is_valid) (own := [("part", 6)]) (by decide +kernel)) (fun _ _ _ _ _ => (mg_one sc_is_valid.nd)) (fun _ _ _ _ _ => mts_nil) (fun _ _ _ _ _ => (me_cmp op_ltU os_lt (me_var 6) (me_var 1)))) ma_nil)))) mss_nil)
    (mss_cons (ms_if (mt_cmp (op_eqU (units_ok hr)) os_eq (me_ix (me_var 0) me_int) me_str) (mss_one (ms_ret (me_cmp op_ltU os_lt (me_ix (me_var 0) me_int) (me_var 1)))) mss_nil)
    (mss_one (ms_ret me_bl))))))
abbrev s_result_of : Stmt := top 12
theorem sc_result_of : FnScope ["instruction", "results", "bases", "base", "start", "end", "found", "part"] ["instruction", "results", "bases"] (defScope s_result_of) := ⟨rfl, rfl, rfl, by decide +kernel, rfl, by decide +kernel, by decide +kernel⟩
theorem c_result_of (G_result_of : GF K mg "result_of" s_result_of ["instruction", "results", "bases"]) (n_tuple : mg "tuple" = none) : Cal P w K mg base "result_of" 1 m_result_of := cal_of G_result_of sc_result_of fun f cdv A outer s H E hr => (
    (mss_cons (ms_if (mt_cmp (op_eqU (units_ok hr)) os_eq (me_ix (me_var 0) me_int) me_str) (mss_cons (ms_asg (me_slice (me_var 0) (mo_some me_int) mo_none) (mg_many (mgs_cons (mg_one (i := 3) sc_result_of.nd) (mgs_cons (mg_one (i := 4) sc_result_of.nd) (mgs_cons (mg_one (i := 5) sc_result_of.nd) mgs_nil)))))
    (mss_one (ms_ret (me_slice (me_ix (me_var 2) (me_var 3)) (mo_some (me_var 4)) (mo_some (me_var 5)))))) mss_nil)
    (mss_cons (ms_if (mt_cmp (op_eqU (units_ok hr)) os_eq (me_ix (me_var 0) me_int) me_str) (mss_cons (ms_set sc_result_of.nd (me_lst ma_nil))
    (mss_cons (ms_for passesE (mi_it (me_ix (me_var 0) me_int)) (mg_one sc_result_of.nd) (mss_one (ms_expr (me_bm PySem.F.slot_list_extend PySem.F.type_list_extend mt_extendU ms_extend (me_var 6) (ma_cons (me_ix (me_var 1) (me_var 7)) ma_nil)))))
    (mss_one (ms_ret (me_callTy call_tupleP cs_tuple (by decide +kernel) n_tuple (ma_cons (me_var 6) ma_nil)))))) mss_nil)
    (mss_cons (ms_if (mt_cmp (op_eqU (units_ok hr)) os_eq (me_ix (me_var 0) me_int) me_str) (mss_one (ms_ret (me_bin op_mulU os_mul (me_ix (me_var 1) (me_ix (me_var 0) me_int)) (me_ix (me_var 0) me_int)))) mss_nil)
    (mss_one (ms_ret (me_tup (ma_cons (me_ix (me_var 0) me_int) ma_nil))))))))
abbrev s_run_recipe : Stmt := top 13
theorem sc_run_recipe : FnScope ["recipe", "bases", "results", "total", "place", "instruction", "count"] ["recipe", "bases"] (defScope s_run_recipe) := ⟨rfl, rfl, rfl, by decide +kernel, rfl, by decide +kernel, by decide +kernel⟩
theorem c_run_recipe {C_InvalidInstruction : Addr} {C_RecipeTooLarge : Addr} {I_InvalidInstruction : Addr} {I_RecipeTooLarge : Addr} (G_run_recipe : GK K mg "run_recipe" "bases" s_run_recipe ["recipe", "bases"]) (C_is_valid : Cal P w K mg base "is_valid" 1 m_is_valid) (C_result_length : Cal P w K mg base "result_length" 1 m_result_length) (C_check_count : Cal P w K mg base "check_count" 1 m_check_count) (C_result_of : Cal P w K mg base "result_of" 1 m_result_of) (n_enumerate : mg "enumerate" = none) (S_InvalidInstruction : PySem.SupX.SupTxt P K mg "InvalidInstruction" "place" "invalid instruction" C_InvalidInstruction I_InvalidInstruction) (g_MOST_RESULTS : ∃ u, mg "MOST_RESULTS" = some (.int 200000 u)) (S_RecipeTooLarge : PySem.SupX.SupTxt P K mg "RecipeTooLarge" "place" "recipe too large" C_RecipeTooLarge I_RecipeTooLarge) : CalK P w K mg base "run_recipe" "bases" 2 m_run_recipe := calk_of G_run_recipe sc_run_recipe fun f cdv A outer s H E hr => (
    (mss_cons (ms_set sc_run_recipe.nd (me_lst ma_nil))
    (mss_cons (ms_set sc_run_recipe.nd me_int)
    (mss_cons (ms_for passesE (mi_enumT n_enumerate (ma_cons (me_var 0) ma_nil)) (mg_many (mgs_cons (mg_one (i := 4) sc_run_recipe.nd) (mgs_cons (mg_one (i := 5) sc_run_recipe.nd) mgs_nil))) (mss_cons (ms_if (mt_not (mt_tru (me_call C_is_valid (hr.mono (by decide)) takesE (ma_cons (me_var 5) (ma_cons (me_var 4) (ma_cons (me_var 1) ma_nil)))))) (mss_one (ms_raise S_InvalidInstruction hr takesE (me_var 4))) mss_nil)
    (mss_cons (ms_set sc_run_recipe.nd (me_call C_result_length (hr.mono (by decide)) takesE (ma_cons (me_var 5) (ma_cons (me_var 2) ma_nil))))
    (mss_cons (ms_expr (me_call C_check_count (hr.mono (by decide)) takesE (ma_cons (me_var 6) ma_nil)))
    (mss_cons (ms_aug sc_run_recipe.nd ip_add os_iadd (me_var 6))
    (mss_cons (ms_if (mt_cmp op_gtU os_gt (me_var 3) (g_MOST_RESULTS.elim fun _ hg => me_glob (v := .int 200000) (d := .int 200000) rfl hg ⟨_, rfl⟩ (fun _ _ => RV.int _))) (mss_one (ms_raise S_RecipeTooLarge hr takesE (me_var 4))) mss_nil)
    (mss_one (ms_expr (me_bm PySem.F.slot_list_append PySem.F.type_list_append mt_append ms_append (me_var 2) (ma_cons (me_call C_result_of (hr.mono (by decide)) takesE (ma_cons (me_var 5) (ma_cons (me_var 2) (ma_cons (me_var 1) ma_nil)))) ma_nil))))))))))
    (mss_cons (ms_if (mt_not (mt_tru (me_var 2))) (mss_one (ms_ret (me_tup ma_nil))) mss_nil)
    (mss_one (ms_ret (me_ix (me_var 2) (me_neg me_int)))))))))
abbrev s_law_alike : Stmt := top 17
theorem sc_law_alike : FnScope ["_law_told", "_law_due", "_law_k"] ["_law_told", "_law_due"] (defScope s_law_alike) := ⟨rfl, rfl, rfl, by decide +kernel, rfl, by decide +kernel, by decide +kernel⟩
theorem c_law_alike (G_law_alike : GF K mg "_law_alike" s_law_alike ["_law_told", "_law_due"]) (n_isinstance : mg "isinstance" = none) (n_tuple : mg "tuple" = none) (n_len : mg "len" = none) (n_range : mg "range" = none) (n_str : mg "str" = none) (n_bool : mg "bool" = none) (n_int : mg "int" = none) : ∀ n : Nat, Cal P w K mg base "_law_alike" (n + 0) (m_law_alike n)
  | 0 => cal_bad G_law_alike
  | n + 1 => by
    have ih_law_alike := c_law_alike G_law_alike n_isinstance n_tuple n_len n_range n_str n_bool n_int n
    exact Cal.cast (by omega) (cal_of G_law_alike sc_law_alike fun f cdv A outer s H E hr => (
    (mss_cons (ms_if (mt_tru (me_isi .tup (me_var 1) rfl rfl n_isinstance n_tuple (by decide +kernel))) (mss_cons (ms_if (L2.PW.pt (mw_or (mt_not (mt_tru (me_isi .tup (me_var 0) rfl rfl n_isinstance n_tuple (by decide +kernel)))) (mw_or1 (mt_cmp (op_neU (units_ok hr)) os_ne (me_callB call_len cs_len PySem.boot_len n_len (ma_cons (me_var 0) ma_nil)) (me_callB call_len cs_len PySem.boot_len n_len (ma_cons (me_var 1) ma_nil)))))) (mss_one (ms_ret me_bl)) mss_nil)
    (mss_cons (ms_for passesE (mi_range1 (x := "range") n_range (ma_cons (me_callB call_len cs_len PySem.boot_len n_len (ma_cons (me_var 1) ma_nil)) ma_nil) (hn := cons1)) (mg_one sc_law_alike.nd) (mss_one (ms_if (mt_not (mt_tru (me_call ih_law_alike (hr.mono (Nat.le_refl _)) takesE (ma_cons (me_ix (me_var 0) (me_var 2)) (ma_cons (me_ix (me_var 1) (me_var 2)) ma_nil))))) (mss_one (ms_ret me_bl)) mss_nil)))
    (mss_one (ms_ret me_bl)))) mss_nil)
    (mss_cons (ms_if (mt_cmp op_isN os_isN (me_var 1) me_non) (mss_one (ms_ret (me_cmp op_isN os_isN (me_var 0) me_non))) mss_nil)
    (mss_cons (ms_if (mt_tru (me_isi .str (me_var 1) rfl rfl n_isinstance n_str (by decide +kernel))) (mss_one (ms_ret (me_and (me_isi .str (me_var 0) rfl rfl n_isinstance n_str (by decide +kernel)) (me_one (me_cmp (op_eqU (units_ok hr)) os_eq (me_var 0) (me_var 1)))))) mss_nil)
    (mss_cons (ms_if (mt_cmp (op_neU (units_ok hr)) os_ne (me_isi .bool (me_var 0) rfl rfl n_isinstance n_bool (by decide +kernel)) (me_isi .bool (me_var 1) rfl rfl n_isinstance n_bool (by decide +kernel))) (mss_one (ms_ret me_bl)) mss_nil)
    (mss_one (ms_ret (me_and (me_isi .int (me_var 0) rfl rfl n_isinstance n_int (by decide +kernel)) (me_one (me_cmp (op_eqU (units_ok hr)) os_eq (me_var 0) (me_var 1))))))))))))
abbrev s_law_given : Stmt := top 25
theorem sc_law_given : FnScope ["_law_rows", "_law_row"] ["_law_rows"] (defScope s_law_given) := ⟨rfl, rfl, rfl, by decide +kernel, rfl, by decide +kernel, by decide +kernel⟩
theorem c_law_given (G_law_given : GF K mg "_law_given" s_law_given ["_law_rows"]) (n_tuple : mg "tuple" = none) : Cal P w K mg base "_law_given" 1 m_law_given := cal_of G_law_given sc_law_given fun f cdv A outer s H E hr => (
    (mss_one (ms_ret (me_callTy call_tupleP cs_tuple (by decide +kernel) n_tuple (ma_cons (me_lc [("_law_row", 1)] sc_law_given.nd (mi_it (me_var 0)) (blkOk_by (N := ["_law_rows", "_law_row"]) (sc := defScope s_law_given) (own := [("_law_row", 1)]) (by decide +kernel)) (fun _ _ _ _ _ => (mg_one sc_law_given.nd)) (fun _ _ _ _ _ => mts_nil) (fun _ _ _ _ _ => (me_callTy call_tupleP cs_tuple (by decide +kernel) n_tuple (ma_cons (me_var 1) ma_nil)))) ma_nil)))))
abbrev s_law : Stmt := top 26
theorem sc_law : FnScope ["_law_script", "_law_tape_here", "_law_bases", "_law_recipe", "_law_results", "_law_k", "_law_step_here", "_law_due", "_law_told"] ["_law_script"] (defScope s_law) := ⟨rfl, rfl, rfl, by decide +kernel, rfl, by decide +kernel, by decide +kernel⟩
theorem c_law_body (C_law_tape : Cal P w K mg base "_law_tape" 1 m_law_tape) (C_law_draw : Cal P w K mg base "_law_draw" 1 m_law_draw) (C_law_contents : Cal P w K mg base "_law_contents" 6 m_law_contents) (C_law_step : Cal P w K mg base "_law_step" 6 m_law_step) (C_law_result : Cal P w K mg base "_law_result" 1 m_law_result) (C_run_recipe : CalK P w K mg base "run_recipe" "bases" 2 m_run_recipe) (C_law_given : Cal P w K mg base "_law_given" 1 m_law_given) (C_law_alike : Cal P w K mg base "_law_alike" 40 (m_law_alike 40)) (n_range : mg "range" = none) (n_len : mg "len" = none) (n_tuple : mg "tuple" = none) {f : Addr} (cdv : Value) (A : Around) (outer : List PySem.Env) (s : Shared) (H : Hp) (E : XK) (hr : Room 40 (A.deeper (PyProof.Rows.envOfC "law" (defScope s_law) s.heap.objs.size f cdv))) : PSs (cxOf (L2.CX P w) P w K mg base ["_law_script", "_law_tape_here", "_law_bases", "_law_recipe", "_law_results", "_law_k", "_law_step_here", "_law_due", "_law_told"] "law" (defScope s_law) f cdv A outer s H E) (defBody s_law) (tS (cxOf (L2.CX P w) P w K mg base ["_law_script", "_law_tape_here", "_law_bases", "_law_recipe", "_law_results", "_law_k", "_law_step_here", "_law_due", "_law_told"] "law" (defScope s_law) f cdv A outer s H E) (fun c d _ H' => E c d H') ((mSeq (mSet 1 (mCall m_law_tape (mCons (mVar 0) mNil)))
    (mSeq (mSet 2 (mLc (mRng (mCons (mCall m_law_draw (mCons (mVar 1) (mCons (mBin ixA (mLst (mCons (mC (.int 4)) (mCons (mC (.int 4)) (mCons (mC (.int 9)) mNil)))) (mCall m_law_draw (mCons (mVar 1) (mCons (mC (.int 3)) mNil)))) mNil))) mNil)) (.one 5) [5] mYes (mCall m_law_contents (mCons (mVar 1) (mCons (mC (.int 20)) mNil)))))
    (mSeq (mSet 3 (mLst mNil))
    (mSeq (mSet 4 (mLst mNil))
    (mSeq (mFor (mRng (mCons (mCall m_law_draw (mCons (mVar 1) (mCons (mC (.int 9)) mNil))) mNil)) (.one 5) (mSeq (mSet 6 (mCall m_law_step (mCons (mVar 1) (mCons (mVar 2) (mCons (mVar 4) (mCons (mC (.int 300)) mNil))))))
    (mSeq (mExpr (mBm appendA (mVar 4) (mCons (mCall m_law_result (mCons (mVar 2) (mCons (mVar 4) (mCons (mVar 6) mNil)))) mNil)))
    (mExpr (mBm appendA (mVar 3) (mCons (mVar 6) mNil))))))
    (mSeq (mSet 7 (mBin addA (mLst (mCons (mLst mNil) mNil)) (mVar 4)))
    (mSeq (mFor (mRng (mCons (mCa lenA (mCons (mVar 7) mNil)) mNil)) (.one 5) (mSeq (mIfS (mTru (mVar 2)) (mSet 8 (mCall m_run_recipe (mCons (mCa tupleA (mCons (mSl (mVar 3) mNoPart (mPart (mVar 5))) mNil)) (mCons (mCall m_law_given (mCons (mVar 2) mNil)) mNil)))) (mSet 8 (mCall m_run_recipe (mCons (mCa tupleA (mCons (mSl (mVar 3) mNoPart (mPart (mVar 5))) mNil)) (mCons (mC (.tup [])) mNil)))))
    (mIfS (mNot (mTru (mCall (m_law_alike 40) (mCons (mVar 8) (mCons (mCa tupleA (mCons (mBin ixA (mVar 7) (mVar 5)) mNil)) mNil))))) (mRet (mC (.bl false))) mNext)))
    (mRet (mC (.bl true)))))))))))) := (
    (mss_cons (ms_set sc_law.nd (me_call C_law_tape (hr.mono (by decide)) takesE (ma_cons (me_var 0) ma_nil)))
    (mss_cons (ms_setLc [("_law_k", 5)] sc_law.nd (sw_true rfl rfl rfl (by decide +kernel)) (mi_range1 (x := "range") n_range (ma_cons (me_call C_law_draw (hr.mono (by decide)) takesE (ma_cons (me_var 1) (ma_cons (me_ix (me_lst (ma_cons me_int (ma_cons me_int (ma_cons me_int ma_nil)))) (me_call C_law_draw (hr.mono (by decide)) takesE (ma_cons (me_var 1) (ma_cons me_int ma_nil)))) ma_nil))) ma_nil) (hn := cons1)) (blkOk_by (N := ["_law_script", "_law_tape_here", "_law_bases", "_law_recipe", "_law_results", "_law_k", "_law_step_here", "_law_due", "_law_told"]) (sc := defScope s_law) (own := [("_law_k", 5)]) (by decide +kernel)) (fun _ _ _ _ _ => (mg_one sc_law.nd)) (fun _ _ _ _ _ => mts_nil) (fun _ _ _ _ _ => (me_call C_law_contents (hr.mono (by decide)) takes0 (ma_cons (me_var 1) (ma_cons me_int ma_nil)))))
    (mss_cons (ms_set sc_law.nd (me_lst ma_nil))
    (mss_cons (ms_set sc_law.nd (me_lst ma_nil))
    (mss_cons (ms_for passesE (mi_range1 (x := "range") n_range (ma_cons (me_call C_law_draw (hr.mono (by decide)) takesE (ma_cons (me_var 1) (ma_cons me_int ma_nil))) ma_nil) (hn := cons1)) (mg_one sc_law.nd) (mss_cons (ms_set sc_law.nd (me_call C_law_step (hr.mono (by decide)) takesE (ma_cons (me_var 1) (ma_cons (me_var 2) (ma_cons (me_var 4) (ma_cons me_int ma_nil))))))
    (mss_cons (ms_expr (me_bm PySem.F.slot_list_append PySem.F.type_list_append mt_append ms_append (me_var 4) (ma_cons (me_call C_law_result (hr.mono (by decide)) takesE (ma_cons (me_var 2) (ma_cons (me_var 4) (ma_cons (me_var 6) ma_nil)))) ma_nil)))
    (mss_one (ms_expr (me_bm PySem.F.slot_list_append PySem.F.type_list_append mt_append ms_append (me_var 3) (ma_cons (me_var 6) ma_nil)))))))
    (mss_cons (ms_set sc_law.nd (me_bin op_addU os_add (me_lst (ma_cons (me_lst ma_nil) ma_nil)) (me_var 4)))
    (mss_cons (ms_for passesE (mi_range1 (x := "range") n_range (ma_cons (me_callB call_len cs_len PySem.boot_len n_len (ma_cons (me_var 7) ma_nil)) ma_nil) (hn := cons1)) (mg_one sc_law.nd) (mss_cons (ms_if (mt_tru (me_var 2)) (mss_one (ms_set sc_law.nd (me_callK1 C_run_recipe (hr.mono (by decide)) takesE (me_callTy call_tupleP cs_tuple (by decide +kernel) n_tuple (ma_cons (me_slice (me_var 3) mo_none (mo_some (me_var 5))) ma_nil)) (me_call C_law_given (hr.mono (by decide)) takesE (ma_cons (me_var 2) ma_nil))))) (mss_one (ms_set sc_law.nd (me_callK0 C_run_recipe (hr.mono (by decide)) takesE (ma_cons (me_callTy call_tupleP cs_tuple (by decide +kernel) n_tuple (ma_cons (me_slice (me_var 3) mo_none (mo_some (me_var 5))) ma_nil)) ma_nil)))))
    (mss_one (ms_if (mt_not (mt_tru (me_call C_law_alike (hr.mono (by decide)) takesE (ma_cons (me_var 8) (ma_cons (me_callTy call_tupleP cs_tuple (by decide +kernel) n_tuple (ma_cons (me_ix (me_var 7) (me_var 5)) ma_nil)) ma_nil))))) (mss_one (ms_ret me_bl)) mss_nil))))
    (mss_one (ms_ret me_bl))))))))))
end
theorem all_mk {P : Program} {w : World} {K : PySem.W.Frag} {h : Heap} {mg : Str → Option Value} {fa : Addr} (X : K.In h) (G : h.Ns mainGlobals mg) (hfa : mg "law" = some (.ref fa))
    {f1 : Addr} {od1 an1 : Option Addr} {sl1 : Array (Option Value)} {oc1 kV1 dc1 pm1 cd1 ct1 : Value} (a1 : PySem.W.nsIn K mainGlobals "_law_tape" = some (some (.ref f1))) (l1 : K.lookup f1 = some ⟨oc1, od1, .func (PySem.W.fnOf "_law_tape" "_law_tape" (defArgs s_law_tape) (defBody s_law_tape) (defScope s_law_tape) .none kV1 dc1 pm1 an1 cd1 ct1), sl1⟩) (e1 : PySem.W.codeIn K cd1 "_law_tape" = true) (k1 : PySem.W.keepIn K (.ref f1) = true)
    {f2 : Addr} {od2 an2 : Option Addr} {sl2 : Array (Option Value)} {oc2 kV2 dc2 pm2 cd2 ct2 : Value} (a2 : PySem.W.nsIn K mainGlobals "_law_draw" = some (some (.ref f2))) (l2 : K.lookup f2 = some ⟨oc2, od2, .func (PySem.W.fnOf "_law_draw" "_law_draw" (defArgs s_law_draw) (defBody s_law_draw) (defScope s_law_draw) .none kV2 dc2 pm2 an2 cd2 ct2), sl2⟩) (e2 : PySem.W.codeIn K cd2 "_law_draw" = true) (k2 : PySem.W.keepIn K (.ref f2) = true)
    {f3 : Addr} {od3 an3 : Option Addr} {sl3 : Array (Option Value)} {oc3 kV3 dc3 pm3 cd3 ct3 : Value} (a3 : PySem.W.nsIn K mainGlobals "_law_sign" = some (some (.ref f3))) (l3 : K.lookup f3 = some ⟨oc3, od3, .func (PySem.W.fnOf "_law_sign" "_law_sign" (defArgs s_law_sign) (defBody s_law_sign) (defScope s_law_sign) .none kV3 dc3 pm3 an3 cd3 ct3), sl3⟩) (e3 : PySem.W.codeIn K cd3 "_law_sign" = true) (k3 : PySem.W.keepIn K (.ref f3) = true)
    {f4 : Addr} {od4 an4 : Option Addr} {sl4 : Array (Option Value)} {oc4 kV4 dc4 pm4 cd4 ct4 : Value} (a4 : PySem.W.nsIn K mainGlobals "_law_word" = some (some (.ref f4))) (l4 : K.lookup f4 = some ⟨oc4, od4, .func (PySem.W.fnOf "_law_word" "_law_word" (defArgs s_law_word) (defBody s_law_word) (defScope s_law_word) .none kV4 dc4 pm4 an4 cd4 ct4), sl4⟩) (e4 : PySem.W.codeIn K cd4 "_law_word" = true) (k4 : PySem.W.keepIn K (.ref f4) = true)
    {f5 : Addr} {od5 an5 : Option Addr} {sl5 : Array (Option Value)} {oc5 kV5 dc5 pm5 cd5 ct5 : Value} (a5 : PySem.W.nsIn K mainGlobals "_law_scalar" = some (some (.ref f5))) (l5 : K.lookup f5 = some ⟨oc5, od5, .func (PySem.W.fnOf "_law_scalar" "_law_scalar" (defArgs s_law_scalar) (defBody s_law_scalar) (defScope s_law_scalar) .none kV5 dc5 pm5 an5 cd5 ct5), sl5⟩) (e5 : PySem.W.codeIn K cd5 "_law_scalar" = true) (k5 : PySem.W.keepIn K (.ref f5) = true)
    {f6 : Addr} {od6 an6 : Option Addr} {sl6 : Array (Option Value)} {oc6 kV6 dc6 pm6 cd6 ct6 : Value} (a6 : PySem.W.nsIn K mainGlobals "_law_element" = some (some (.ref f6))) (l6 : K.lookup f6 = some ⟨oc6, od6, .func (PySem.W.fnOf "_law_element" "_law_element" (defArgs s_law_element) (defBody s_law_element) (defScope s_law_element) .none kV6 dc6 pm6 an6 cd6 ct6), sl6⟩) (e6 : PySem.W.codeIn K cd6 "_law_element" = true) (k6 : PySem.W.keepIn K (.ref f6) = true)
    {f7 : Addr} {od7 an7 : Option Addr} {sl7 : Array (Option Value)} {oc7 kV7 dc7 pm7 cd7 ct7 : Value} (a7 : PySem.W.nsIn K mainGlobals "_law_contents" = some (some (.ref f7))) (l7 : K.lookup f7 = some ⟨oc7, od7, .func (PySem.W.fnOf "_law_contents" "_law_contents" (defArgs s_law_contents) (defBody s_law_contents) (defScope s_law_contents) .none kV7 dc7 pm7 an7 cd7 ct7), sl7⟩) (e7 : PySem.W.codeIn K cd7 "_law_contents" = true) (k7 : PySem.W.keepIn K (.ref f7) = true)
    {f8 : Addr} {od8 an8 : Option Addr} {sl8 : Array (Option Value)} {oc8 kV8 dc8 pm8 cd8 ct8 : Value} (a8 : PySem.W.nsIn K mainGlobals "_law_step" = some (some (.ref f8))) (l8 : K.lookup f8 = some ⟨oc8, od8, .func (PySem.W.fnOf "_law_step" "_law_step" (defArgs s_law_step) (defBody s_law_step) (defScope s_law_step) .none kV8 dc8 pm8 an8 cd8 ct8), sl8⟩) (e8 : PySem.W.codeIn K cd8 "_law_step" = true) (k8 : PySem.W.keepIn K (.ref f8) = true)
    {f9 : Addr} {od9 an9 : Option Addr} {sl9 : Array (Option Value)} {oc9 kV9 dc9 pm9 cd9 ct9 : Value} (a9 : PySem.W.nsIn K mainGlobals "_law_result" = some (some (.ref f9))) (l9 : K.lookup f9 = some ⟨oc9, od9, .func (PySem.W.fnOf "_law_result" "_law_result" (defArgs s_law_result) (defBody s_law_result) (defScope s_law_result) .none kV9 dc9 pm9 an9 cd9 ct9), sl9⟩) (e9 : PySem.W.codeIn K cd9 "_law_result" = true) (k9 : PySem.W.keepIn K (.ref f9) = true)
    {f10 : Addr} {od10 an10 : Option Addr} {sl10 : Array (Option Value)} {oc10 kV10 dc10 pm10 cd10 ct10 : Value} (a10 : PySem.W.nsIn K mainGlobals "result_length" = some (some (.ref f10))) (l10 : K.lookup f10 = some ⟨oc10, od10, .func (PySem.W.fnOf "result_length" "result_length" (defArgs s_result_length) (defBody s_result_length) (defScope s_result_length) .none kV10 dc10 pm10 an10 cd10 ct10), sl10⟩) (e10 : PySem.W.codeIn K cd10 "result_length" = true) (k10 : PySem.W.keepIn K (.ref f10) = true)
    {f11 : Addr} {od11 an11 : Option Addr} {sl11 : Array (Option Value)} {oc11 kV11 dc11 pm11 cd11 ct11 : Value} (a11 : PySem.W.nsIn K mainGlobals "check_count" = some (some (.ref f11))) (l11 : K.lookup f11 = some ⟨oc11, od11, .func (PySem.W.fnOf "check_count" "check_count" (defArgs s_check_count) (defBody s_check_count) (defScope s_check_count) .none kV11 dc11 pm11 an11 cd11 ct11), sl11⟩) (e11 : PySem.W.codeIn K cd11 "check_count" = true) (k11 : PySem.W.keepIn K (.ref f11) = true)
    {f12 : Addr} {od12 an12 : Option Addr} {sl12 : Array (Option Value)} {oc12 kV12 dc12 pm12 cd12 ct12 : Value} (a12 : PySem.W.nsIn K mainGlobals "is_valid" = some (some (.ref f12))) (l12 : K.lookup f12 = some ⟨oc12, od12, .func (PySem.W.fnOf "is_valid" "is_valid" (defArgs s_is_valid) (defBody s_is_valid) (defScope s_is_valid) .none kV12 dc12 pm12 an12 cd12 ct12), sl12⟩) (e12 : PySem.W.codeIn K cd12 "is_valid" = true) (k12 : PySem.W.keepIn K (.ref f12) = true)
    {f13 : Addr} {od13 an13 : Option Addr} {sl13 : Array (Option Value)} {oc13 kV13 dc13 pm13 cd13 ct13 : Value} (a13 : PySem.W.nsIn K mainGlobals "result_of" = some (some (.ref f13))) (l13 : K.lookup f13 = some ⟨oc13, od13, .func (PySem.W.fnOf "result_of" "result_of" (defArgs s_result_of) (defBody s_result_of) (defScope s_result_of) .none kV13 dc13 pm13 an13 cd13 ct13), sl13⟩) (e13 : PySem.W.codeIn K cd13 "result_of" = true) (k13 : PySem.W.keepIn K (.ref f13) = true)
    {D14 T14 : Addr} {tn14 : Nat} {tsl14 : Array (Option Value)} 
    {f14 : Addr} {od14 an14 : Option Addr} {sl14 : Array (Option Value)} {oc14 dc14 pm14 cd14 ct14 : Value} (a14 : PySem.W.nsIn K mainGlobals "run_recipe" = some (some (.ref f14))) (l14 : K.lookup f14 = some ⟨oc14, od14, .func (PySem.W.fnOf "run_recipe" "run_recipe" (defArgs s_run_recipe) (defBody s_run_recipe) (defScope s_run_recipe) .none (.ref D14) dc14 pm14 an14 cd14 ct14), sl14⟩) (e14 : PySem.W.codeIn K cd14 "run_recipe" = true) (k14 : PySem.W.keepIn K (.ref f14) = true)
    (kd14 : PySem.W.nsIn K D14 "bases" = some (some (.ref T14))) (kt14 : K.lookup T14 = some ⟨.type "tuple", none, .seq #[] tn14, tsl14⟩)
    {f15 : Addr} {od15 an15 : Option Addr} {sl15 : Array (Option Value)} {oc15 kV15 dc15 pm15 cd15 ct15 : Value} (a15 : PySem.W.nsIn K mainGlobals "_law_alike" = some (some (.ref f15))) (l15 : K.lookup f15 = some ⟨oc15, od15, .func (PySem.W.fnOf "_law_alike" "_law_alike" (defArgs s_law_alike) (defBody s_law_alike) (defScope s_law_alike) .none kV15 dc15 pm15 an15 cd15 ct15), sl15⟩) (e15 : PySem.W.codeIn K cd15 "_law_alike" = true) (k15 : PySem.W.keepIn K (.ref f15) = true)
    {f16 : Addr} {od16 an16 : Option Addr} {sl16 : Array (Option Value)} {oc16 kV16 dc16 pm16 cd16 ct16 : Value} (a16 : PySem.W.nsIn K mainGlobals "_law_given" = some (some (.ref f16))) (l16 : K.lookup f16 = some ⟨oc16, od16, .func (PySem.W.fnOf "_law_given" "_law_given" (defArgs s_law_given) (defBody s_law_given) (defScope s_law_given) .none kV16 dc16 pm16 an16 cd16 ct16), sl16⟩) (e16 : PySem.W.codeIn K cd16 "_law_given" = true) (k16 : PySem.W.keepIn K (.ref f16) = true)
    {f17 : Addr} {od17 an17 : Option Addr} {sl17 : Array (Option Value)} {oc17 kV17 dc17 pm17 cd17 ct17 : Value} (a17 : PySem.W.nsIn K mainGlobals "law" = some (some (.ref f17))) (l17 : K.lookup f17 = some ⟨oc17, od17, .func (PySem.W.fnOf "law" "law" (defArgs s_law) (defBody s_law) (defScope s_law) .none kV17 dc17 pm17 an17 cd17 ct17), sl17⟩) (e17 : PySem.W.codeIn K cd17 "law" = true) (k17 : PySem.W.keepIn K (.ref f17) = true)
    (z_int : PySem.W.nsIn K mainGlobals "int" = some none)
    (z_abs : PySem.W.nsIn K mainGlobals "abs" = some none)
    (z_list : PySem.W.nsIn K mainGlobals "list" = some none)
    (z_len : PySem.W.nsIn K mainGlobals "len" = some none)
    (z_max : PySem.W.nsIn K mainGlobals "max" = some none)
    (z_range : PySem.W.nsIn K mainGlobals "range" = some none)
    (z_min : PySem.W.nsIn K mainGlobals "min" = some none)
    (z_tuple : PySem.W.nsIn K mainGlobals "tuple" = some none)
    (z_sum : PySem.W.nsIn K mainGlobals "sum" = some none)
    {u_MOST_ELEMENTS : Tok} (z_MOST_ELEMENTS : PySem.W.nsIn K mainGlobals "MOST_ELEMENTS" = some (some (.int 2000 u_MOST_ELEMENTS)))
    (z_all : PySem.W.nsIn K mainGlobals "all" = some none)
    (z_enumerate : PySem.W.nsIn K mainGlobals "enumerate" = some none)
    {u_MOST_RESULTS : Tok} (z_MOST_RESULTS : PySem.W.nsIn K mainGlobals "MOST_RESULTS" = some (some (.int 200000 u_MOST_RESULTS)))
    (z_isinstance : PySem.W.nsIn K mainGlobals "isinstance" = some none)
    (z_str : PySem.W.nsIn K mainGlobals "str" = some none)
    (z_bool : PySem.W.nsIn K mainGlobals "bool" = some none)
    (z_third : PySem.W.nsIn K cStatics "thirdparty.any" = some none)
    (z_super : PySem.W.nsIn K mainGlobals "super" = some none)
    (z_top : (P.main.scope.names.lookup ("super" : Str)).isSome = false)
    {C_TooManyElements : Addr} (c1_TooManyElements : PySem.W.nsIn K mainGlobals "TooManyElements" = some (some (.ref C_TooManyElements)))
    {B_TooManyElements_ShapeError : Addr} {nm_TooManyElements q_TooManyElements : Str} {N_TooManyElements : Addr} {bs_TooManyElements sub_TooManyElements : List Value} {sn_TooManyElements : List Str} {ab_TooManyElements : Bool} {col_TooManyElements : Option Bool} {dd_TooManyElements : Option Addr} {m0_TooManyElements m1_TooManyElements m2_TooManyElements m3_TooManyElements m5_TooManyElements : Option Value}
    (xL_TooManyElements : K.lookup C_TooManyElements = some (excClassObj nm_TooManyElements q_TooManyElements C_TooManyElements N_TooManyElements bs_TooManyElements [.ref B_TooManyElements_ShapeError, .type "ValueError", .type "Exception", .type "BaseException", .type "object"] true sn_TooManyElements sub_TooManyElements ab_TooManyElements col_TooManyElements dd_TooManyElements m0_TooManyElements m1_TooManyElements m2_TooManyElements m3_TooManyElements m5_TooManyElements "ValueError.__new__"))
    (sa_TooManyElements : PySem.W.findIn K (.ref C_TooManyElements) "__setattr__" = some (some (.builtin "object.__setattr__")))
    (nb_TooManyElements : PySem.W.findIn K (.ref C_TooManyElements) "count" = some none)
    {I_TooManyElements : Addr}
    (a1_TooManyElements : PySem.W.findIn K (.ref C_TooManyElements) "__init__" = some (some (.ref I_TooManyElements)))
    (t1_TooManyElements : PySem.W.typeIn K (.ref I_TooManyElements) = some (.type "function"))
    (su_TooManyElements : PySem.W.ks_superIn K C_TooManyElements C_TooManyElements "__init__" = some (some (.builtin "ValueError.__init__")))
    (ve_TooManyElements : PySem.W.subIn K (.ref C_TooManyElements) (.type "ValueError") = some true)
    (sf_TooManyElements : PySem.W.mroIn K C_TooManyElements (.ref C_TooManyElements) = some true)
    {oc_TooManyElements dc_TooManyElements pm_TooManyElements ct_TooManyElements cl_TooManyElements cc2_TooManyElements : Value} {od_TooManyElements an_TooManyElements cld_TooManyElements cdd_TooManyElements : Option Addr} {cda_TooManyElements cc_TooManyElements : Addr} {osl_TooManyElements csl_TooManyElements ccs_TooManyElements : Array (Option Value)} {vs_TooManyElements : Array Value} {fl_TooManyElements : Str} {tf_TooManyElements : Tok}
    (l1_TooManyElements : K.lookup I_TooManyElements = some ⟨oc_TooManyElements, od_TooManyElements, .func (PySem.W.ksFn "__init__" "TooManyElements.__init__" (PySem.SupX.iA "count" ⟨16, 17, 16, 21⟩ ⟨16, 23, 16, 28⟩) (PySem.SupX.iB "count" "too many elements" ⟨17, 8, 17, 13⟩ ⟨17, 8, 17, 15⟩ ⟨17, 8, 17, 24⟩ ⟨17, 25, 17, 44⟩ ⟨17, 8, 17, 45⟩ ⟨17, 8, 17, 45⟩ ⟨18, 8, 18, 12⟩ ⟨18, 8, 18, 18⟩ ⟨18, 21, 18, 26⟩ ⟨18, 8, 18, 26⟩) (PySem.SupX.iS "count") .none .none dc_TooManyElements pm_TooManyElements an_TooManyElements (.ref cda_TooManyElements) ct_TooManyElements cc_TooManyElements), osl_TooManyElements⟩)
    (e1_TooManyElements : PySem.W.codeIn K (.ref cda_TooManyElements) "TooManyElements.__init__" = true)
    (ce_TooManyElements : K.lookup cc_TooManyElements = some ⟨cl_TooManyElements, cld_TooManyElements, .cell (some (.ref C_TooManyElements)), csl_TooManyElements⟩)
    (co_TooManyElements : K.lookup cda_TooManyElements = some ⟨cc2_TooManyElements, cdd_TooManyElements, .fields vs_TooManyElements, ccs_TooManyElements⟩)
    (v2_TooManyElements : vs_TooManyElements[2]? = some (.str fl_TooManyElements tf_TooManyElements))
    (fi_TooManyElements : ((P.main.file : Str) == fl_TooManyElements) = true)
    (ga_TooManyElements : PySem.W.findIn K (.ref C_TooManyElements) "__getattribute__" = some (some (.builtin "BaseException.__getattribute__")))
    (gg_TooManyElements : PySem.W.findIn K (.ref C_TooManyElements) "__getattr__" = some none)
    (hC_TooManyElements : PySem.W.hasDictIn K C_TooManyElements = true)
    (kC_TooManyElements : PySem.W.keepIn K (.ref C_TooManyElements) = true)
    (eC_TooManyElements : PySem.W.subIn K (.ref C_TooManyElements) (.type "BaseException") = some true)
    (tC_TooManyElements : PySem.W.typeIn K (.ref C_TooManyElements) = some (.type "type"))
    {C_InvalidInstruction : Addr} (c1_InvalidInstruction : PySem.W.nsIn K mainGlobals "InvalidInstruction" = some (some (.ref C_InvalidInstruction)))
    {B_InvalidInstruction_ShapeError : Addr} {nm_InvalidInstruction q_InvalidInstruction : Str} {N_InvalidInstruction : Addr} {bs_InvalidInstruction sub_InvalidInstruction : List Value} {sn_InvalidInstruction : List Str} {ab_InvalidInstruction : Bool} {col_InvalidInstruction : Option Bool} {dd_InvalidInstruction : Option Addr} {m0_InvalidInstruction m1_InvalidInstruction m2_InvalidInstruction m3_InvalidInstruction m5_InvalidInstruction : Option Value}
    (xL_InvalidInstruction : K.lookup C_InvalidInstruction = some (excClassObj nm_InvalidInstruction q_InvalidInstruction C_InvalidInstruction N_InvalidInstruction bs_InvalidInstruction [.ref B_InvalidInstruction_ShapeError, .type "ValueError", .type "Exception", .type "BaseException", .type "object"] true sn_InvalidInstruction sub_InvalidInstruction ab_InvalidInstruction col_InvalidInstruction dd_InvalidInstruction m0_InvalidInstruction m1_InvalidInstruction m2_InvalidInstruction m3_InvalidInstruction m5_InvalidInstruction "ValueError.__new__"))
    (sa_InvalidInstruction : PySem.W.findIn K (.ref C_InvalidInstruction) "__setattr__" = some (some (.builtin "object.__setattr__")))
    (nb_InvalidInstruction : PySem.W.findIn K (.ref C_InvalidInstruction) "place" = some none)
    {I_InvalidInstruction : Addr}
    (a1_InvalidInstruction : PySem.W.findIn K (.ref C_InvalidInstruction) "__init__" = some (some (.ref I_InvalidInstruction)))
    (t1_InvalidInstruction : PySem.W.typeIn K (.ref I_InvalidInstruction) = some (.type "function"))
    (su_InvalidInstruction : PySem.W.ks_superIn K C_InvalidInstruction C_InvalidInstruction "__init__" = some (some (.builtin "ValueError.__init__")))
    (ve_InvalidInstruction : PySem.W.subIn K (.ref C_InvalidInstruction) (.type "ValueError") = some true)
    (sf_InvalidInstruction : PySem.W.mroIn K C_InvalidInstruction (.ref C_InvalidInstruction) = some true)
    {oc_InvalidInstruction dc_InvalidInstruction pm_InvalidInstruction ct_InvalidInstruction cl_InvalidInstruction cc2_InvalidInstruction : Value} {od_InvalidInstruction an_InvalidInstruction cld_InvalidInstruction cdd_InvalidInstruction : Option Addr} {cda_InvalidInstruction cc_InvalidInstruction : Addr} {osl_InvalidInstruction csl_InvalidInstruction ccs_InvalidInstruction : Array (Option Value)} {vs_InvalidInstruction : Array Value} {fl_InvalidInstruction : Str} {tf_InvalidInstruction : Tok}
    (l1_InvalidInstruction : K.lookup I_InvalidInstruction = some ⟨oc_InvalidInstruction, od_InvalidInstruction, .func (PySem.W.ksFn "__init__" "InvalidInstruction.__init__" (PySem.SupX.iA "place" ⟨6, 17, 6, 21⟩ ⟨6, 23, 6, 28⟩) (PySem.SupX.iB "place" "invalid instruction" ⟨7, 8, 7, 13⟩ ⟨7, 8, 7, 15⟩ ⟨7, 8, 7, 24⟩ ⟨7, 25, 7, 46⟩ ⟨7, 8, 7, 47⟩ ⟨7, 8, 7, 47⟩ ⟨8, 8, 8, 12⟩ ⟨8, 8, 8, 18⟩ ⟨8, 21, 8, 26⟩ ⟨8, 8, 8, 26⟩) (PySem.SupX.iS "place") .none .none dc_InvalidInstruction pm_InvalidInstruction an_InvalidInstruction (.ref cda_InvalidInstruction) ct_InvalidInstruction cc_InvalidInstruction), osl_InvalidInstruction⟩)
    (e1_InvalidInstruction : PySem.W.codeIn K (.ref cda_InvalidInstruction) "InvalidInstruction.__init__" = true)
    (ce_InvalidInstruction : K.lookup cc_InvalidInstruction = some ⟨cl_InvalidInstruction, cld_InvalidInstruction, .cell (some (.ref C_InvalidInstruction)), csl_InvalidInstruction⟩)
    (co_InvalidInstruction : K.lookup cda_InvalidInstruction = some ⟨cc2_InvalidInstruction, cdd_InvalidInstruction, .fields vs_InvalidInstruction, ccs_InvalidInstruction⟩)
    (v2_InvalidInstruction : vs_InvalidInstruction[2]? = some (.str fl_InvalidInstruction tf_InvalidInstruction))
    (fi_InvalidInstruction : ((P.main.file : Str) == fl_InvalidInstruction) = true)
    (ga_InvalidInstruction : PySem.W.findIn K (.ref C_InvalidInstruction) "__getattribute__" = some (some (.builtin "BaseException.__getattribute__")))
    (gg_InvalidInstruction : PySem.W.findIn K (.ref C_InvalidInstruction) "__getattr__" = some none)
    (hC_InvalidInstruction : PySem.W.hasDictIn K C_InvalidInstruction = true)
    (kC_InvalidInstruction : PySem.W.keepIn K (.ref C_InvalidInstruction) = true)
    (eC_InvalidInstruction : PySem.W.subIn K (.ref C_InvalidInstruction) (.type "BaseException") = some true)
    (tC_InvalidInstruction : PySem.W.typeIn K (.ref C_InvalidInstruction) = some (.type "type"))
    {C_RecipeTooLarge : Addr} (c1_RecipeTooLarge : PySem.W.nsIn K mainGlobals "RecipeTooLarge" = some (some (.ref C_RecipeTooLarge)))
    {B_RecipeTooLarge_ShapeError : Addr} {nm_RecipeTooLarge q_RecipeTooLarge : Str} {N_RecipeTooLarge : Addr} {bs_RecipeTooLarge sub_RecipeTooLarge : List Value} {sn_RecipeTooLarge : List Str} {ab_RecipeTooLarge : Bool} {col_RecipeTooLarge : Option Bool} {dd_RecipeTooLarge : Option Addr} {m0_RecipeTooLarge m1_RecipeTooLarge m2_RecipeTooLarge m3_RecipeTooLarge m5_RecipeTooLarge : Option Value}
    (xL_RecipeTooLarge : K.lookup C_RecipeTooLarge = some (excClassObj nm_RecipeTooLarge q_RecipeTooLarge C_RecipeTooLarge N_RecipeTooLarge bs_RecipeTooLarge [.ref B_RecipeTooLarge_ShapeError, .type "ValueError", .type "Exception", .type "BaseException", .type "object"] true sn_RecipeTooLarge sub_RecipeTooLarge ab_RecipeTooLarge col_RecipeTooLarge dd_RecipeTooLarge m0_RecipeTooLarge m1_RecipeTooLarge m2_RecipeTooLarge m3_RecipeTooLarge m5_RecipeTooLarge "ValueError.__new__"))
    (sa_RecipeTooLarge : PySem.W.findIn K (.ref C_RecipeTooLarge) "__setattr__" = some (some (.builtin "object.__setattr__")))
    (nb_RecipeTooLarge : PySem.W.findIn K (.ref C_RecipeTooLarge) "place" = some none)
    {I_RecipeTooLarge : Addr}
    (a1_RecipeTooLarge : PySem.W.findIn K (.ref C_RecipeTooLarge) "__init__" = some (some (.ref I_RecipeTooLarge)))
    (t1_RecipeTooLarge : PySem.W.typeIn K (.ref I_RecipeTooLarge) = some (.type "function"))
    (su_RecipeTooLarge : PySem.W.ks_superIn K C_RecipeTooLarge C_RecipeTooLarge "__init__" = some (some (.builtin "ValueError.__init__")))
    (ve_RecipeTooLarge : PySem.W.subIn K (.ref C_RecipeTooLarge) (.type "ValueError") = some true)
    (sf_RecipeTooLarge : PySem.W.mroIn K C_RecipeTooLarge (.ref C_RecipeTooLarge) = some true)
    {oc_RecipeTooLarge dc_RecipeTooLarge pm_RecipeTooLarge ct_RecipeTooLarge cl_RecipeTooLarge cc2_RecipeTooLarge : Value} {od_RecipeTooLarge an_RecipeTooLarge cld_RecipeTooLarge cdd_RecipeTooLarge : Option Addr} {cda_RecipeTooLarge cc_RecipeTooLarge : Addr} {osl_RecipeTooLarge csl_RecipeTooLarge ccs_RecipeTooLarge : Array (Option Value)} {vs_RecipeTooLarge : Array Value} {fl_RecipeTooLarge : Str} {tf_RecipeTooLarge : Tok}
    (l1_RecipeTooLarge : K.lookup I_RecipeTooLarge = some ⟨oc_RecipeTooLarge, od_RecipeTooLarge, .func (PySem.W.ksFn "__init__" "RecipeTooLarge.__init__" (PySem.SupX.iA "place" ⟨11, 17, 11, 21⟩ ⟨11, 23, 11, 28⟩) (PySem.SupX.iB "place" "recipe too large" ⟨12, 8, 12, 13⟩ ⟨12, 8, 12, 15⟩ ⟨12, 8, 12, 24⟩ ⟨12, 25, 12, 43⟩ ⟨12, 8, 12, 44⟩ ⟨12, 8, 12, 44⟩ ⟨13, 8, 13, 12⟩ ⟨13, 8, 13, 18⟩ ⟨13, 21, 13, 26⟩ ⟨13, 8, 13, 26⟩) (PySem.SupX.iS "place") .none .none dc_RecipeTooLarge pm_RecipeTooLarge an_RecipeTooLarge (.ref cda_RecipeTooLarge) ct_RecipeTooLarge cc_RecipeTooLarge), osl_RecipeTooLarge⟩)
    (e1_RecipeTooLarge : PySem.W.codeIn K (.ref cda_RecipeTooLarge) "RecipeTooLarge.__init__" = true)
    (ce_RecipeTooLarge : K.lookup cc_RecipeTooLarge = some ⟨cl_RecipeTooLarge, cld_RecipeTooLarge, .cell (some (.ref C_RecipeTooLarge)), csl_RecipeTooLarge⟩)
    (co_RecipeTooLarge : K.lookup cda_RecipeTooLarge = some ⟨cc2_RecipeTooLarge, cdd_RecipeTooLarge, .fields vs_RecipeTooLarge, ccs_RecipeTooLarge⟩)
    (v2_RecipeTooLarge : vs_RecipeTooLarge[2]? = some (.str fl_RecipeTooLarge tf_RecipeTooLarge))
    (fi_RecipeTooLarge : ((P.main.file : Str) == fl_RecipeTooLarge) = true)
    (ga_RecipeTooLarge : PySem.W.findIn K (.ref C_RecipeTooLarge) "__getattribute__" = some (some (.builtin "BaseException.__getattribute__")))
    (gg_RecipeTooLarge : PySem.W.findIn K (.ref C_RecipeTooLarge) "__getattr__" = some none)
    (hC_RecipeTooLarge : PySem.W.hasDictIn K C_RecipeTooLarge = true)
    (kC_RecipeTooLarge : PySem.W.keepIn K (.ref C_RecipeTooLarge) = true)
    (eC_RecipeTooLarge : PySem.W.subIn K (.ref C_RecipeTooLarge) (.type "BaseException") = some true)
    (tC_RecipeTooLarge : PySem.W.typeIn K (.ref C_RecipeTooLarge) = some (.type "type")) :
    ∃ fd : FuncData, (∀ (s : Shared) (v : Value), BindsTo s fd ⟨[v], []⟩ [("_law_script", v)]) ∧ ∀ base : Heap, K.In base → base.Ns mainGlobals mg → FnOk P w K mg base (L2.CX P w) 41 fa fd ["_law_script"] (spM K w mg m_law) := by
  have F1 := fun_mk (st := s_law_tape) l1 e1 k1
  have b1 := F1.binds (ps := ["_law_script"]) fun _ _ _ _ _ _ us hl => match us, hl with | [_], _ => rfl
  have G_law_tape : GF K mg "_law_tape" s_law_tape ["_law_script"] := ⟨_, _, PySem.W.mg_of X G a1, F1, b1⟩
  have F2 := fun_mk (st := s_law_draw) l2 e2 k2
  have b2 := F2.binds (ps := ["_law_tape_here", "_law_many"]) fun _ _ _ _ _ _ us hl => match us, hl with | [_, _], _ => rfl
  have G_law_draw : GF K mg "_law_draw" s_law_draw ["_law_tape_here", "_law_many"] := ⟨_, _, PySem.W.mg_of X G a2, F2, b2⟩
  have F3 := fun_mk (st := s_law_sign) l3 e3 k3
  have b3 := F3.binds (ps := ["_law_tape_here"]) fun _ _ _ _ _ _ us hl => match us, hl with | [_], _ => rfl
  have G_law_sign : GF K mg "_law_sign" s_law_sign ["_law_tape_here"] := ⟨_, _, PySem.W.mg_of X G a3, F3, b3⟩
  have F4 := fun_mk (st := s_law_word) l4 e4 k4
  have b4 := F4.binds (ps := ["_law_tape_here"]) fun _ _ _ _ _ _ us hl => match us, hl with | [_], _ => rfl
  have G_law_word : GF K mg "_law_word" s_law_word ["_law_tape_here"] := ⟨_, _, PySem.W.mg_of X G a4, F4, b4⟩
  have F5 := fun_mk (st := s_law_scalar) l5 e5 k5
  have b5 := F5.binds (ps := ["_law_tape_here"]) fun _ _ _ _ _ _ us hl => match us, hl with | [_], _ => rfl
  have G_law_scalar : GF K mg "_law_scalar" s_law_scalar ["_law_tape_here"] := ⟨_, _, PySem.W.mg_of X G a5, F5, b5⟩
  have F6 := fun_mk (st := s_law_element) l6 e6 k6
  have b6 := F6.binds (ps := ["_law_tape_here"]) fun _ _ _ _ _ _ us hl => match us, hl with | [_], _ => rfl
  have G_law_element : GF K mg "_law_element" s_law_element ["_law_tape_here"] := ⟨_, _, PySem.W.mg_of X G a6, F6, b6⟩
  have F7 := fun_mk (st := s_law_contents) l7 e7 k7
  have b7 := F7.binds (ps := ["_law_tape_here", "_law_most"]) fun _ _ _ _ _ _ us hl => match us, hl with | [_, _], _ => rfl
  have G_law_contents : GF K mg "_law_contents" s_law_contents ["_law_tape_here", "_law_most"] := ⟨_, _, PySem.W.mg_of X G a7, F7, b7⟩
  have F8 := fun_mk (st := s_law_step) l8 e8 k8
  have b8 := F8.binds (ps := ["_law_tape_here", "_law_bases", "_law_results", "_law_most"]) fun _ _ _ _ _ _ us hl => match us, hl with | [_, _, _, _], _ => rfl
  have G_law_step : GF K mg "_law_step" s_law_step ["_law_tape_here", "_law_bases", "_law_results", "_law_most"] := ⟨_, _, PySem.W.mg_of X G a8, F8, b8⟩
  have F9 := fun_mk (st := s_law_result) l9 e9 k9
  have b9 := F9.binds (ps := ["_law_bases", "_law_results", "_law_step_here"]) fun _ _ _ _ _ _ us hl => match us, hl with | [_, _, _], _ => rfl
  have G_law_result : GF K mg "_law_result" s_law_result ["_law_bases", "_law_results", "_law_step_here"] := ⟨_, _, PySem.W.mg_of X G a9, F9, b9⟩
  have F10 := fun_mk (st := s_result_length) l10 e10 k10
  have b10 := F10.binds (ps := ["instruction", "results"]) fun _ _ _ _ _ _ us hl => match us, hl with | [_, _], _ => rfl
  have G_result_length : GF K mg "result_length" s_result_length ["instruction", "results"] := ⟨_, _, PySem.W.mg_of X G a10, F10, b10⟩
  have F11 := fun_mk (st := s_check_count) l11 e11 k11
  have b11 := F11.binds (ps := ["count"]) fun _ _ _ _ _ _ us hl => match us, hl with | [_], _ => rfl
  have G_check_count : GF K mg "check_count" s_check_count ["count"] := ⟨_, _, PySem.W.mg_of X G a11, F11, b11⟩
  have F12 := fun_mk (st := s_is_valid) l12 e12 k12
  have b12 := F12.binds (ps := ["instruction", "place", "bases"]) fun _ _ _ _ _ _ us hl => match us, hl with | [_, _, _], _ => rfl
  have G_is_valid : GF K mg "is_valid" s_is_valid ["instruction", "place", "bases"] := ⟨_, _, PySem.W.mg_of X G a12, F12, b12⟩
  have F13 := fun_mk (st := s_result_of) l13 e13 k13
  have b13 := F13.binds (ps := ["instruction", "results", "bases"]) fun _ _ _ _ _ _ us hl => match us, hl with | [_, _, _], _ => rfl
  have G_result_of : GF K mg "result_of" s_result_of ["instruction", "results", "bases"] := ⟨_, _, PySem.W.mg_of X G a13, F13, b13⟩
  have G_run_recipe : GK K mg "run_recipe" "bases" s_run_recipe ["recipe", "bases"] := gk_mk (PySem.W.mg_of X G a14) l14 e14 k14 kd14 kt14 rfl (fun D doc pm an cdv ct us ks h1 h2 => match us, ks, h1, h2 with | [_], [_], _, _ => ⟨_, _, _, _, _, _, rfl, rfl, rfl⟩) (fun _ _ _ _ _ _ _ _ => rfl)
  have F15 := fun_mk (st := s_law_alike) l15 e15 k15
  have b15 := F15.binds (ps := ["_law_told", "_law_due"]) fun _ _ _ _ _ _ us hl => match us, hl with | [_, _], _ => rfl
  have G_law_alike : GF K mg "_law_alike" s_law_alike ["_law_told", "_law_due"] := ⟨_, _, PySem.W.mg_of X G a15, F15, b15⟩
  have F16 := fun_mk (st := s_law_given) l16 e16 k16
  have b16 := F16.binds (ps := ["_law_rows"]) fun _ _ _ _ _ _ us hl => match us, hl with | [_], _ => rfl
  have G_law_given : GF K mg "_law_given" s_law_given ["_law_rows"] := ⟨_, _, PySem.W.mg_of X G a16, F16, b16⟩
  have F17 := fun_mk (st := s_law) l17 e17 k17
  have b17 := F17.binds (ps := ["_law_script"]) fun _ _ _ _ _ _ us hl => match us, hl with | [_], _ => rfl
  have G_law : GF K mg "law" s_law ["_law_script"] := ⟨_, _, PySem.W.mg_of X G a17, F17, b17⟩
  have n_int : mg "int" = none := PySem.W.mg_none_of X G z_int
  have n_abs : mg "abs" = none := PySem.W.mg_none_of X G z_abs
  have n_list : mg "list" = none := PySem.W.mg_none_of X G z_list
  have n_len : mg "len" = none := PySem.W.mg_none_of X G z_len
  have n_max : mg "max" = none := PySem.W.mg_none_of X G z_max
  have n_range : mg "range" = none := PySem.W.mg_none_of X G z_range
  have n_min : mg "min" = none := PySem.W.mg_none_of X G z_min
  have n_tuple : mg "tuple" = none := PySem.W.mg_none_of X G z_tuple
  have n_sum : mg "sum" = none := PySem.W.mg_none_of X G z_sum
  have g_MOST_ELEMENTS : ∃ u, mg "MOST_ELEMENTS" = some (.int 2000 u) := ⟨_, PySem.W.mg_of X G z_MOST_ELEMENTS⟩
  have S_TooManyElements : PySem.SupX.SupTxt P K mg "TooManyElements" "count" "too many elements" C_TooManyElements I_TooManyElements := { fok := by first | exact Or.inl rfl | exact Or.inr rfl, gC := PySem.W.mg_of X G c1_TooManyElements, cls := ⟨_, _, _, _, _, _, _, _, _, _, _, _, _, _, _, xL_TooManyElements, by first | rfl | decide +kernel⟩, sa := sa_TooManyElements, ga := ga_TooManyElements, gg := gg_TooManyElements, noN := nb_TooManyElements, iC := a1_TooManyElements, tC := t1_TooManyElements, kC := kC_TooManyElements, exC := eC_TooManyElements, tyC := tC_TooManyElements, hdC := hC_TooManyElements, sup := su_TooManyElements, veC := ve_TooManyElements, slf := sf_TooManyElements, third := z_third, nosup := PySem.W.mg_none_of X G z_super, top := z_top, fn := ⟨_, _, _, _, _, _, _, _, _, _, _, _, _, _, _, _, _, _, _, _, _, _, l1_TooManyElements, e1_TooManyElements, fun env => ⟨_, rfl⟩, ⟨_, _, _, ce_TooManyElements⟩, _, _, _, _, _, _, co_TooManyElements, v2_TooManyElements, fi_TooManyElements⟩ }
  have n_all : mg "all" = none := PySem.W.mg_none_of X G z_all
  have n_enumerate : mg "enumerate" = none := PySem.W.mg_none_of X G z_enumerate
  have S_InvalidInstruction : PySem.SupX.SupTxt P K mg "InvalidInstruction" "place" "invalid instruction" C_InvalidInstruction I_InvalidInstruction := { fok := by first | exact Or.inl rfl | exact Or.inr rfl, gC := PySem.W.mg_of X G c1_InvalidInstruction, cls := ⟨_, _, _, _, _, _, _, _, _, _, _, _, _, _, _, xL_InvalidInstruction, by first | rfl | decide +kernel⟩, sa := sa_InvalidInstruction, ga := ga_InvalidInstruction, gg := gg_InvalidInstruction, noN := nb_InvalidInstruction, iC := a1_InvalidInstruction, tC := t1_InvalidInstruction, kC := kC_InvalidInstruction, exC := eC_InvalidInstruction, tyC := tC_InvalidInstruction, hdC := hC_InvalidInstruction, sup := su_InvalidInstruction, veC := ve_InvalidInstruction, slf := sf_InvalidInstruction, third := z_third, nosup := PySem.W.mg_none_of X G z_super, top := z_top, fn := ⟨_, _, _, _, _, _, _, _, _, _, _, _, _, _, _, _, _, _, _, _, _, _, l1_InvalidInstruction, e1_InvalidInstruction, fun env => ⟨_, rfl⟩, ⟨_, _, _, ce_InvalidInstruction⟩, _, _, _, _, _, _, co_InvalidInstruction, v2_InvalidInstruction, fi_InvalidInstruction⟩ }
  have g_MOST_RESULTS : ∃ u, mg "MOST_RESULTS" = some (.int 200000 u) := ⟨_, PySem.W.mg_of X G z_MOST_RESULTS⟩
  have S_RecipeTooLarge : PySem.SupX.SupTxt P K mg "RecipeTooLarge" "place" "recipe too large" C_RecipeTooLarge I_RecipeTooLarge := { fok := by first | exact Or.inl rfl | exact Or.inr rfl, gC := PySem.W.mg_of X G c1_RecipeTooLarge, cls := ⟨_, _, _, _, _, _, _, _, _, _, _, _, _, _, _, xL_RecipeTooLarge, by first | rfl | decide +kernel⟩, sa := sa_RecipeTooLarge, ga := ga_RecipeTooLarge, gg := gg_RecipeTooLarge, noN := nb_RecipeTooLarge, iC := a1_RecipeTooLarge, tC := t1_RecipeTooLarge, kC := kC_RecipeTooLarge, exC := eC_RecipeTooLarge, tyC := tC_RecipeTooLarge, hdC := hC_RecipeTooLarge, sup := su_RecipeTooLarge, veC := ve_RecipeTooLarge, slf := sf_RecipeTooLarge, third := z_third, nosup := PySem.W.mg_none_of X G z_super, top := z_top, fn := ⟨_, _, _, _, _, _, _, _, _, _, _, _, _, _, _, _, _, _, _, _, _, _, l1_RecipeTooLarge, e1_RecipeTooLarge, fun env => ⟨_, rfl⟩, ⟨_, _, _, ce_RecipeTooLarge⟩, _, _, _, _, _, _, co_RecipeTooLarge, v2_RecipeTooLarge, fi_RecipeTooLarge⟩ }
  have n_isinstance : mg "isinstance" = none := PySem.W.mg_none_of X G z_isinstance
  have n_str : mg "str" = none := PySem.W.mg_none_of X G z_str
  have n_bool : mg "bool" = none := PySem.W.mg_none_of X G z_bool
  have e := hfa.symm.trans (PySem.W.mg_of X G a17)
  cases e
  refine ⟨PySem.W.fnOf "law" "law" (defArgs s_law) (defBody s_law) (defScope s_law) .none kV17 dc17 pm17 an17 cd17 ct17, fun s v => .of_eq rfl, fun base _ _ => ?_⟩
  have C_law_tape : Cal P w K mg base "_law_tape" 1 m_law_tape := c_law_tape G_law_tape n_int n_abs n_list
  have C_law_draw : Cal P w K mg base "_law_draw" 1 m_law_draw := c_law_draw G_law_draw n_len n_int n_abs n_max
  have C_law_sign : Cal P w K mg base "_law_sign" 2 m_law_sign := c_law_sign G_law_sign C_law_draw
  have C_law_word : Cal P w K mg base "_law_word" 3 m_law_word := c_law_word G_law_word C_law_draw C_law_sign n_range
  have C_law_scalar : Cal P w K mg base "_law_scalar" 4 m_law_scalar := c_law_scalar G_law_scalar C_law_draw C_law_word
  have C_law_element : Cal P w K mg base "_law_element" 5 m_law_element := c_law_element G_law_element C_law_scalar C_law_draw
  have C_law_contents : Cal P w K mg base "_law_contents" 6 m_law_contents := c_law_contents G_law_contents C_law_draw C_law_element n_range n_len
  have C_law_step : Cal P w K mg base "_law_step" 6 m_law_step := c_law_step G_law_step C_law_draw C_law_element n_len n_min n_range n_tuple n_sum
  have C_law_result : Cal P w K mg base "_law_result" 1 m_law_result := c_law_result G_law_result
  have C_result_length : Cal P w K mg base "result_length" 1 m_result_length := c_result_length G_result_length n_len n_sum
  have C_check_count : Cal P w K mg base "check_count" 1 m_check_count := c_check_count G_check_count g_MOST_ELEMENTS S_TooManyElements
  have C_is_valid : Cal P w K mg base "is_valid" 1 m_is_valid := c_is_valid G_is_valid n_len n_all
  have C_result_of : Cal P w K mg base "result_of" 1 m_result_of := c_result_of G_result_of n_tuple
  have C_run_recipe : CalK P w K mg base "run_recipe" "bases" 2 m_run_recipe := c_run_recipe G_run_recipe C_is_valid C_result_length C_check_count C_result_of n_enumerate S_InvalidInstruction g_MOST_RESULTS S_RecipeTooLarge
  have C_law_alike : Cal P w K mg base "_law_alike" 40 (m_law_alike 40) := (c_law_alike G_law_alike n_isinstance n_tuple n_len n_range n_str n_bool n_int 40)
  have C_law_given : Cal P w K mg base "_law_given" 1 m_law_given := c_law_given G_law_given n_tuple
  exact fn_ok F17 sc_law (c_law_body C_law_tape C_law_draw C_law_contents C_law_step C_law_result C_run_recipe C_law_given C_law_alike n_range n_len n_tuple)
end Law
open PySem PySem.W PyProof.Rows
set_option maxRecDepth 100000 in
set_option maxHeartbeats 0 in
theorem PySem.Challenge.cw_sameshape_k35_running_a_recipe_holds : PySem.Challenge.rw_sameshape_k35_running_a_recipe.Holds := by
  w_on; o_law; k_head; (case hw => w_witness2)
  k_fill
  refine ML.law_end (l := PySem.Challenge.rw_sameshape_k35_running_a_recipe) (k := 41) (x := "_law_script") (m := Law.m_law) rfl rfl ⟨rfl, by decide, by decide⟩ (fun w h Y => PySem.W.kIn_of Y) Law.law_true ?F
  case F =>
    intro w mg fa h KX G hmg
    refine' Law.all_mk KX G hmg ?a1 ?l1 ?e1 ?k1 ?a2 ?l2 ?e2 ?k2 ?a3 ?l3 ?e3 ?k3 ?a4 ?l4 ?e4 ?k4 ?a5 ?l5 ?e5 ?k5 ?a6 ?l6 ?e6 ?k6 ?a7 ?l7 ?e7 ?k7 ?a8 ?l8 ?e8 ?k8 ?a9 ?l9 ?e9 ?k9 ?a10 ?l10 ?e10 ?k10 ?a11 ?l11 ?e11 ?k11 ?a12 ?l12 ?e12 ?k12 ?a13 ?l13 ?e13 ?k13 ?a14 ?l14 ?e14 ?k14 ?kd14 ?kt14 ?a15 ?l15 ?e15 ?k15 ?a16 ?l16 ?e16 ?k16 ?a17 ?l17 ?e17 ?k17 ?z_int ?z_abs ?z_list ?z_len ?z_max ?z_range ?z_min ?z_tuple ?z_sum ?z_MOST_ELEMENTS ?z_all ?z_enumerate ?z_MOST_RESULTS ?z_isinstance ?z_str ?z_bool ?z_third ?z_super ?z_top ?c1_TooManyElements ?xL_TooManyElements ?sa_TooManyElements ?nb_TooManyElements ?a1_TooManyElements ?t1_TooManyElements ?su_TooManyElements ?ve_TooManyElements ?sf_TooManyElements ?l1_TooManyElements ?e1_TooManyElements ?ce_TooManyElements ?co_TooManyElements ?v2_TooManyElements ?fi_TooManyElements ?ga_TooManyElements ?gg_TooManyElements ?hC_TooManyElements ?kC_TooManyElements ?eC_TooManyElements ?tC_TooManyElements ?c1_InvalidInstruction ?xL_InvalidInstruction ?sa_InvalidInstruction ?nb_InvalidInstruction ?a1_InvalidInstruction ?t1_InvalidInstruction ?su_InvalidInstruction ?ve_InvalidInstruction ?sf_InvalidInstruction ?l1_InvalidInstruction ?e1_InvalidInstruction ?ce_InvalidInstruction ?co_InvalidInstruction ?v2_InvalidInstruction ?fi_InvalidInstruction ?ga_InvalidInstruction ?gg_InvalidInstruction ?hC_InvalidInstruction ?kC_InvalidInstruction ?eC_InvalidInstruction ?tC_InvalidInstruction ?c1_RecipeTooLarge ?xL_RecipeTooLarge ?sa_RecipeTooLarge ?nb_RecipeTooLarge ?a1_RecipeTooLarge ?t1_RecipeTooLarge ?su_RecipeTooLarge ?ve_RecipeTooLarge ?sf_RecipeTooLarge ?l1_RecipeTooLarge ?e1_RecipeTooLarge ?ce_RecipeTooLarge ?co_RecipeTooLarge ?v2_RecipeTooLarge ?fi_RecipeTooLarge ?ga_RecipeTooLarge ?gg_RecipeTooLarge ?hC_RecipeTooLarge ?kC_RecipeTooLarge ?eC_RecipeTooLarge ?tC_RecipeTooLarge
    (case a1 => k_is); (case l1 => k_is); (case e1 => k_is); (case k1 => k_is); (case a2 => k_is); (case l2 => k_is); (case e2 => k_is); (case k2 => k_is); (case a3 => k_is); (case l3 => k_is); (case e3 => k_is); (case k3 => k_is); (case a4 => k_is); (case l4 => k_is); (case e4 => k_is); (case k4 => k_is); (case a5 => k_is); (case l5 => k_is); (case e5 => k_is); (case k5 => k_is); (case a6 => k_is); (case l6 => k_is); (case e6 => k_is); (case k6 => k_is); (case a7 => k_is); (case l7 => k_is); (case e7 => k_is); (case k7 => k_is); (case a8 => k_is); (case l8 => k_is); (case e8 => k_is); (case k8 => k_is); (case a9 => k_is); (case l9 => k_is); (case e9 => k_is); (case k9 => k_is); (case a10 => k_is); (case l10 => k_is); (case e10 => k_is); (case k10 => k_is); (case a11 => k_is); (case l11 => k_is); (case e11 => k_is); (case k11 => k_is); (case a12 => k_is); (case l12 => k_is); (case e12 => k_is); (case k12 => k_is); (case a13 => k_is); (case l13 => k_is); (case e13 => k_is); (case k13 => k_is); (case a14 => k_is); (case l14 => k_is); (case e14 => k_is); (case k14 => k_is); (case kd14 => k_is); (case kt14 => k_is); (case a15 => k_is); (case l15 => k_is); (case e15 => k_is); (case k15 => k_is); (case a16 => k_is); (case l16 => k_is); (case e16 => k_is); (case k16 => k_is); (case a17 => k_is); (case l17 => k_is); (case e17 => k_is); (case k17 => k_is); (case z_int => k_is); (case z_abs => k_is); (case z_list => k_is); (case z_len => k_is); (case z_max => k_is); (case z_range => k_is); (case z_min => k_is); (case z_tuple => k_is); (case z_sum => k_is); (case z_MOST_ELEMENTS => k_is); (case z_all => k_is); (case z_enumerate => k_is); (case z_MOST_RESULTS => k_is); (case z_isinstance => k_is); (case z_str => k_is); (case z_bool => k_is); (case z_third => k_is); (case z_super => k_is); (case z_top => first | rfl | decide +kernel); (case c1_TooManyElements => k_is); (case xL_TooManyElements => k_is); (case sa_TooManyElements => k_is); (case nb_TooManyElements => k_is); (case a1_TooManyElements => k_is); (case t1_TooManyElements => k_is); (case su_TooManyElements => ks_is); (case ve_TooManyElements => k_is); (case sf_TooManyElements => k_is); (case l1_TooManyElements => k_is); (case e1_TooManyElements => k_is); (case ce_TooManyElements => k_is); (case co_TooManyElements => k_is); (case v2_TooManyElements => rfl); (case fi_TooManyElements => first | rfl | decide +kernel); (case ga_TooManyElements => k_is); (case gg_TooManyElements => k_is); (case hC_TooManyElements => k_is); (case kC_TooManyElements => k_is); (case eC_TooManyElements => k_is); (case tC_TooManyElements => k_is); (case c1_InvalidInstruction => k_is); (case xL_InvalidInstruction => k_is); (case sa_InvalidInstruction => k_is); (case nb_InvalidInstruction => k_is); (case a1_InvalidInstruction => k_is); (case t1_InvalidInstruction => k_is); (case su_InvalidInstruction => ks_is); (case ve_InvalidInstruction => k_is); (case sf_InvalidInstruction => k_is); (case l1_InvalidInstruction => k_is); (case e1_InvalidInstruction => k_is); (case ce_InvalidInstruction => k_is); (case co_InvalidInstruction => k_is); (case v2_InvalidInstruction => rfl); (case fi_InvalidInstruction => first | rfl | decide +kernel); (case ga_InvalidInstruction => k_is); (case gg_InvalidInstruction => k_is); (case hC_InvalidInstruction => k_is); (case kC_InvalidInstruction => k_is); (case eC_InvalidInstruction => k_is); (case tC_InvalidInstruction => k_is); (case c1_RecipeTooLarge => k_is); (case xL_RecipeTooLarge => k_is); (case sa_RecipeTooLarge => k_is); (case nb_RecipeTooLarge => k_is); (case a1_RecipeTooLarge => k_is); (case t1_RecipeTooLarge => k_is); (case su_RecipeTooLarge => ks_is); (case ve_RecipeTooLarge => k_is); (case sf_RecipeTooLarge => k_is); (case l1_RecipeTooLarge => k_is); (case e1_RecipeTooLarge => k_is); (case ce_RecipeTooLarge => k_is); (case co_RecipeTooLarge => k_is); (case v2_RecipeTooLarge => rfl); (case fi_RecipeTooLarge => first | rfl | decide +kernel); (case ga_RecipeTooLarge => k_is); (case gg_RecipeTooLarge => k_is); (case hC_RecipeTooLarge => k_is); (case kC_RecipeTooLarge => k_is); (case eC_RecipeTooLarge => k_is); (case tC_RecipeTooLarge => k_is)
