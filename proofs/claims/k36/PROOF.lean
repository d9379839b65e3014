import PyProof.Rows.All
import Wide.All
import OpenK.AllK
import Wide.FinOn
import HandS.ForMost
import HandS.ForExc
import HandS.Wide
import HandS.WideBits
import HandS.TupAny
import HandS.TupMul
import HandS.IsInst
import HandS.CallSlots
import HandS.Zip
import HandS.Rev
import HandS.Style
import HandS.Dict
import KE.KeyNested
import KE.KDictKeyed
import HandS.Lambda
import HandS.EndBits
import KE.KExcSuper
import KE.KSuper
import KE.KExcIs
import HandS.ExcField
import HandS.ExcIs
import HandS.TryMany
import HandS.Conv
import KE.GoesEnum
import HandS.HotCalls
import HandS.TupLen
import HandS.Deep
import HandS.More
import HandS.SortInts
import KE.KDictWalk
import HandS.SortKw
import KE.SortKeyHeap
import PyProof.TupleOfSeq
import PyProof.ReprRoads
import PyProof.ReprText
import KE.LtData
import KE.DataCmp
import PyProof.FactsAll.tuple_2
import HandS.DictTup
import KE.KDictItemsList
import KE.KDictPairs
import HandS.EndTab
import HandS.Property
import HandS.NamedTupGet
import HandS.Defaults
import PySem.Challenge.RW_sameshape_k36_recipes_that_are_refused
set_option Elab.async false
set_option linter.all false
set_option maxRecDepth 100000
set_option maxHeartbeats 8000000
namespace ML
open PySem PySem.Spec L2
inductive A where
  | non | bl (b : Bool) | int (i : Int) | str (x : Str) | tup (xs : List A) | scr (xs : List A) | ref (i : Nat)
inductive Ob2 where
  | dct (kvs : List (PySem.NestedKey × A))
  | frd (kvs : List (PySem.NestedKey × A))
  | ins (cls : Str) (fs : List (Str × A))
  | tab (n : Str)
inductive Ob where
  | lst (xs : List A)
  | oth (u : Ob2)
structure Er where
  cls : Str
  fs : List (Str × A)
inductive R (α : Type) where
  | ok (a : α) (st : List Ob) | er (e : Er) (st : List Ob) | bad
abbrev Store := List Ob
abbrev Env := List (Option A)
def R.bind {α β : Type} (r : R α) (f : α → Store → R β) : R β := match r with
  | .ok a st => f a st
  | .er e st => .er e st
  | .bad => .bad
abbrev MX := Env → Store → R A
abbrev MT := Env → Store → R Bool
abbrev MA := Env → Store → R (List A)
def KTup (K : PySem.W.Frag) (a : Addr) (xs : List V) : Prop := ∃ (o : Obj) (its : Array Value) (n : Nat), K.lookup a = some o ∧ o.cls = .type "tuple" ∧ o.dict = none ∧ o.data = .seq its n ∧ its.size ≤ sizeLine ∧ Vals xs its.toList
def KLst (K : PySem.W.Frag) (a : Addr) (xs : List V) : Prop := ∃ (o : Obj) (its : Array Value) (n : Nat), K.lookup a = some o ∧ o.cls = .type "list" ∧ o.dict = none ∧ o.data = .seq its n ∧ its.size ≤ sizeLine ∧ Vals xs its.toList
def HPl (H : Hp) (a : Addr) (xs : List V) : Prop := ∃ o : Obj, o.dict = none ∧ H a = some (.frz o (.tup xs))
def StT (K : PySem.W.Frag) (φ : List Addr) (H : Hp) (a : Addr) (xs : List V) : Prop := (HPl H a xs ∧ a ∉ φ) ∨ KTup K a xs
abbrev NewT (H : Hp) (xs : List V) (Q : V → Hp → Prop) : Prop := ∀ (p : Addr) (o : Obj), o.dict = none → H p = none → Q (.ref p) (upd H p (.frz o (.tup xs)))
def StL (K : PySem.W.Frag) (φ : List Addr) (H : Hp) (a : Addr) (xs : List V) : Prop := ((∃ o, H a = some (.frz o (.lst xs))) ∧ a ∉ φ) ∨ KLst K a xs
mutual
inductive RV (K : PySem.W.Frag) (φ : List Addr) (H : Hp) : V → A → Prop
  | non : RV K φ H .non .non
  | bl (b : Bool) : RV K φ H (.bl b) (.bl b)
  | int (i : Int) : RV K φ H (.int i) (.int i)
  | str (x : Str) : RV K φ H (.str x) (.str x)
  | tup {a : Addr} {xs : List V} {ds : List A} : StT K φ H a xs → RVs K φ H xs ds → RV K φ H (.ref a) (.tup ds)
  | scr {a : Addr} {xs : List V} {ds : List A} : StL K φ H a xs → RVs K φ H xs ds → RV K φ H (.ref a) (.scr ds)
  | ref {a : Addr} {i : Nat} : φ[i]? = some a → RV K φ H (.ref a) (.ref i)
inductive RVs (K : PySem.W.Frag) (φ : List Addr) (H : Hp) : List V → List A → Prop
  | nil : RVs K φ H [] []
  | cons {v : V} {vs : List V} {d : A} {ds : List A} : RV K φ H v d → RVs K φ H vs ds → RVs K φ H (v :: vs) (d :: ds)
end
mutual
def aOf : PySem.NestedKey → A
  | .none => .non
  | .num i => .int i
  | .text x => .str x
  | .tup ks => .tup (aOfs ks)
def aOfs : List PySem.NestedKey → List A
  | [] => []
  | k :: ks => aOf k :: aOfs ks
end
mutual
def keyOf : A → Option PySem.NestedKey
  | .non => some .none
  | .int i => some (.num i)
  | .str x => some (.text x)
  | .tup xs => match keysOf xs with
    | some ks => some (.tup ks)
    | none => none
  | _ => none
def keysOf : List A → Option (List PySem.NestedKey)
  | [] => some []
  | x :: xs => match keyOf x, keysOf xs with
    | some k, some ks => some (k :: ks)
    | _, _ => none
end
def nk : Key → PySem.NestedKey
  | .inl i => .num i
  | .inr x => .text x
def DRaw (w : World) (a : Addr) (xs : List (PySem.NestedKey × Addr × Value)) (h : Heap) : Prop :=
  ∃ o es ep, h.get? a = some o ∧ o.ExactDict ∧ o.data = .dict es ep ∧ es.toList = xs.map (fun x => ⟨x.1.hash w, .ref x.2.1, x.2.2⟩) ∧ (xs.map (·.1)).Nodup
def RDk (K : PySem.W.Frag) (φ : List Addr) (H : Hp) (a : Addr) (kvs : List (PySem.NestedKey × A)) : Prop :=
  ∃ ks : List (Key × V), H a = some (.dK ks) ∧ kvs.map (·.1) = ks.map (fun x => nk x.1) ∧ RVs K φ H (ks.map (·.2)) (kvs.map (·.2))
def RDt (K : PySem.W.Frag) (w : World) (φ : List Addr) (H : Hp) (a : Addr) (kvs : List (PySem.NestedKey × A)) : Prop :=
  ∃ (xs : List (PySem.NestedKey × Addr × Value)) (vs : List V), kvs ≠ [] ∧ H a = some (.ext (DRaw w a xs)) ∧ (a == sysModules) = false ∧ xs.length ≤ sizeLine ∧ xs.map (·.1) = kvs.map (·.1) ∧
    (∀ x ∈ xs, RV K φ H (.ref x.2.1) (aOf x.1) ∧ x.1.depth ≤ 8) ∧ Vals vs (xs.map (·.2.2)) ∧ RVs K φ H vs (kvs.map (·.2))
def RDz (K : PySem.W.Frag) (w : World) (φ : List Addr) (H : Hp) (od : Obj) (a : Addr) (kvs : List (PySem.NestedKey × A)) : Prop :=
  ∃ (xs : List (PySem.NestedKey × Addr × Value)) (vs : List V), kvs ≠ [] ∧ H a = some (.frz od (.ext (DRaw w a xs))) ∧ (a == sysModules) = false ∧ xs.length ≤ sizeLine ∧ xs.map (·.1) = kvs.map (·.1) ∧
    (∀ x ∈ xs, RV K φ H (.ref x.2.1) (aOf x.1) ∧ x.1.depth ≤ 8) ∧ Vals vs (xs.map (·.2.2)) ∧ RVs K φ H vs (kvs.map (·.2))
def TabIs (K : PySem.W.Frag) (mg : Str → Option Value) (n : Str) (p : Addr) : Prop := ∃ (f c : Addr) (fo co : Obj) (fd : FuncData) (vs : Array Value),
  mg n = some (.ref f) ∧ K.lookup f = some fo ∧ fo.data = .func fd ∧ fd.code = .ref c ∧ K.lookup c = some co ∧ co.data = .fields vs ∧ vs[11]? = some (.ref p)
def RO2 (K : PySem.W.Frag) (w : World) (mg : Str → Option Value) (φ : List Addr) (H : Hp) (a : Addr) : Ob2 → Prop
  | .dct kvs => RDk K φ H a kvs ∨ RDt K w φ H a kvs
  | .frd kvs => (∃ (od : Obj) (ks : List (Key × V)), H a = some (.frz od (.dK ks)) ∧ kvs.map (·.1) = ks.map (fun x => nk x.1) ∧ RVs K φ H (ks.map (·.2)) (kvs.map (·.2))) ∨ ∃ od, RDz K w φ H od a kvs
  | .ins cls fs => ∃ (C dx : Addr) (vs : List V), mg cls = some (.ref C) ∧ H a = some (.ins C dx ((fs.map (·.1)).zip vs)) ∧ H dx = some (.own a) ∧ dx ∉ φ ∧ RVs K φ H vs (fs.map (·.2))
  | .tab n => TabIs K mg n a ∧ ∃ ps : Array Value, H a = some (.tbl ps) ∧ PySem.TriplesOk ps.toList ∧ ∀ (pos : Pos) (cv : Value), codeAmong pos ps.toList = some cv → ∃ c, cv = .ref c ∧ H c = some (LamX.CodeO c (n ++ ".<locals>." ++ "<lambda>")) ∧ c ∉ φ
def RO (K : PySem.W.Frag) (w : World) (mg : Str → Option Value) (φ : List Addr) (H : Hp) (a : Addr) : Ob → Prop
  | .lst ds => ∃ xs, H a = some (.lst xs) ∧ RVs K φ H xs ds
  | .oth u => RO2 K w mg φ H a u
structure RS (K : PySem.W.Frag) (w : World) (mg : Str → Option Value) (φ : List Addr) (H : Hp) (st : Store) : Prop where
  len : φ.length = st.length
  nd : φ.Nodup
  all : ∀ (i : Nat) (a : Addr) (o : Ob), φ[i]? = some a → st[i]? = some o → RO K w mg φ H a o
structure Ext (φ : List Addr) (H : Hp) (φ' : List Addr) (H' : Hp) : Prop where
  pre : ∃ t, φ' = φ ++ t
  fr : ∀ a o, a ∉ φ → H a = some o → H' a = some o ∧ a ∉ φ'
  fz : ∀ a o u, H a = some (.frz o u) → H' a = some (.frz o u)
structure RE (K : PySem.W.Frag) (φ : List Addr) (H : Hp) (σ : St) (ρ : Env) : Prop where
  len : σ.length = ρ.length
  all : ∀ (i : Nat) (d : A), ρ[i]? = some (some d) → ∃ v, σ[i]? = some (some v) ∧ RV K φ H v d
def RErr (K : PySem.W.Frag) (mg : Str → Option Value) (φ : List Addr) (H : Hp) (c : Value) (d : Option Addr) (e : Er) : Prop :=
  mg e.cls = some c ∧ ((e.fs = [] ∧ d = none) ∨ ∃ dx xs, d = some dx ∧ H dx = some (.xd xs) ∧ dx ∉ φ ∧ xs.map (·.1) = e.fs.map (·.1) ∧ RVs K φ H (xs.map (·.2)) (e.fs.map (·.2)))
section
variable {K : PySem.W.Frag} {w : World} {φ φ' φ2 : List Addr} {H H' H2 : Hp} {st : Store} {σ : St} {ρ : Env} {mg : Str → Option Value}
theorem Ext.refl : Ext φ H φ H := ⟨⟨[], by simp⟩, fun a o n h => ⟨h, n⟩, fun _ _ _ h => h⟩
theorem Ext.trans (a : Ext φ H φ' H') (b : Ext φ' H' φ2 H2) : Ext φ H φ2 H2 := by
  obtain ⟨⟨t, rfl⟩, f1, z1⟩ := a
  obtain ⟨⟨u, rfl⟩, f2, z2⟩ := b
  refine ⟨⟨t ++ u, by simp⟩, fun a o n h => ?_, fun a o u h => z2 _ _ _ (z1 _ _ _ h)⟩
  obtain ⟨h1, n1⟩ := f1 a o n h
  exact f2 a o n1 h1
theorem Ext.get (e : Ext φ H φ' H') {i : Nat} {a : Addr} (h : φ[i]? = some a) : φ'[i]? = some a := by
  obtain ⟨t, rfl⟩ := e.pre
  rw [List.getElem?_append_left (List.getElem?_eq_some_iff.mp h).1]
  exact h
theorem StT.sq {a : Addr} {xs : List V} (h : StT K φ H a xs) : SqT K H a xs := h.elim (fun ⟨⟨o, _, x⟩, _⟩ => .inl (.inr ⟨o, x⟩)) fun ⟨o, its, n, h1, h2, _, h3, h4, h5⟩ => .inr ⟨o, its, n, h1, h2, h3, h4, h5⟩
theorem StL.sq {a : Addr} {xs : List V} (h : StL K φ H a xs) : SqL K H a xs := h.elim (fun ⟨⟨o, x⟩, _⟩ => .inl (.inr ⟨o, x⟩)) .inr
theorem StT.ext {a : Addr} {xs : List V} (h : StT K φ H a xs) (e : Ext φ H φ' H') : StT K φ' H' a xs := by
  rcases h with ⟨⟨o, hd, h⟩, n⟩ | h
  · obtain ⟨x, m⟩ := e.fr _ _ n h
    exact .inl ⟨⟨o, hd, x⟩, m⟩
  · exact .inr h
theorem StL.ext {a : Addr} {xs : List V} (h : StL K φ H a xs) (e : Ext φ H φ' H') : StL K φ' H' a xs := by
  rcases h with ⟨⟨o, h⟩, n⟩ | h
  · obtain ⟨x, m⟩ := e.fr _ _ n h
    exact .inl ⟨⟨o, x⟩, m⟩
  · exact .inr h
mutual
theorem RV.ext (e : Ext φ H φ' H') : ∀ {v : V} {d : A}, RV K φ H v d → RV K φ' H' v d
  | _, _, .non => .non
  | _, _, .bl b => .bl b
  | _, _, .int i => .int i
  | _, _, .str x => .str x
  | _, _, .tup h q => .tup (h.ext e) (RVs.ext e q)
  | _, _, .scr h q => .scr (h.ext e) (RVs.ext e q)
  | _, _, .ref h => .ref (e.get h)
theorem RVs.ext (e : Ext φ H φ' H') : ∀ {vs : List V} {ds : List A}, RVs K φ H vs ds → RVs K φ' H' vs ds
  | _, _, .nil => .nil
  | _, _, .cons h q => .cons (RV.ext e h) (RVs.ext e q)
end
theorem RVs.length : ∀ {vs : List V} {ds : List A}, RVs K φ H vs ds → vs.length = ds.length
  | _, _, .nil => rfl
  | _, _, .cons _ q => by rw [List.length_cons, List.length_cons, q.length]
theorem RVs.get : ∀ {vs : List V} {ds : List A} {i : Nat} {d : A}, RVs K φ H vs ds → ds[i]? = some d → ∃ v, vs[i]? = some v ∧ RV K φ H v d
  | _, _, _, _, .nil, h => by simp at h
  | _, _, 0, _, .cons q _, h => by simp at h; subst h; exact ⟨_, rfl, q⟩
  | _, _, i + 1, d, .cons _ q, h => by
    obtain ⟨v, h1, h2⟩ := RVs.get (i := i) (d := d) q (by simpa using h)
    exact ⟨v, by simpa using h1, h2⟩
theorem RVs.app : ∀ {vs ws : List V} {ds es : List A}, RVs K φ H vs ds → RVs K φ H ws es → RVs K φ H (vs ++ ws) (ds ++ es)
  | _, _, _, _, .nil, q => q
  | _, _, _, _, .cons h r, q => .cons h (r.app q)
theorem RVs.take : ∀ {vs : List V} {ds : List A} (n : Nat), RVs K φ H vs ds → RVs K φ H (vs.take n) (ds.take n)
  | _, _, 0, _ => .nil
  | _, _, _ + 1, .nil => .nil
  | _, _, n + 1, .cons h q => .cons h (q.take n)
theorem RVs.drop : ∀ {vs : List V} {ds : List A} (n : Nat), RVs K φ H vs ds → RVs K φ H (vs.drop n) (ds.drop n)
  | _, _, 0, q => q
  | _, _, _ + 1, .nil => .nil
  | _, _, n + 1, .cons _ q => q.drop n
theorem RVs.set {v : V} {d : A} (h : RV K φ H v d) : ∀ {vs : List V} {ds : List A} (i : Nat), RVs K φ H vs ds → RVs K φ H (vs.set i v) (ds.set i d)
  | _, _, _, .nil => .nil
  | _, _, 0, .cons _ q => .cons h q
  | _, _, i + 1, .cons r q => .cons r (q.set h i)
theorem RVs.flat {vs : List V} {ds : List A} (q : RVs K φ H vs ds) : ∀ n : Nat, RVs K φ H (List.replicate n vs).flatten (List.replicate n ds).flatten
  | 0 => .nil
  | n + 1 => by
    rw [List.replicate_succ, List.replicate_succ, List.flatten_cons, List.flatten_cons]
    exact q.app (q.flat n)
theorem RVs.dropLast : ∀ {vs : List V} {ds : List A}, RVs K φ H vs ds → RVs K φ H vs.dropLast ds.dropLast
  | _, _, .nil => .nil
  | _, _, .cons _ .nil => .nil
  | _, _, .cons r (.cons r2 q) => .cons r (RVs.dropLast (.cons r2 q))
theorem RVs.ints : ∀ {vs : List V} {ns : List Int}, RVs K φ H vs (ns.map A.int) → vs = ns.map V.int
  | [], [], _ => rfl
  | [], _ :: _, h => by cases h
  | _ :: _, [], h => by cases h
  | v :: vs, n :: ns, h => by
    cases h with
    | cons h q =>
      cases h
      rw [RVs.ints q, List.map_cons]
theorem RVs.mkInts : ∀ (ns : List Int), RVs K φ H (ns.map V.int) (ns.map A.int)
  | [] => .nil
  | n :: ns => .cons (.int n) (RVs.mkInts ns)
theorem RE.ext (r : RE K φ H σ ρ) (e : Ext φ H φ' H') : RE K φ' H' σ ρ := ⟨r.len, fun i d h => by
  obtain ⟨v, h1, h2⟩ := r.all i d h
  exact ⟨v, h1, h2.ext e⟩⟩
theorem RE.set (r : RE K φ H σ ρ) {v : V} {d : A} (h : RV K φ H v d) (i : Nat) : RE K φ H (σ.set i (some v)) (ρ.set i (some d)) := ⟨by rw [List.length_set, List.length_set, r.len], fun j x hj => by
  by_cases e : i = j
  · subst e
    have hl : i < ρ.length := by
      have := (List.getElem?_eq_some_iff.mp hj).1
      rwa [List.length_set] at this
    rw [List.getElem?_set_self hl] at hj
    cases hj
    refine ⟨v, ?_, h⟩
    rw [List.getElem?_set_self (by rw [r.len]; exact hl)]
  · rw [List.getElem?_set_ne e] at hj
    obtain ⟨w, h1, h2⟩ := r.all j x hj
    exact ⟨w, by rw [List.getElem?_set_ne e]; exact h1, h2⟩⟩
theorem RE.setNone (r : RE K φ H σ ρ) (i : Nat) : RE K φ H (σ.set i none) (ρ.set i none) := ⟨by rw [List.length_set, List.length_set, r.len], fun j x hj => by
  by_cases e : i = j
  · subst e
    have hl : i < ρ.length := by
      have := (List.getElem?_eq_some_iff.mp hj).1
      rwa [List.length_set] at this
    rw [List.getElem?_set_self hl] at hj
    cases hj
  · rw [List.getElem?_set_ne e] at hj
    obtain ⟨w, h1, h2⟩ := r.all j x hj
    exact ⟨w, by rw [List.getElem?_set_ne e]; exact h1, h2⟩⟩
def wipeA (ρ : Env) : List Nat → Env
  | [] => ρ
  | v :: vs => (wipeA ρ vs).set v none
theorem RE.wipe (r : RE K φ H σ ρ) : ∀ vs : List Nat, RE K φ H (wipe σ vs) (wipeA ρ vs)
  | [] => r
  | v :: vs => (RE.wipe r vs).setNone v
theorem RO2.isO {a : Addr} : ∀ {u : Ob2}, RO2 K w mg φ H a u → ∃ o, H a = some o ∧ ∀ xs, o ≠ .lst xs
  | .dct _, .inl ⟨_, h, _⟩ => ⟨_, h, fun _ z => by cases z⟩
  | .dct _, .inr ⟨_, _, _, h, _⟩ => ⟨_, h, fun _ z => by cases z⟩
  | .frd _, .inl ⟨_, _, h, _⟩ => ⟨_, h, fun _ z => by cases z⟩
  | .frd _, .inr ⟨_, _, _, _, h, _⟩ => ⟨_, h, fun _ z => by cases z⟩
  | .ins _ _, ⟨_, _, _, _, h, _⟩ => ⟨_, h, fun _ z => by cases z⟩
  | .tab _, ⟨_, _, h, _⟩ => ⟨_, h, fun _ z => by cases z⟩
theorem RO2.ext {a : Addr} (e : Ext φ H φ' H') (k : H' a = H a) : ∀ {u : Ob2}, RO2 K w mg φ H a u → RO2 K w mg φ' H' a u
  | .dct _, .inl ⟨ks, h1, h2, h3⟩ => .inl ⟨ks, by rw [k]; exact h1, h2, h3.ext e⟩
  | .dct _, .inr ⟨xs, vs, h0, h1, h2, h3, h4, h5, h6, h7⟩ => .inr ⟨xs, vs, h0, by rw [k]; exact h1, h2, h3, h4, fun x hx => ⟨(h5 x hx).1.ext e, (h5 x hx).2⟩, h6, h7.ext e⟩
  | .frd _, .inl ⟨od, ks, h1, h2, h3⟩ => .inl ⟨od, ks, by rw [k]; exact h1, h2, h3.ext e⟩
  | .frd _, .inr ⟨od, xs, vs, h0, h1, h2, h3, h4, h5, h6, h7⟩ => .inr ⟨od, xs, vs, h0, by rw [k]; exact h1, h2, h3, h4, fun x hx => ⟨(h5 x hx).1.ext e, (h5 x hx).2⟩, h6, h7.ext e⟩
  | .ins _ _, ⟨C, dx, vs, h0, h1, h2, h3, h4⟩ => by
    obtain ⟨y1, y2⟩ := e.fr _ _ h3 h2
    exact ⟨C, dx, vs, h0, by rw [k]; exact h1, y1, y2, h4.ext e⟩
  | .tab _, ⟨h0, ps, h1, h2, h3⟩ => ⟨h0, ps, by rw [k]; exact h1, h2, fun pos cv hc => by
    obtain ⟨c, z1, z2, z3⟩ := h3 pos cv hc
    obtain ⟨y1, y2⟩ := e.fr _ _ z3 z2
    exact ⟨c, z1, y1, y2⟩⟩
theorem RO2.map {a : Addr} (up : ∀ v d, RV K φ H v d → RV K φ' H' v d) (ups : ∀ vs ds, RVs K φ H vs ds → RVs K φ' H' vs ds) (k : H' a = H a) (ko : ∀ dx o, dx ∉ φ → H dx = some o → (∀ xs, o ≠ .lst xs) → H' dx = some o ∧ dx ∉ φ') :
    ∀ {u : Ob2}, RO2 K w mg φ H a u → RO2 K w mg φ' H' a u
  | .dct _, .inl ⟨ks, h1, h2, h3⟩ => .inl ⟨ks, by rw [k]; exact h1, h2, ups _ _ h3⟩
  | .dct _, .inr ⟨xs, vs, h0, h1, h2, h3, h4, h5, h6, h7⟩ => .inr ⟨xs, vs, h0, by rw [k]; exact h1, h2, h3, h4, fun x hx => ⟨up _ _ (h5 x hx).1, (h5 x hx).2⟩, h6, ups _ _ h7⟩
  | .frd _, .inl ⟨od, ks, h1, h2, h3⟩ => .inl ⟨od, ks, by rw [k]; exact h1, h2, ups _ _ h3⟩
  | .frd _, .inr ⟨od, xs, vs, h0, h1, h2, h3, h4, h5, h6, h7⟩ => .inr ⟨od, xs, vs, h0, by rw [k]; exact h1, h2, h3, h4, fun x hx => ⟨up _ _ (h5 x hx).1, (h5 x hx).2⟩, h6, ups _ _ h7⟩
  | .ins _ _, ⟨C, dx, vs, h0, h1, h2, h3, h4⟩ => by
    obtain ⟨y1, y2⟩ := ko _ _ h3 h2 (fun _ z => by cases z)
    exact ⟨C, dx, vs, h0, by rw [k]; exact h1, y1, y2, ups _ _ h4⟩
  | .tab _, ⟨h0, ps, h1, h2, h3⟩ => ⟨h0, ps, by rw [k]; exact h1, h2, fun pos cv hc => by
    obtain ⟨c, z1, z2, z3⟩ := h3 pos cv hc
    obtain ⟨y1, y2⟩ := ko _ _ z3 z2 (fun _ z => by unfold LamX.CodeO at z; cases z)
    exact ⟨c, z1, y1, y2⟩⟩
theorem RS.notin (r : RS K w mg φ H st) {p : Addr} (h : H p = none) : p ∉ φ := fun z => by
  obtain ⟨i, hi, e⟩ := List.getElem_of_mem z
  have h1 : φ[i]? = some p := by rw [List.getElem?_eq_getElem hi, e]
  have h2 : i < st.length := by rw [← r.len]; exact hi
  have h3 := r.all i p st[i] h1 (List.getElem?_eq_getElem h2)
  cases ho : st[i] with
  | lst ds =>
    rw [ho] at h3
    obtain ⟨xs, q, _⟩ := h3
    rw [h] at q
    cases q
  | oth u =>
    rw [ho] at h3
    obtain ⟨o, q, _⟩ := RO2.isO h3
    rw [h] at q
    cases q
theorem ext_new {p : Addr} {o : HO} (h : H p = none) : Ext φ H φ (upd H p o) := ⟨⟨[], by simp⟩, fun a o n q => ⟨by rw [upd_ne (ne_of_none q h)]; exact q, n⟩, fun a o u q => by rw [upd_ne (ne_of_none q h)]; exact q⟩
theorem RS.ext (r : RS K w mg φ H st) (e : Ext φ H φ H') (k : ∀ a ∈ φ, H' a = H a) : RS K w mg φ H' st := ⟨r.len, r.nd, fun i a o h1 h2 => by
  have h3 := r.all i a o h1 h2
  cases o with
  | lst ds =>
    obtain ⟨xs, q, q2⟩ := h3
    exact ⟨xs, by rw [k a (List.mem_of_getElem? h1)]; exact q, q2.ext e⟩
  | oth u => exact RO2.ext e (k a (List.mem_of_getElem? h1)) h3⟩
theorem RS.new (r : RS K w mg φ H st) {p : Addr} {o : HO} (h : H p = none) : RS K w mg φ (upd H p o) st := r.ext (ext_new h) fun a ha => upd_ne fun z => r.notin h (z ▸ ha)
theorem RV.newTup (r : RS K w mg φ H st) {p : Addr} {ob : Obj} {xs : List V} {ds : List A} (hd : ob.dict = none) (h : H p = none) (q : RVs K φ H xs ds) : RV K φ (upd H p (.frz ob (.tup xs))) (.ref p) (.tup ds) :=
  .tup (.inl ⟨⟨ob, hd, upd_same⟩, r.notin h⟩) (q.ext (ext_new h))
theorem new_tup {X : Cx} {pins : List (Addr × Obj)} {σ : L2.St} {H : Hp} {s : Shared} {its : List Value} {xs : List V} {Q : V → Hp → Prop} (I : Inv X pins σ H s) (r : Vals xs its) (hz : xs.length ≤ sizeLine) (q : NewT H xs Q) :
    EP X pins σ Q (.ref s.heap.objs.size) { s with heap := s.heap.push { cls := .type "tuple", data := .seq its.toArray } } :=
  ⟨.ref s.heap.objs.size, _, I.laid (t' := s.toks) (o := .frz { cls := .type "tuple", data := .seq its.toArray } (.tup xs)) (fun b ob q => Heap.get?_push_of_some _ q) (Nat.le_refl _) ⟨Heap.get?_push_size _ rfl, hz, its, r, PyProof.Rows.IsTup.new _ _⟩, rfl, q _ _ rfl (I.hok.fresh (Nat.le_refl _))⟩
def tTupP (t : TA) : TE := fun σ H Q => t σ H fun xs H1 => xs.length ≤ sizeLine ∧ NewT H1 xs Q
theorem pe_tupP {X : Cx} {es : List Expr} {t : TA} {x1 : Nat} {pos : Pos} (h : PA X es t) : PE X (.Tuple es x1 pos) (tTupP t) :=
  ⟨fun pins s σ H Q I hq => wpAny_Tuple_spliced (thn (h.run pos pins s σ H _ I hq) fun us s1 ⟨xs, H1, I1, r, z, q⟩ => ⟨by rw [← r.length]; exact z, new_tup I1 r z q⟩)⟩
theorem ext_alloc {p : Addr} {o : HO} (r : RS K w mg φ H st) (h : H p = none) : Ext φ H (φ ++ [p]) (upd H p o) := ⟨⟨[p], rfl⟩, fun a u n q => by
  have ne : a ≠ p := ne_of_none q h
  refine ⟨by rw [upd_ne ne]; exact q, fun z => ?_⟩
  rcases List.mem_append.mp z with z | z
  · exact n z
  · exact ne (by simpa using z), fun a o u q => by rw [upd_ne (ne_of_none q h)]; exact q⟩
theorem RS.alloc (r : RS K w mg φ H st) {p : Addr} {xs : List V} {ds : List A} (h : H p = none) (q : RVs K φ H xs ds) : RS K w mg (φ ++ [p]) (upd H p (.lst xs)) (st ++ [.lst ds]) := by
  have e := ext_alloc (o := .lst xs) r h
  refine ⟨by simp [r.len], ?_, fun i a o h1 h2 => ?_⟩
  · rw [List.nodup_append]
    refine ⟨r.nd, by simp, fun a ha b hb z => ?_⟩
    have : b = p := by simpa using hb
    subst this
    subst z
    exact r.notin h ha
  · by_cases hi : i < φ.length
    · rw [List.getElem?_append_left hi] at h1
      rw [List.getElem?_append_left (by rw [← r.len]; exact hi)] at h2
      have h3 := r.all i a o h1 h2
      have na : a ≠ p := fun z => r.notin h (z ▸ List.mem_of_getElem? h1)
      cases o with
      | lst ds' =>
        obtain ⟨ys, y1, y2⟩ := h3
        exact ⟨ys, by rw [upd_ne na]; exact y1, y2.ext e⟩
      | oth u => exact RO2.ext e (upd_ne na) h3
    · have hi2 : i = φ.length := by
        have := (List.getElem?_eq_some_iff.mp h1).1
        rw [List.length_append, List.length_singleton] at this
        omega
      subst hi2
      rw [List.getElem?_append_right (Nat.le_refl _)] at h1
      rw [List.getElem?_append_right (by rw [r.len]; exact Nat.le_refl _)] at h2
      simp at h1
      rw [r.len] at h2
      simp at h2
      subst h1
      subst h2
      exact ⟨xs, upd_same, q.ext e⟩
theorem RV.newLst (r : RS K w mg φ H st) {p : Addr} {H' : Hp} : RV K (φ ++ [p]) H' (.ref p) (.ref st.length) := .ref (by
  rw [List.getElem?_append_right (by rw [r.len]; exact Nat.le_refl _), r.len]
  simp)
theorem RS.write (r : RS K w mg φ H st) {i : Nat} {p : Addr} {zs : List A} {ys : List V} {ds : List A} (hp : φ[i]? = some p) (ho : st[i]? = some (.lst zs)) (q : RVs K φ H ys ds) : Ext φ H φ (upd H p (.lst ys)) ∧ RS K w mg φ (upd H p (.lst ys)) (st.set i (.lst ds)) := by
  have hm : p ∈ φ := List.mem_of_getElem? hp
  have e : Ext φ H φ (upd H p (.lst ys)) := ⟨⟨[], by simp⟩, fun a u n q => ⟨by rw [upd_ne (show a ≠ p from fun z => n (by rw [z]; exact hm))]; exact q, n⟩, fun a o u q => by
    obtain ⟨_, hl, _⟩ := r.all i p _ hp ho
    rw [upd_ne (show a ≠ p from fun z => by rw [z, hl] at q; cases q)]
    exact q⟩
  refine ⟨e, by rw [List.length_set]; exact r.len, r.nd, fun j a u h1 h2 => ?_⟩
  by_cases hj : i = j
  · subst hj
    rw [hp] at h1
    cases h1
    rw [List.getElem?_set_self (List.getElem?_eq_some_iff.mp ho).1] at h2
    cases h2
    exact ⟨ys, upd_same, q.ext e⟩
  · rw [List.getElem?_set_ne hj] at h2
    have h3 := r.all j a u h1 h2
    have na : a ≠ p := fun z => by
      subst z
      obtain ⟨l1, e1⟩ := List.getElem?_eq_some_iff.mp hp
      obtain ⟨l2, e2⟩ := List.getElem?_eq_some_iff.mp h1
      exact hj ((List.getElem_inj r.nd).mp (e1.trans e2.symm))
    cases u with
    | lst ds' =>
      obtain ⟨zs, y1, y2⟩ := h3
      exact ⟨zs, by rw [upd_ne na]; exact y1, y2.ext e⟩
    | oth u => exact RO2.ext e (upd_ne na) h3
theorem RS.lst (r : RS K w mg φ H st) {i : Nat} {p : Addr} {ds : List A} (hp : φ[i]? = some p) (ho : st[i]? = some (.lst ds)) : ∃ xs, H p = some (.lst xs) ∧ RVs K φ H xs ds := r.all i p _ hp ho
theorem RErr.ext {c : Value} {d : Option Addr} {x : Er} (r : RErr K mg φ H c d x) (e : Ext φ H φ' H') : RErr K mg φ' H' c d x := by
  obtain ⟨h1, h2 | ⟨dx, xs, q1, q2, q3, q4, q5⟩⟩ := r
  · exact ⟨h1, .inl h2⟩
  · obtain ⟨y1, y2⟩ := e.fr _ _ q3 q2
    exact ⟨h1, .inr ⟨dx, xs, q1, y1, y2, q4, q5.ext e⟩⟩
end
abbrev WH := Value → Option Addr → Hp → Prop
def Pst {α β : Type} (K : PySem.W.Frag) (w : World) (mg : Str → Option Value) (Rl : List Addr → Hp → β → α → Prop) (W : WH) (φ : List Addr) (H : Hp) (r : R α) (Q : β → Hp → Prop) : Prop := match r with
  | .ok a st => ∀ φ' v H', Ext φ H φ' H' → RS K w mg φ' H' st → Rl φ' H' v a → Q v H'
  | .er e st => ∀ φ' c d H', Ext φ H φ' H' → RS K w mg φ' H' st → RErr K mg φ' H' c d e → W c d H'
  | .bad => False
abbrev rlB : List Addr → Hp → Bool → Bool → Prop := fun _ _ x y => x = y
def tG {α β : Type} (K : PySem.W.Frag) (w : World) (mg : Str → Option Value) (Rl : List Addr → Hp → β → α → Prop) (W : WX) (m : Env → Store → R α) : St → Hp → (β → Hp → Prop) → Prop := fun σ H Q =>
  ∃ φ ρ st, RS K w mg φ H st ∧ RE K φ H σ ρ ∧ Pst K w mg Rl (fun c d H' => W c d σ H') φ H (m ρ st) Q
abbrev tE (X : Cx) (W : WX) (m : MX) : TE := tG X.K X.w X.mg (RV X.K) W m
abbrev tT (X : Cx) (W : WX) (m : MT) : TT := tG X.K X.w X.mg rlB W m
abbrev tA (X : Cx) (W : WX) (m : MA) : TA := tG X.K X.w X.mg (RVs X.K) W m
section
variable {K : PySem.W.Frag} {w : World} {φ φ' : List Addr} {H H' : Hp} {st : Store} {mg : Str → Option Value} {α β γ δ : Type} {W : WH}
variable {Rl : List Addr → Hp → β → α → Prop} {Rl2 : List Addr → Hp → δ → γ → Prop}
theorem Pst.mono {r : R α} {Q : β → Hp → Prop} (h : Pst K w mg Rl W φ H r Q) (e : Ext φ H φ' H') : Pst K w mg Rl W φ' H' r Q := by
  cases r with
  | ok a st => exact fun φ2 v H2 e2 s q => h φ2 v H2 (e.trans e2) s q
  | er x st => exact fun φ2 c d H2 e2 s q => h φ2 c d H2 (e.trans e2) s q
  | bad => exact h
theorem Pst.seq {r : R α} {f : α → Store → R γ} {Q1 : β → Hp → Prop} {Q : δ → Hp → Prop} (h : Pst K w mg Rl2 W φ H (r.bind f) Q)
    (k : ∀ φ1 a x H1 st1, Ext φ H φ1 H1 → RS K w mg φ1 H1 st1 → Rl φ1 H1 x a → Pst K w mg Rl2 W φ1 H1 (f a st1) Q → Q1 x H1) : Pst K w mg Rl W φ H r Q1 := by
  cases r with
  | ok a st => exact fun φ1 v H1 e s q => k φ1 a v H1 st e s q (Pst.mono h e)
  | er x st => exact h
  | bad => exact h
theorem Pst.imp {r : R α} {Q Q' : β → Hp → Prop} (h : Pst K w mg Rl W φ H r Q) (k : ∀ v H', Q v H' → Q' v H') : Pst K w mg Rl W φ H r Q' := by
  cases r with
  | ok a st => exact fun φ2 v H2 e2 s q => k _ _ (h φ2 v H2 e2 s q)
  | er x st => exact h
  | bad => exact h
theorem Pst.ok {a : α} {v : β} {Q : β → Hp → Prop} (h : Pst K w mg Rl W φ H (.ok a st) Q) (s : RS K w mg φ H st) (q : Rl φ H v a) : Q v H := h φ v H Ext.refl s q
end
section
variable {X : Cx} {e : Expr} {es : List Expr} {t t' : TE}
theorem _root_.L2.PE.imp (h : PE X e t) (k : ∀ σ H Q, t' σ H Q → t σ H Q) : PE X e t' := ⟨fun pins s σ H Q I q => h.run pins s σ H Q I (k _ _ _ q)⟩
theorem _root_.L2.PT.imp {t t' : TT} (h : PT X e t) (k : ∀ σ H Q, t' σ H Q → t σ H Q) : PT X e t' := ⟨fun pins s σ H Q I q => h.run pins s σ H Q I (k _ _ _ q)⟩
theorem PWimp {t t' : TT} (h : L2.PW X e t) (k : ∀ σ H Q, t' σ H Q → t σ H Q) : L2.PW X e t' := ⟨fun w pins s σ H Q I q => h.run w pins s σ H Q I (k _ _ _ q)⟩
theorem _root_.L2.PA.imp {t t' : TA} (h : PA X es t) (k : ∀ σ H Q, t' σ H Q → t σ H Q) : PA X es t' := ⟨fun pos pins s σ H Q I q => h.run pos pins s σ H Q I (k _ _ _ q)⟩
theorem OpR.or {f : Value → Value → Sem Value} {r r' : R2} (h : OpR X f r) (h' : OpR X f r') : OpR X f (fun x y H Q => r x y H Q ∨ r' x y H Q) := fun pins s σ H x y v u Q I a b q =>
  q.elim (h pins s σ H x y v u Q I a b) (h' pins s σ H x y v u Q I a b)
theorem CallR.or {f : Value} {r r' : List V → Hp → VK → Prop} (h : CallR X f r) (h' : CallR X f r') : CallR X f (fun xs H Q => r xs H Q ∨ r' xs H Q) := fun pins s σ H xs us Q I a q =>
  q.elim (h pins s σ H xs us Q I a) (h' pins s σ H xs us Q I a)
end
end ML
namespace ML
open PySem PySem.Spec L2
mutual
def dataW (f : Nat → Option PyData) : A → Option PyData
  | .non => some .none
  | .bl b => some (.bool b)
  | .int i => some (.int i)
  | .str x => some (.str x)
  | .tup xs => (dataWs f xs).map .tuple
  | .scr xs => (dataWs f xs).map .list
  | .ref i => f i
def dataWs (f : Nat → Option PyData) : List A → Option (List PyData)
  | [] => some []
  | x :: xs => match dataW f x, dataWs f xs with
    | some d, some ds => some (d :: ds)
    | _, _ => none
end
def derefN : Nat → Store → Nat → Option PyData
  | 0, _, _ => none
  | n + 1, st, i => match st[i]? with
    | some (.lst xs) => (dataWs (derefN n st) xs).map .list
    | _ => none
def dataOf (st : Store) (a : A) : Option PyData := dataW (derefN 4 st) a
section
variable {K : PySem.W.Frag} {w : World} {mg : Str → Option Value} {φ φ' : List Addr} {H H' : Hp} {st : Store}
mutual
theorem dataW_ok {f : Nat → Option PyData} (hf : ∀ i d p, f i = some d → φ[i]? = some p → Dp K H (.ref p) d) : ∀ {v : V} {a : A} {d : PyData}, RV K φ H v a → dataW f a = some d → Dp K H v d
  | _, _, _, .non, h => by simp only [dataW] at h; cases h; exact .non
  | _, _, _, .bl b, h => by simp only [dataW] at h; cases h; exact .bl b
  | _, _, _, .int i, h => by simp only [dataW] at h; cases h; exact .int i
  | _, _, _, .str x, h => by simp only [dataW] at h; cases h; exact .str x
  | _, _, _, .tup (ds := ds) q r, h => by
    simp only [dataW] at h
    cases e : dataWs f ds with
    | none => rw [e] at h; cases h
    | some es =>
      rw [e] at h
      cases h
      exact .tup q.sq (dataWs_ok hf r e)
  | _, _, _, .scr (ds := ds) q r, h => by
    simp only [dataW] at h
    cases e : dataWs f ds with
    | none => rw [e] at h; cases h
    | some es =>
      rw [e] at h
      cases h
      exact .lst q.sq (dataWs_ok hf r e)
  | _, _, _, .ref q, h => by
    simp only [dataW] at h
    exact hf _ _ _ h q
theorem dataWs_ok {f : Nat → Option PyData} (hf : ∀ i d p, f i = some d → φ[i]? = some p → Dp K H (.ref p) d) : ∀ {vs : List V} {as : List A} {ds : List PyData}, RVs K φ H vs as → dataWs f as = some ds → DpAll K H vs ds
  | _, _, _, .nil, h => by simp only [dataWs] at h; cases h; exact .nil
  | _, _, _, .cons (d := x) (ds := xs) q r, h => by
    simp only [dataWs] at h
    cases e1 : dataW f x with
    | none => rw [e1] at h; cases h
    | some d =>
      cases e2 : dataWs f xs with
      | none => rw [e1, e2] at h; cases h
      | some ds =>
        rw [e1, e2] at h
        cases h
        exact .cons (dataW_ok hf q e1) (dataWs_ok hf r e2)
end
theorem derefN_ok (rs : RS K w mg φ H st) : ∀ (n i : Nat) (d : PyData) (p : Addr), derefN n st i = some d → φ[i]? = some p → Dp K H (.ref p) d
  | 0, _, _, _, h, _ => by cases h
  | n + 1, i, d, p, h, hp => by
    unfold derefN at h
    cases e : st[i]? with
    | none => rw [e] at h; cases h
    | some o =>
      cases o with
      | oth u => rw [e] at h; cases h
      | lst xs =>
        rw [e] at h
        obtain ⟨ys, h1, h2⟩ := rs.lst hp e
        cases e2 : dataWs (derefN n st) xs with
        | none => simp only [e2] at h; cases h
        | some ds =>
          simp only [e2] at h
          cases h
          exact .lst (.inl (.inl h1)) (dataWs_ok (derefN_ok rs n) h2 e2)
theorem dataOf_ok (rs : RS K w mg φ H st) {v : V} {a : A} {d : PyData} (r : RV K φ H v a) (h : dataOf st a = some d) : Dp K H v d := dataW_ok (derefN_ok rs 4) r h
end
def addA : A → A → Store → R A
  | .int i, .int j, st => .ok (.int (i + j)) st
  | .str x, .str y, st => if x.length + y.length ≤ sizeLine then .ok (.str (x ++ y)) st else .bad
  | .tup xs, .tup ys, st => if xs.length + ys.length ≤ sizeLine then .ok (.tup (xs ++ ys)) st else .bad
  | .ref i, .ref j, st => match st[i]?, st[j]? with
    | some (.lst xs), some (.lst ys) => if xs.length + ys.length ≤ sizeLine then .ok (.ref st.length) (st ++ [.lst (xs ++ ys)]) else .bad
    | _, _ => .bad
  | _, _, _ => .bad
def subA : A → A → Store → R A
  | .int i, .int j, st => .ok (.int (i - j)) st
  | _, _, _ => .bad
abbrev CMulA (i j : Int) : Prop := ((-(2 ^ 64) < i ∧ i < 2 ^ 64) ∨ (-(2 ^ 64) < j ∧ j < 2 ^ 64)) ∨ (Builtin.Int.intBits i : Int) + (Builtin.Int.intBits j : Int) ≤ 134217728
def mulA : A → A → Store → R A
  | .int i, .int j, st => if CMulA i j then .ok (.int (i * j)) st else .bad
  | .ref i, .int k, st => match st[i]? with
    | some (.lst xs) => if -(2 ^ 63) ≤ k ∧ k < 2 ^ 63 ∧ xs.length * k.toNat ≤ sizeLine then .ok (.ref st.length) (st ++ [.lst (List.replicate k.toNat xs).flatten]) else .bad
    | _ => .bad
  | .tup xs, .int k, st => if 0 ≤ k ∧ k ≤ 1000000 ∧ xs.length * k.toNat ≤ sizeLine then .ok (.tup (List.replicate k.toNat xs).flatten) st else .bad
  | _, _, _ => .bad
def fdivA : A → A → Store → R A
  | .int i, .int j, st => if 0 < j ∧ j.natAbs.log2 < 9000 then .ok (.int (i / j)) st else .bad
  | _, _, _ => .bad
def modA : A → A → Store → R A
  | .int i, .int j, st => if 0 < j then .ok (.int (i % j)) st else .bad
  | _, _, _ => .bad
def powA : A → A → Store → R A
  | .int i, .int j, st => if 0 ≤ j ∧ j ≤ 1000000 ∧ i.natAbs < 2 ^ 64 then .ok (.int (i ^ j.toNat)) st else .bad
  | _, _, _ => .bad
def negA : A → Store → R A
  | .int i, st => .ok (.int (-i)) st
  | _, _ => .bad
def ltA : A → A → Store → R A
  | .int i, .int j, st => .ok (.bl (decide (i < j))) st
  | .str x, .str y, st => .ok (.bl (decide (x.cps.toList < y.cps.toList))) st
  | _, _, _ => .bad
def gtA : A → A → Store → R A
  | .int i, .int j, st => .ok (.bl (decide (j < i))) st
  | .str x, .str y, st => .ok (.bl (decide (y.cps.toList < x.cps.toList))) st
  | _, _, _ => .bad
def leA : A → A → Store → R A
  | .int i, .int j, st => .ok (.bl (decide (i ≤ j))) st
  | _, _, _ => .bad
def geA : A → A → Store → R A
  | .int i, .int j, st => .ok (.bl (decide (j ≤ i))) st
  | _, _, _ => .bad
def eqS : A → A → Option Bool
  | .int i, .int j => some (decide (i = j))
  | .str x, .str y => some (decide (x = y))
  | .bl a, .bl b => some (decide (a = b))
  | .non, .non => some true
  | .int _, .str _ => some false
  | .str _, .int _ => some false
  | .non, .int _ => some false
  | .int _, .non => some false
  | .non, .str _ => some false
  | .str _, .non => some false
  | _, _ => none
theorem eqS_ok {K : PySem.W.Frag} {φ : List Addr} {H : Hp} {x y : V} {a b : A} {k : Bool} (ra : RV K φ H x a) (rb : RV K φ H y b) (h : eqS a b = some k) : scal x y = true ∧ decide (x = y) = k := by
  cases ra <;> cases rb <;> first | (cases h; exact ⟨rfl, by simp⟩) | cases h
def eqB (x y : A) (st : Store) : Option Bool := match eqS x y with
  | some b => some b
  | none => match dataOf st x, dataOf st y with
    | some d, some e => if SeqAt.shaped d = true ∧ SeqAt.shaped e = true then some (PyData.eqv d e) else none
    | _, _ => none
def eqA (x y : A) (st : Store) : R A := match eqB x y st with
  | some b => .ok (.bl b) st
  | none => .bad
def neA (x y : A) (st : Store) : R A := match eqB x y st with
  | some b => .ok (.bl (!b)) st
  | none => .bad
def isNonA : A → Bool
  | .non => true
  | _ => false
def isNA : A → A → Store → R A
  | x, .non, st => .ok (.bl (isNonA x)) st
  | _, _, _ => .bad
def OpS (X : Cx) (r : R2) (g : A → A → Store → R A) : Prop := ∀ (W : WH) (φ : List Addr) (H : Hp) (st : Store) (x y : V) (a b : A) (Q : VK), RS X.K X.w X.mg φ H st → RV X.K φ H x a → RV X.K φ H y b → Pst X.K X.w X.mg (RV X.K) W φ H (g a b st) Q → r x y H Q
section
variable {X : Cx} {W : WX} {a b e : Expr} {es : List Expr} {ma mb : MX} {pos : Pos}
def mVar (i : Nat) : MX := fun ρ st => match ρ[i]? with
  | some (some a) => .ok a st
  | _ => .bad
def mC (a : A) : MX := fun _ st => .ok a st
theorem me_var (i : Nat) {x : Str} {pos : Pos} (hN : X.N[i]? = some x := by rfl) (hv : Vis X.env.scope x := by first | exact Or.inl rfl | exact Or.inr (Or.inl rfl) | exact Or.inr (Or.inr rfl)) (hd : (x == ("__debug__" : Str)) = false := by decide)
    (hcd : (x == ("__classdict__" : Str)) = false := by decide) : PE X (.Name x pos) (tE X W (mVar i)) := (pv i hN hv hd hcd).imp fun σ H Q ⟨φ, ρ, st, rs, re, h⟩ => by
  unfold mVar at h
  cases q : ρ[i]? with
  | none => rw [q] at h; exact h.elim
  | some o =>
    cases o with
    | none => rw [q] at h; exact h.elim
    | some d =>
      rw [q] at h
      obtain ⟨v, h1, h2⟩ := re.all i d q
      exact ⟨v, h1, h.ok rs h2⟩
theorem me_int {i : Int} {j pos} : PE X (.Constant (.int i) j pos) (tE X W (mC (.int i))) := pe_int.imp fun _ _ _ ⟨_, _, _, rs, _, h⟩ => h.ok rs (.int i)
theorem me_bl {b : Bool} {j pos} : PE X (.Constant (.bool b) j pos) (tE X W (mC (.bl b))) := pe_bl.imp fun _ _ _ ⟨_, _, _, rs, _, h⟩ => h.ok rs (.bl b)
theorem me_non {j pos} : PE X (.Constant .none j pos) (tE X W (mC .non)) := pe_non.imp fun _ _ _ ⟨_, _, _, rs, _, h⟩ => h.ok rs .non
theorem me_str {x : Str} {j pos} : PE X (.Constant (.str x) j pos) (tE X W (mC (.str x))) := pe_str.imp fun _ _ _ ⟨_, _, _, rs, _, h⟩ => h.ok rs (.str x)
theorem me_glob {x : Str} {v : V} {u : Value} {d : A} {pos : Pos} (hg : Gl X x) (hm : X.mg x = some u) (r : RelV v u) (hv : ∀ φ H, RV X.K φ H v d) (hd : (x == ("__debug__" : Str)) = false := by decide) : PE X (.Name x pos) (tE X W (mC d)) :=
  (pe_glob hg hm r hd).imp fun _ H _ ⟨φ, _, _, rs, _, h⟩ => h.ok rs (hv φ H)
def mBin (g : A → A → Store → R A) (ma mb : MX) : MX := fun ρ st => (ma ρ st).bind fun x st1 => (mb ρ st1).bind fun y st2 => g x y st2
def mUn (g : A → Store → R A) (ma : MX) : MX := fun ρ st => (ma ρ st).bind fun x st1 => g x st1
theorem bin_ok {r : R2} {g : A → A → Store → R A} (hg : OpS X r g) {σ : L2.St} {H : Hp} {Q : VK} (h : tE X W (mBin g ma mb) σ H Q) : tOp r (tE X W ma) (tE X W mb) σ H Q := by
  obtain ⟨φ, ρ, st, rs, re, h⟩ := h
  exact ⟨φ, ρ, st, rs, re, h.seq fun φ1 a x H1 st1 e1 rs1 rv1 h1 => ⟨φ1, ρ, st1, rs1, re.ext e1, h1.seq fun φ2 b y H2 st2 e2 rs2 rv2 h2 => hg _ _ _ _ _ _ _ _ _ rs2 (rv1.ext e2) rv2 h2⟩⟩
theorem me_bin {op : Operator} {r : R2} {g : A → A → Store → R A} (ho : OpR X (binaryOp op) r) (hg : OpS X r g) (ha : PE X a (tE X W ma)) (hb : PE X b (tE X W mb)) : PE X (.BinOp a op b pos) (tE X W (mBin g ma mb)) := (pe_op ho ha hb).imp fun _ _ _ h => bin_ok hg h
theorem me_cmp {op : CmpOp} {r : R2} {g : A → A → Store → R A} (ho : OpR X (compareOp op) r) (hg : OpS X r g) (ha : PE X a (tE X W ma)) (hb : PE X b (tE X W mb)) (hm : behindInMarks op b = false := by first | exact nomark _ | rfl) : PE X (.Compare a [op] [b] pos) (tE X W (mBin g ma mb)) := (pe_cmpR ho ha hb hm).imp fun _ _ _ h => bin_ok hg h
theorem me_neg (ha : PE X a (tE X W ma)) : PE X (.UnaryOp .USub a pos) (tE X W (mUn negA ma)) := (pe_un un_neg ha).imp fun σ H Q ⟨φ, ρ, st, rs, re, h⟩ => by
  refine ⟨φ, ρ, st, rs, re, h.seq fun φ1 a x H1 st1 e1 rs1 rv1 h1 => ?_⟩
  cases rv1 with
  | int i => exact ⟨i, rfl, h1.ok rs1 (.int _)⟩
  | _ => exact (show False from h1).elim
def truA : A → Store → R Bool
  | .non, st => .ok false st
  | .bl b, st => .ok b st
  | .int i, st => .ok (i != 0) st
  | .str x, st => if x.length ≤ sizeLine then .ok ((x.length : Int) != 0) st else .bad
  | .tup xs, st => .ok (!xs.isEmpty) st
  | .scr xs, st => .ok (!xs.isEmpty) st
  | .ref i, st => match st[i]? with
    | some (.lst xs) => .ok (!xs.isEmpty) st
    | _ => .bad
def mTru (ma : MX) : MT := fun ρ st => (ma ρ st).bind truA
def mAnd (ma mb : MT) : MT := fun ρ st => (ma ρ st).bind fun x st1 => if x = true then mb ρ st1 else .ok false st1
def mOr (ma mb : MT) : MT := fun ρ st => (ma ρ st).bind fun x st1 => if x = true then .ok true st1 else mb ρ st1
def mNot (ma : MT) : MT := fun ρ st => (ma ρ st).bind fun x st1 => .ok (!x) st1
theorem RVs.empty {K : PySem.W.Frag} {φ : List Addr} {H : Hp} {xs : List V} {ds : List A} (q : RVs K φ H xs ds) : xs.isEmpty = ds.isEmpty := by
  cases q <;> rfl
theorem tru_ok' {K : PySem.W.Frag} {mg : Str → Option Value} {W : WH} {φ : List Addr} {H : Hp} {st : Store} {x : V} {a : A} {Q : Bool → Hp → Prop} (rs : RS K w mg φ H st) (r : RV K φ H x a) (h : Pst K w mg rlB W φ H (truA a st) Q) : ∃ k, TruV K x H k ∧ Q k H := by
  cases r with
  | non => exact ⟨false, rfl, h.ok rs rfl⟩
  | bl b => exact ⟨b, rfl, h.ok rs rfl⟩
  | int i => exact ⟨_, rfl, h.ok rs rfl⟩
  | str x =>
    by_cases hz : x.length ≤ sizeLine
    · rw [truA, if_pos hz] at h
      exact ⟨_, ⟨hz, rfl⟩, h.ok rs rfl⟩
    · rw [truA, if_neg hz] at h
      exact h.elim
  | tup q q2 => exact ⟨_, .inr (.inl ⟨_, q.sq, rfl⟩), h.ok rs (by rw [q2.empty])⟩
  | scr q q2 => exact ⟨_, .inl ⟨_, q.sq, rfl⟩, h.ok rs (by rw [q2.empty])⟩
  | @ref p i q =>
    unfold truA at h
    simp only at h
    cases e : st[i]? with
    | none => rw [e] at h; exact h.elim
    | some o =>
      cases o with
      | oth u => rw [e] at h; exact h.elim
      | lst ds =>
        rw [e] at h
        obtain ⟨xs, h1, h2⟩ := rs.lst q e
        exact ⟨_, .inl ⟨_, .inl (.inl h1), rfl⟩, h.ok rs (by rw [h2.empty])⟩
theorem mt_tru (ha : PE X a (tE X W ma)) (he : ∀ whole, isTrue a X.env whole = (do let v ← whole; standAt a.pos; holding [v] (truthy v)) := by intro _; rfl) : PT X a (tT X W (mTru ma)) := (pt_truth ha he).imp fun σ H Q ⟨φ, ρ, st, rs, re, h⟩ => by
  refine ⟨φ, ρ, st, rs, re, h.seq fun φ1 a x H1 st1 e1 rs1 rv1 h1 => ?_⟩
  exact tru_ok' rs1 rv1 h1
def getB : A → Store → R Bool
  | .bl b, st => .ok b st
  | _, _ => .bad
def mGB (ma : MX) : MT := fun ρ st => (ma ρ st).bind getB
theorem getB_ok {K : PySem.W.Frag} {mg : Str → Option Value} {W : WH} {φ : List Addr} {H : Hp} {st : Store} {x : V} {a : A} {Q : Bool → Hp → Prop} (rs : RS K w mg φ H st) (r : RV K φ H x a) (h : Pst K w mg rlB W φ H (getB a st) Q) : ∃ k, x = .bl k ∧ Q k H := by
  cases r with
  | bl b => exact ⟨b, rfl, h.ok rs rfl⟩
  | _ => exact (show False from h).elim
theorem mt_cmp {op : CmpOp} {r : R2} {g : A → A → Store → R A} (ho : OpR X (compareOp op) r) (hg : OpS X r g) (ha : PE X a (tE X W ma)) (hb : PE X b (tE X W mb)) (hm : behindInMarks op b = false := by first | exact nomark _ | rfl) : PT X (.Compare a [op] [b] pos) (tT X W (mGB (mBin g ma mb))) := (pt_cmpR ho ha hb hm).imp fun σ H Q h => by
  refine bin_ok (W := W) hg ?_
  obtain ⟨φ, ρ, st, rs, re, h⟩ := h
  exact ⟨φ, ρ, st, rs, re, h.seq fun φ1 a x H1 st1 e1 rs1 rv1 h1 => getB_ok rs1 rv1 h1⟩
variable {ta tb : MT} {rest : List Expr}
theorem mw_and1 (ha : PT X a (tT X W ta)) : L2.PW X (.BoolOp .And [a] pos) (tT X W ta) := pw_and1 ha
theorem mw_or1 (ha : PT X a (tT X W ta)) : L2.PW X (.BoolOp .Or [a] pos) (tT X W ta) := pw_or1 ha
theorem mw_and (ha : PT X a (tT X W ta)) (hb : L2.PW X (.BoolOp .And (b :: rest) pos) (tT X W tb)) : L2.PW X (.BoolOp .And (a :: b :: rest) pos) (tT X W (mAnd ta tb)) := PWimp (pw_and ha hb) fun σ H Q ⟨φ, ρ, st, rs, re, h⟩ => by
  refine ⟨φ, ρ, st, rs, re, h.seq fun φ1 a x H1 st1 e1 rs1 rv1 h1 => ?_⟩
  subst rv1
  cases x with
  | true => exact iteT ⟨φ1, ρ, st1, rs1, re.ext e1, h1⟩
  | false => exact iteF (h1.ok rs1 rfl)
theorem mw_or (ha : PT X a (tT X W ta)) (hb : L2.PW X (.BoolOp .Or (b :: rest) pos) (tT X W tb)) : L2.PW X (.BoolOp .Or (a :: b :: rest) pos) (tT X W (mOr ta tb)) := PWimp (pw_or ha hb) fun σ H Q ⟨φ, ρ, st, rs, re, h⟩ => by
  refine ⟨φ, ρ, st, rs, re, h.seq fun φ1 a x H1 st1 e1 rs1 rv1 h1 => ?_⟩
  subst rv1
  cases x with
  | false => exact iteF ⟨φ1, ρ, st1, rs1, re.ext e1, h1⟩
  | true => exact iteT (h1.ok rs1 rfl)
theorem mt_not (ha : PT X a (tT X W ta)) : PT X (.UnaryOp .Not a pos) (tT X W (mNot ta)) := (pt_not ha).imp fun σ H Q ⟨φ, ρ, st, rs, re, h⟩ => by
  refine ⟨φ, ρ, st, rs, re, h.seq fun φ1 a x H1 st1 e1 rs1 rv1 h1 => ?_⟩
  exact h1.ok rs1 (by rw [show x = a from rv1])
def mAndV (ma mb : MX) : MX := fun ρ st => (ma ρ st).bind fun x st1 => (getB x st1).bind fun k st2 => if k = true then mb ρ st2 else .ok (.bl false) st2
theorem me_one {op} (ha : PE X a (tE X W ma)) : PE X (.BoolOp op [a] pos) (tE X W ma) := pe_one ha
theorem getB_seq {K : PySem.W.Frag} {mg : Str → Option Value} {W : WH} {φ : List Addr} {H : Hp} {st : Store} {x : V} {a : A} {f : Bool → Store → R A} {Q : VK} (r : RV K φ H x a) (h : Pst K w mg (RV K) W φ H ((getB a st).bind f) Q) : ∃ k, x = .bl k ∧ Pst K w mg (RV K) W φ H (f k st) Q := by
  cases r with
  | bl b => exact ⟨b, rfl, h⟩
  | _ => exact (show False from h).elim
theorem me_and (ha : PE X a (tE X W ma)) (hb : PE X (.BoolOp .And (b :: rest) pos) (tE X W mb)) : PE X (.BoolOp .And (a :: b :: rest) pos) (tE X W (mAndV ma mb)) := (pe_and ha hb).imp fun σ H Q ⟨φ, ρ, st, rs, re, h⟩ => by
  refine ⟨φ, ρ, st, rs, re, h.seq fun φ1 a x H1 st1 e1 rs1 rv1 h1 => ?_⟩
  obtain ⟨k, hk, h2⟩ := getB_seq rv1 h1
  refine ⟨k, hk, ?_⟩
  cases k with
  | true => exact iteT ⟨φ1, ρ, st1, rs1, re.ext e1, h2⟩
  | false => exact iteF (h2.ok rs1 (.bl _))
def mNil : MA := fun _ st => .ok [] st
def mCons (ma : MX) (mr : MA) : MA := fun ρ st => (ma ρ st).bind fun x st1 => (mr ρ st1).bind fun xs st2 => .ok (x :: xs) st2
theorem ma_nil : PA X [] (tA X W mNil) := pa_nil.imp fun _ _ _ ⟨_, _, _, rs, _, h⟩ => h.ok rs .nil
variable {mr : MA}
theorem ma_cons (ha : PE X e (tE X W ma)) (hr : PA X es (tA X W mr)) (hs : starEach (e :: es) X.env = (false, eval e X.env) :: starEach es X.env := by rfl) : PA X (e :: es) (tA X W (mCons ma mr)) := (pa_cons ha hr hs).imp fun σ H Q ⟨φ, ρ, st, rs, re, h⟩ =>
  ⟨φ, ρ, st, rs, re, h.seq fun φ1 a x H1 st1 e1 rs1 rv1 h1 => ⟨φ1, ρ, st1, rs1, re.ext e1, h1.seq fun φ2 b y H2 st2 e2 rs2 rv2 h2 => h2.ok rs2 (.cons (rv1.ext e2) rv2)⟩⟩
def mTup (ms : MA) : MX := fun ρ st => (ms ρ st).bind fun xs st1 => if xs.length ≤ sizeLine then .ok (.tup xs) st1 else .bad
def mLst (ms : MA) : MX := fun ρ st => (ms ρ st).bind fun xs st1 => if xs.length ≤ sizeLine then .ok (.ref st1.length) (st1 ++ [.lst xs]) else .bad
theorem me_tup {x1} (h : PA X es (tA X W mr)) : PE X (.Tuple es x1 pos) (tE X W (mTup mr)) := (pe_tupP h).imp fun σ H Q ⟨φ, ρ, st, rs, re, h⟩ => by
  refine ⟨φ, ρ, st, rs, re, h.seq fun φ1 as xs H1 st1 e1 rs1 rv1 h1 => ?_⟩
  by_cases hz : as.length ≤ sizeLine
  · rw [if_pos hz] at h1
    exact ⟨by rw [rv1.length]; exact hz, fun p o hd hp => h1 φ1 _ _ (ext_new hp) (rs1.new hp) (.newTup rs1 hd hp rv1)⟩
  · rw [if_neg hz] at h1
    exact h1.elim
theorem me_lst (h : PA X es (tA X W mr)) : PE X (.List es pos) (tE X W (mLst mr)) := (pe_lst h).imp fun σ H Q ⟨φ, ρ, st, rs, re, h⟩ => by
  refine ⟨φ, ρ, st, rs, re, h.seq fun φ1 as xs H1 st1 e1 rs1 rv1 h1 => ?_⟩
  by_cases hz : as.length ≤ sizeLine
  · rw [if_pos hz] at h1
    exact ⟨by rw [rv1.length]; exact hz, fun p hp => h1 _ _ _ (ext_alloc rs1 hp) (rs1.alloc hp rv1) (.newLst rs1)⟩
  · rw [if_neg hz] at h1
    exact h1.elim
end
section
open PyProof.Rows
theorem tuple_mul_same (l : Addr) (items : Array Value) (n : Nat) (dd : Option Addr) (sl : Array (Option Value)) (x : Int) (u : Tok) (c0 : (decide (x < -(2 ^ 63)) || decide (x ≥ 2 ^ 63)) = false) (c1 : (items.isEmpty || x == 1) = true) :
    Meets (Builtin.«tuple.__mul__» ⟨[.ref l, .int x u], []⟩) (fun _ R s => s.heap.get? l = some { cls := .type "tuple", dict := dd, data := .seq items n, slots := sl } ∧
      R (.ok (.ret (Value.ref l))) s) :=
  .of_wp fun prog w A R s h => by
    obtain ⟨hp, g, d, tk, os⟩ := s
    obtain ⟨hl, h⟩ := h
    have f1 := AutoSeq1.idx_int
    wp_walk using wpAny_loadPart' hl
    repeat (first
      | (refine wpAny_ite_false (decide_eq_false (by rw [c0]; exact Bool.false_ne_true)) ?_; wp_walk using wpAny_loadPart' hl)
      | (refine wpAny_ite_true (decide_eq_true (by rw [c1])) ?_; wp_walk using wpAny_loadPart' hl))
    exact ⟨_, rfl, h⟩
theorem tuple_mul_none (l : Addr) (items : Array Value) (n : Nat) (dd : Option Addr) (sl : Array (Option Value)) (x : Int) (u : Tok) (c0 : (decide (x < -(2 ^ 63)) || decide (x ≥ 2 ^ 63)) = false) (c1 : (items.isEmpty || x == 1) = false) (c2 : (decide (x ≤ 0) || items.isEmpty) = true) :
    Meets (Builtin.«tuple.__mul__» ⟨[.ref l, .int x u], []⟩) (fun _ R s => s.heap.get? l = some { cls := .type "tuple", dict := dd, data := .seq items n, slots := sl } ∧
      R (.ok (.ret (Value.ref s.heap.objs.size))) { s with heap := s.heap.push { cls := Value.type "tuple", data := Data.seq #[] }, toks := s.toks }) :=
  .of_wp fun prog w A R s h => by
    obtain ⟨hp, g, d, tk, os⟩ := s
    obtain ⟨hl, h⟩ := h
    have f1 := AutoSeq1.idx_int
    wp_walk using wpAny_loadPart' hl
    repeat (first
      | (refine wpAny_ite_false (decide_eq_false (by rw [c0]; exact Bool.false_ne_true)) ?_; wp_walk using wpAny_loadPart' hl)
      | (refine wpAny_ite_false (decide_eq_false (by rw [c1]; exact Bool.false_ne_true)) ?_; wp_walk using wpAny_loadPart' hl)
      | (refine wpAny_ite_true (decide_eq_true (by rw [c2])) ?_; wp_walk using wpAny_loadPart' hl))
    exact ⟨_, rfl, h⟩
def rRepU (K : PySem.W.Frag) : R2 := fun x y H Q => ∃ l k xs, x = .ref l ∧ y = .int k ∧ SqT K H l xs ∧ 0 ≤ k ∧ k ≤ 1000000 ∧ xs.length * k.toNat ≤ sizeLine ∧
  (((xs = [] ∨ k = 1) ∧ Q (.ref l) H) ∨ (xs ≠ [] ∧ k ≠ 1 ∧ NewT H (List.replicate k.toNat xs).flatten Q))
section
variable {X : Cx}
theorem op_repU : OpR X (binaryOp .Mult) (rRepU X.K) := by
  intro pins s σ H x y v u Q I rx ry h
  obtain ⟨l, k, xs, rfl, rfl, hT, h1, h2, hz, q⟩ := h
  cases rx
  obtain ⟨t, rfl⟩ := ry
  obtain ⟨its, r, ⟨⟨cls, dd, data, sl⟩, ho, hc, n, hd⟩, hs⟩ := I.tuple hT
  simp only at hc hd
  subst hc hd
  have hle : its.length = xs.length := r.length.symm
  have hsz0 : its.toArray.size = xs.length := by rw [List.size_toArray, hle]
  have c0 : (decide (k < -(2 ^ 63)) || decide (k ≥ 2 ^ 63)) = false := by
    rw [decide_eq_false (by omega), decide_eq_false (by omega)] <;> rfl
  rcases q with ⟨hq, q⟩ | ⟨hne, hk1, q⟩
  · have c1 : (its.toArray.isEmpty || k == 1) = true := by
      rcases hq with e | e
      · subst e
        have : its = [] := List.eq_nil_of_length_eq_zero (by rw [hle]; rfl)
        subst this
        rfl
      · subst e
        simp
    refine wpAny_binaryOp_repeat_ref (T := "tuple") (U := "int") (by decide) ⟨_, ho, rfl⟩ (fun s' => typeIs_int s' k t) noFill_tuple_mul F.fills_int_mul F.slot_int_rmul repeat_tuple F.slot_int_index.lookup
      (call_meets F.slot_int_rmul (typeIs_int s k t) F.entry_int_rmul (F.args_int_rmul_2 _ _) (int_rmul_tuple k t l its.toArray n dd sl)
        ⟨ho, rfl, ⟨_, ho, rfl⟩, call_meets F.slot_tuple_mul ⟨_, ho, rfl⟩ F.entry_tuple_mul (F.args_tuple_mul_2 _ _) (tuple_mul_same l its.toArray n dd sl k t c0 c1) ⟨ho, ?_⟩⟩)
    exact ⟨.ref l, H, I, rfl, q⟩
  · have hn : its ≠ [] := fun e => hne (by
      rw [e] at hle
      exact List.eq_nil_of_length_eq_zero hle.symm)
    have hi : its.toArray.isEmpty = false := by
      cases its with
      | nil => exact absurd rfl hn
      | cons a b => rfl
    have c1 : (its.toArray.isEmpty || k == 1) = false := by
      rw [hi, Bool.false_or]
      exact beq_eq_false_iff_ne.mpr hk1
    by_cases k0 : k = 0
    · subst k0
      have c2 : (decide ((0 : Int) ≤ 0) || its.toArray.isEmpty) = true := by simp
      refine wpAny_binaryOp_repeat_ref (T := "tuple") (U := "int") (by decide) ⟨_, ho, rfl⟩ (fun s' => typeIs_int s' 0 t) noFill_tuple_mul F.fills_int_mul F.slot_int_rmul repeat_tuple F.slot_int_index.lookup
        (call_meets F.slot_int_rmul (typeIs_int s 0 t) F.entry_int_rmul (F.args_int_rmul_2 _ _) (int_rmul_tuple 0 t l its.toArray n dd sl)
          ⟨ho, rfl, ⟨_, ho, rfl⟩, call_meets F.slot_tuple_mul ⟨_, ho, rfl⟩ F.entry_tuple_mul (F.args_tuple_mul_2 _ _) (tuple_mul_none l its.toArray n dd sl 0 t c0 c1 c2) ⟨ho, ?_⟩⟩)
      exact new_tup (its := []) (xs := []) I .nil (Nat.zero_le _) q
    · have c2 : (decide (k ≤ 0) || its.toArray.isEmpty) = false := by
        rw [hi, Bool.or_false]
        exact decide_eq_false (by omega)
      have hm : ((its.toArray.size : Nat) : Int) * k ≤ 16777216 := by
        rw [hsz0]
        have e1 : ((xs.length * k.toNat : Nat) : Int) = ((xs.length : Nat) : Int) * k := by
          rw [Int.natCast_mul, Int.toNat_of_nonneg h1]
        rw [← e1]
        rw [sizeLine_eq] at hz
        omega
      have flen : (List.replicate k.toNat its).flatten.length ≤ sizeLine := by
        rw [PyProof.Rows.lm_len_rep_flat, hle, Nat.mul_comm]
        exact hz
      have c4 : Builtin.Tuple.tupleTooMany (((its.toArray.size : Nat) : Int) * k) = false := by
        unfold Builtin.Tuple.tupleTooMany
        rw [sizeLine_eq]
        exact decide_eq_false (by omega)
      refine wpAny_binaryOp_repeat_ref (T := "tuple") (U := "int") (by decide) ⟨_, ho, rfl⟩ (fun s' => typeIs_int s' k t) noFill_tuple_mul F.fills_int_mul F.slot_int_rmul repeat_tuple F.slot_int_index.lookup
        (call_meets F.slot_int_rmul (typeIs_int s k t) F.entry_int_rmul (F.args_int_rmul_2 _ _) (int_rmul_tuple k t l its.toArray n dd sl)
          ⟨ho, rfl, ⟨_, ho, rfl⟩, call_meets F.slot_tuple_mul ⟨_, ho, rfl⟩ F.entry_tuple_mul (F.args_tuple_mul_2 _ _) (tuple_mulW l its.toArray n dd sl k t c0 c1 c2 (by omega) c4 (by rw [size_rep, List.size_toArray]; exact flen)) ⟨ho, ?_⟩⟩)
      rw [size_rep]
      exact new_tup I (r.rep k.toNat) (by rw [PyProof.Rows.lm_len_rep_flat, Nat.mul_comm]; exact hz) q
end
end
section
variable {X : Cx}
def rCatP (K : PySem.W.Frag) : R2 := fun x y H Q => ∃ a b xs ys, x = .ref a ∧ y = .ref b ∧ SqT K H a xs ∧ SqT K H b ys ∧ xs.length + ys.length ≤ sizeLine ∧ (xs = [] → Q (.ref b) H) ∧ (ys = [] → Q (.ref a) H) ∧ NewT H (xs ++ ys) Q
theorem op_catP : OpR X (binaryOp .Add) (rCatP X.K) := by
  intro pins s σ H x y v u Q I rx ry ⟨a, b, xs, ys, ex, ey, ha, hb, hz, q0, q1, q2⟩
  subst ex ey
  cases rx
  cases ry
  obtain ⟨its, r1, p1, _⟩ := I.tuple ha
  obtain ⟨jts, r2, p2, _⟩ := I.tuple hb
  by_cases hx : xs = []
  · subst hx
    cases r1
    exact cat_tup0 p1 p2 ⟨.ref b, H, I, rfl, q0 rfl⟩
  · exact HT.cat_tup p1 p2 (fun z => hx (r1.nil_iff.mp z)) (fun z => ⟨.ref a, H, I, rfl, q1 (r2.nil_iff.mp z)⟩) (fun z => new_tup I (r1.append r2) (by rw [List.length_append]; exact hz) q2) (by rw [← r1.length, ← r2.length]; exact hz)
abbrev rAddU (K : PySem.W.Frag) : R2 := fun x y H Q => (rI0 (fun i j => .int (i + j)) x y H Q ∨ (∃ i j, x = .str i ∧ y = .str j ∧ i.length + j.length ≤ sizeLine ∧ Q (.str (i ++ j)) H)) ∨ (rCatP K x y H Q ∨ rCat x y H Q)
theorem op_addU : OpR X (binaryOp .Add) (rAddU X.K) := OpR.or (OpR.or op_add op_add_str) (OpR.or op_catP op_cat)
theorem os_add : OpS X (rAddU X.K) addA := fun W φ H st x y a b Q rs ra rb h => by
  cases ra with
  | int i =>
    cases rb with
    | int j => exact .inl (.inl ⟨i, j, rfl, rfl, h.ok rs (.int _)⟩)
    | _ => exact (show False from h).elim
  | str i =>
    cases rb with
    | str j =>
      unfold addA at h
      simp only at h
      split at h
      · rename_i hz
        exact .inl (.inr ⟨i, j, rfl, rfl, hz, h.ok rs (.str _)⟩)
      · exact (show False from h).elim
    | _ => exact (show False from h).elim
  | @tup p xs ds q qs =>
    cases rb with
    | @tup p2 ys es q' qs' =>
      unfold addA at h
      simp only at h
      split at h
      · rename_i hz
        rw [← qs.length, ← qs'.length] at hz
        refine .inr (.inl ⟨p, p2, xs, ys, rfl, rfl, q.sq, q'.sq, hz, fun e => ?_, fun e => ?_, fun p3 o hd hp => ?_⟩)
        · subst e
          cases qs
          exact h.ok rs (.tup q' qs')
        · subst e
          cases qs'
          rw [List.append_nil] at h
          exact h.ok rs (.tup q qs)
        · exact h _ _ _ (ext_new hp) (rs.new hp) (.newTup rs hd hp (qs.app qs'))
      · exact (show False from h).elim
    | _ => exact (show False from h).elim
  | @ref p i q =>
    cases rb with
    | @ref p2 j q2 =>
      unfold addA at h
      simp only at h
      cases e1 : st[i]? with
      | none => rw [e1] at h; exact h.elim
      | some o1 =>
        cases o1 with
        | oth u => rw [e1] at h; exact h.elim
        | lst xs =>
          cases e2 : st[j]? with
          | none => rw [e1, e2] at h; exact h.elim
          | some o2 =>
            cases o2 with
            | oth u => rw [e1, e2] at h; exact h.elim
            | lst ys =>
              rw [e1, e2] at h
              simp only at h
              obtain ⟨vs, h1, h1'⟩ := rs.lst q e1
              obtain ⟨ws, h2, h2'⟩ := rs.lst q2 e2
              split at h
              · rename_i hz
                rw [← h1'.length, ← h2'.length] at hz
                exact .inr (.inr ⟨p, p2, vs, ws, rfl, rfl, h1, h2, hz, fun p3 hp => h _ _ _ (ext_alloc rs hp) (rs.alloc hp (h1'.app h2')) (.newLst rs)⟩)
              · exact (show False from h).elim
    | _ => exact (show False from h).elim
  | _ => exact (show False from h).elim
theorem os_int {C : Int → Int → Prop} [∀ i j, Decidable (C i j)] {g : Int → Int → Int} {f : A → A → Store → R A} (hf : ∀ i j st, f (.int i) (.int j) st = if C i j then .ok (.int (g i j)) st else .bad)
    (hn : ∀ a b st, (∀ i j, ¬ (a = .int i ∧ b = .int j)) → f a b st = .bad) : OpS X (rI C fun i j => .int (g i j)) f := fun W φ H st x y a b Q rs ra rb h => by
  by_cases hab : ∃ i j, a = .int i ∧ b = .int j
  · obtain ⟨i, j, rfl, rfl⟩ := hab
    cases ra
    cases rb
    rw [hf] at h
    by_cases hc : C i j
    · rw [if_pos hc] at h
      exact ⟨i, j, rfl, rfl, hc, h.ok rs (.int _)⟩
    · rw [if_neg hc] at h
      exact h.elim
  · rw [hn a b st fun i j z => hab ⟨i, j, z⟩] at h
    exact h.elim
theorem os_int0 {g : Int → Int → Int} {f : A → A → Store → R A} (hf : ∀ i j st, f (.int i) (.int j) st = .ok (.int (g i j)) st)
    (hn : ∀ a b st, (∀ i j, ¬ (a = .int i ∧ b = .int j)) → f a b st = .bad) : OpS X (rI0 fun i j => .int (g i j)) f := fun W φ H st x y a b Q rs ra rb h => by
  by_cases hab : ∃ i j, a = .int i ∧ b = .int j
  · obtain ⟨i, j, rfl, rfl⟩ := hab
    cases ra
    cases rb
    rw [hf] at h
    exact ⟨i, j, rfl, rfl, h.ok rs (.int _)⟩
  · rw [hn a b st fun i j z => hab ⟨i, j, z⟩] at h
    exact h.elim
theorem os_intB {g : Int → Int → Bool} {f : A → A → Store → R A} (hf : ∀ i j st, f (.int i) (.int j) st = .ok (.bl (g i j)) st)
    (hn : ∀ a b st, (∀ i j, ¬ (a = .int i ∧ b = .int j)) → f a b st = .bad) : OpS X (rI0 fun i j => .bl (g i j)) f := fun W φ H st x y a b Q rs ra rb h => by
  by_cases hab : ∃ i j, a = .int i ∧ b = .int j
  · obtain ⟨i, j, rfl, rfl⟩ := hab
    cases ra
    cases rb
    rw [hf] at h
    exact ⟨i, j, rfl, rfl, h.ok rs (.bl _)⟩
  · rw [hn a b st fun i j z => hab ⟨i, j, z⟩] at h
    exact h.elim
theorem os_sub : OpS X (rI0 fun i j => .int (i - j)) subA := os_int0 (fun _ _ _ => rfl) fun a b st h => by
  cases a <;> cases b <;> first | rfl | exact absurd ⟨rfl, rfl⟩ (h _ _)
theorem os_le : OpS X (rI0 fun i j => .bl (decide (i ≤ j))) leA := os_intB (fun _ _ _ => rfl) fun a b st h => by
  cases a <;> cases b <;> first | rfl | exact absurd ⟨rfl, rfl⟩ (h _ _)
theorem os_ge : OpS X (rI0 fun i j => .bl (decide (j ≤ i))) geA := os_intB (fun _ _ _ => rfl) fun a b st h => by
  cases a <;> cases b <;> first | rfl | exact absurd ⟨rfl, rfl⟩ (h _ _)
theorem os_pow : OpS X (rI CPow fun i j => .int (i ^ j.toNat)) powA := os_int (C := fun i j => 0 ≤ j ∧ j ≤ 1000000 ∧ i.natAbs < 2 ^ 64) (fun _ _ _ => rfl) fun a b st h => by
  cases a <;> cases b <;> first | rfl | exact absurd ⟨rfl, rfl⟩ (h _ _)
theorem os_fdiv : OpS X (rI CDivW fun i j => .int (i / j)) fdivA := os_int (C := fun _ j => 0 < j ∧ j.natAbs.log2 < 9000) (fun _ _ _ => rfl) fun a b st h => by
  cases a <;> cases b <;> first | rfl | exact absurd ⟨rfl, rfl⟩ (h _ _)
theorem op_modP : OpR X (binaryOp .Mod) (rI (fun _ j => 0 < j) fun i j => .int (i % j)) := fun pins s σ H x y v u Q I rx ry ⟨i, j, e1, e2, hc, q⟩ =>
  op_modN pins s σ H x y v u Q I rx ry ⟨i, j, e1, e2, (show j ≠ 0 from fun z => by subst z; exact absurd hc (by decide)), by show Q (.int (i.fmod j)) H; rw [Int.fmod_eq_emod_of_nonneg i (Int.le_of_lt hc)]; exact q⟩
theorem os_mod : OpS X (rI (fun _ j => 0 < j) fun i j => .int (i % j)) modA := os_int (C := fun _ j => 0 < j) (fun _ _ _ => rfl) fun a b st h => by
  cases a <;> cases b <;> first | rfl | exact absurd ⟨rfl, rfl⟩ (h _ _)
abbrev rMulU (K : PySem.W.Frag) : R2 := fun x y H Q => (rI CMul (fun i j => .int (i * j)) x y H Q ∨ rI CMulX (fun i j => .int (i * j)) x y H Q) ∨ (rRep x y H Q ∨ rRepU K x y H Q)
theorem op_mulU : OpR X (binaryOp .Mult) (rMulU X.K) := OpR.or (OpR.or op_mul op_mulX) (OpR.or op_rep op_repU)
theorem os_mul : OpS X (rMulU X.K) mulA := fun W φ H st x y a b Q rs ra rb h => by
  cases ra with
  | int i =>
    cases rb with
    | int j =>
      unfold mulA at h
      simp only at h
      split at h
      · rename_i hz
        exact hz.elim (fun hz => .inl (.inl ⟨i, j, rfl, rfl, hz, h.ok rs (.int _)⟩)) (fun hz => .inl (.inr ⟨i, j, rfl, rfl, hz, h.ok rs (.int _)⟩))
      · exact (show False from h).elim
    | _ => exact (show False from h).elim
  | @ref p i q =>
    cases rb with
    | int k =>
      unfold mulA at h
      simp only at h
      cases e1 : st[i]? with
      | none => rw [e1] at h; exact h.elim
      | some o1 =>
        cases o1 with
        | oth u => rw [e1] at h; exact h.elim
        | lst xs =>
          rw [e1] at h
          simp only at h
          obtain ⟨vs, h1, h1'⟩ := rs.lst q e1
          split at h
          · rename_i hz
            rw [← h1'.length] at hz
            exact .inr (.inl ⟨p, k, vs, rfl, rfl, h1, hz.1, hz.2.1, hz.2.2, fun p3 hp => h _ _ _ (ext_alloc rs hp) (rs.alloc hp (h1'.flat _)) (.newLst rs)⟩)
          · exact (show False from h).elim
    | _ => exact (show False from h).elim
  | @tup p xs ds q qs =>
    cases rb with
    | int k =>
      unfold mulA at h
      simp only at h
      split at h
      · rename_i hz
        rw [← qs.length] at hz
        refine .inr (.inr ⟨p, k, xs, rfl, rfl, q.sq, hz.1, hz.2.1, hz.2.2, ?_⟩)
        by_cases c : xs = [] ∨ k = 1
        · refine .inl ⟨c, ?_⟩
          rcases c with e | e
          · subst e
            cases qs
            have e2 : (List.replicate k.toNat ([] : List A)).flatten = [] := by simp
            rw [e2] at h
            exact h.ok rs (.tup q .nil)
          · subst e
            have e2 : (List.replicate (1 : Int).toNat ds).flatten = ds := by simp
            rw [e2] at h
            exact h.ok rs (.tup q qs)
        · refine .inr ⟨fun e => c (.inl e), fun e => c (.inr e), fun p3 o hd hp => ?_⟩
          exact h _ _ _ (ext_new hp) (rs.new hp) (.newTup rs hd hp (qs.flat _))
      · exact (show False from h).elim
    | _ => exact (show False from h).elim
  | _ => exact (show False from h).elim
abbrev rLtU : R2 := fun x y H Q => rI0 (fun i j => .bl (decide (i < j))) x y H Q ∨ (∃ i j : Str, x = .str i ∧ y = .str j ∧ Q (.bl (decide (i.cps.toList < j.cps.toList))) H)
abbrev rGtU : R2 := fun x y H Q => rI0 (fun i j => .bl (decide (j < i))) x y H Q ∨ (∃ i j : Str, x = .str i ∧ y = .str j ∧ Q (.bl (decide (j.cps.toList < i.cps.toList))) H)
theorem op_ltU : OpR X (compareOp .Lt) rLtU := OpR.or op_lt op_lt_str
theorem op_gtU : OpR X (compareOp .Gt) rGtU := OpR.or op_gt op_gt_str
theorem os_lt : OpS X rLtU ltA := fun W φ H st x y a b Q rs ra rb h => by
  cases ra with
  | int i =>
    cases rb with
    | int j => exact .inl ⟨i, j, rfl, rfl, h.ok rs (.bl _)⟩
    | _ => exact (show False from h).elim
  | str i =>
    cases rb with
    | str j => exact .inr ⟨i, j, rfl, rfl, h.ok rs (.bl _)⟩
    | _ => exact (show False from h).elim
  | _ => exact (show False from h).elim
theorem os_gt : OpS X rGtU gtA := fun W φ H st x y a b Q rs ra rb h => by
  cases ra with
  | int i =>
    cases rb with
    | int j => exact .inl ⟨i, j, rfl, rfl, h.ok rs (.bl _)⟩
    | _ => exact (show False from h).elim
  | str i =>
    cases rb with
    | str j => exact .inr ⟨i, j, rfl, rfl, h.ok rs (.bl _)⟩
    | _ => exact (show False from h).elim
  | _ => exact (show False from h).elim
abbrev rEqU (K : PySem.W.Frag) : R2 := fun x y H Q => rEq x y H Q ∨ rEqD K x y H Q
abbrev rNeU (K : PySem.W.Frag) : R2 := fun x y H Q => rNe x y H Q ∨ rNeD K x y H Q
theorem op_eqU (hu : X.A.units + 64 < cLine) : OpR X (compareOp .Eq) (rEqU X.K) := OpR.or op_eq (op_eqD hu)
theorem op_neU (hu : X.A.units + 64 < cLine) : OpR X (compareOp .NotEq) (rNeU X.K) := OpR.or op_ne (op_neD hu)
theorem eqB_ok {K : PySem.W.Frag} {φ : List Addr} {H : Hp} {st : Store} {x y : V} {a b : A} {k : Bool} (rs : RS K w mg φ H st) (ra : RV K φ H x a) (rb : RV K φ H y b) (h : eqB a b st = some k) :
    (scal x y = true ∧ decide (x = y) = k) ∨ ∃ d e, Dp K H x d ∧ Dp K H y e ∧ SeqAt.shaped d = true ∧ SeqAt.shaped e = true ∧ PyData.eqv d e = k := by
  unfold eqB at h
  cases e0 : eqS a b with
  | some b' => rw [e0] at h; cases h; exact .inl (eqS_ok ra rb e0)
  | none =>
    rw [e0] at h
    simp only at h
    cases e1 : dataOf st a with
    | none => rw [e1] at h; cases h
    | some d =>
      cases e2 : dataOf st b with
      | none => rw [e1, e2] at h; cases h
      | some e =>
        rw [e1, e2] at h
        simp only at h
        by_cases hs : SeqAt.shaped d = true ∧ SeqAt.shaped e = true
        · rw [if_pos hs] at h
          cases h
          exact .inr ⟨d, e, dataOf_ok rs ra e1, dataOf_ok rs rb e2, hs.1, hs.2, rfl⟩
        · rw [if_neg hs] at h
          cases h
theorem os_eq : OpS X (rEqU X.K) eqA := fun W φ H st x y a b Q rs ra rb h => by
  unfold eqA at h
  cases e : eqB a b st with
  | none => rw [e] at h; exact (show False from h).elim
  | some k =>
    rw [e] at h
    rcases eqB_ok rs ra rb e with ⟨h1, h2⟩ | ⟨d, e, h1, h2, h3, h4, h5⟩
    · exact .inl ⟨h1, by rw [h2]; exact h.ok rs (.bl _)⟩
    · exact .inr ⟨d, e, h1, h2, h3, h4, by rw [h5]; exact h.ok rs (.bl _)⟩
theorem os_ne : OpS X (rNeU X.K) neA := fun W φ H st x y a b Q rs ra rb h => by
  unfold neA at h
  cases e : eqB a b st with
  | none => rw [e] at h; exact (show False from h).elim
  | some k =>
    rw [e] at h
    rcases eqB_ok rs ra rb e with ⟨h1, h2⟩ | ⟨d, e, h1, h2, h3, h4, h5⟩
    · exact .inl ⟨h1, by rw [h2]; exact h.ok rs (.bl _)⟩
    · exact .inr ⟨d, e, h1, h2, h3, h4, by rw [h5]; exact h.ok rs (.bl _)⟩
theorem isNon_eq {K : PySem.W.Frag} {φ : List Addr} {H : Hp} {x : V} {a : A} (r : RV K φ H x a) : decide (x = .non) = isNonA a := by
  cases r <;> rfl
theorem os_isN : OpS X (fun x y H Q => y = .non ∧ Q (.bl (decide (x = .non))) H) isNA := fun W φ H st x y a b Q rs ra rb h => by
  cases rb with
  | non =>
    refine ⟨rfl, ?_⟩
    rw [isNon_eq ra]
    have h' : Pst X.K X.w X.mg (RV X.K) W φ H (.ok (A.bl (isNonA a)) st) Q := by cases a <;> exact h
    exact h'.ok rs (RV.bl _)
  | _ => cases a <;> exact (show False from h).elim
end
end ML
namespace ML
open PySem PySem.Spec L2
section
variable {X : Cx} {W : WX} {a b e : Expr} {es : List Expr} {ma mb : MX} {ms : MA} {pos : Pos}
theorem atI_rv {K : PySem.W.Frag} {φ : List Addr} {H : Hp} {vs : List V} {ds : List A} {i : Int} {d : A} (q : RVs K φ H vs ds) (h : atI ds i = some d) : ∃ v, atI vs i = some v ∧ RV K φ H v d := by
  unfold atI at h ⊢
  rw [q.length]
  cases e : ixN ds.length i with
  | none => rw [e] at h; cases h
  | some j =>
    rw [e] at h
    exact q.get h
def ixA : A → A → Store → R A
  | .tup xs, .int i, st => match atI xs i with
    | some d => .ok d st
    | none => .bad
  | .scr xs, .int i, st => match atI xs i with
    | some d => .ok d st
    | none => .bad
  | .str z, .int i, st => if z.length ≤ sizeLine then match atI z.cps.toList i with
    | some c => .ok (.str ⟨#[c]⟩) st
    | none => .bad else .bad
  | .ref r, .int i, st => match st[r]? with
    | some (.lst xs) => match atI xs i with
      | some d => .ok d st
      | none => .bad
    | _ => .bad
  | _, _, _ => .bad
theorem os_ix : OpS X (rIx X.K) ixA := fun W φ H st x y a b Q rs ra rb h => by
  cases ra with
  | @tup p xs ds q qs =>
    cases rb with
    | int i =>
      unfold ixA at h
      simp only at h
      cases e : atI ds i with
      | none => rw [e] at h; exact h.elim
      | some d =>
        rw [e] at h
        obtain ⟨v, h1, h2⟩ := atI_rv qs e
        exact .inr (.inl ⟨p, xs, i, v, rfl, rfl, q.sq, h1, h.ok rs h2⟩)
    | _ => exact (show False from h).elim
  | @scr p xs ds q qs =>
    cases rb with
    | int i =>
      unfold ixA at h
      simp only at h
      cases e : atI ds i with
      | none => rw [e] at h; exact h.elim
      | some d =>
        rw [e] at h
        obtain ⟨v, h1, h2⟩ := atI_rv qs e
        exact .inl ⟨p, xs, i, v, rfl, rfl, q.sq, h1, h.ok rs h2⟩
    | _ => exact (show False from h).elim
  | str z =>
    cases rb with
    | int i =>
      unfold ixA at h
      simp only at h
      split at h
      · rename_i hz
        cases e : atI z.cps.toList i with
        | none => rw [e] at h; exact h.elim
        | some c =>
          rw [e] at h
          exact .inr (.inr ⟨z, i, c, rfl, rfl, hz, e, h.ok rs (.str _)⟩)
      · exact h.elim
    | _ => exact (show False from h).elim
  | @ref p r q =>
    cases rb with
    | int i =>
      unfold ixA at h
      simp only at h
      cases e1 : st[r]? with
      | none => rw [e1] at h; exact h.elim
      | some o =>
        cases o with
        | oth u => rw [e1] at h; exact h.elim
        | lst ds =>
          rw [e1] at h
          simp only at h
          obtain ⟨vs, h1, h1'⟩ := rs.lst q e1
          cases e : atI ds i with
          | none => rw [e] at h; exact h.elim
          | some d =>
            rw [e] at h
            obtain ⟨v, h2, h3⟩ := atI_rv h1' e
            exact .inl ⟨p, vs, i, v, rfl, rfl, .inl (.inl h1), h2, h.ok rs h3⟩
    | _ => exact (show False from h).elim
  | _ => cases rb <;> exact (show False from h).elim
theorem me_ix (ha : PE X a (tE X W ma)) (hb : PE X b (tE X W mb)) (hs : PlainIx b := by exact fun _ _ => rfl) : PE X (.Subscript a b pos) (tE X W (mBin ixA ma mb)) := (pe_ix ix_seq ha hb hs).imp fun _ _ _ h => bin_ok os_ix h
abbrev MO := Env → Store → R (Option Int)
abbrev rlO : List Addr → Hp → Option Int → Option Int → Prop := fun _ _ x y => x = y
abbrev tO (X : Cx) (W : WX) (m : MO) : TO := tG X.K X.w X.mg rlO W m
def mNoPart : MO := fun _ st => .ok none st
def getI : A → Store → R Int
  | .int i, st => .ok i st
  | _, _ => .bad
def mPart (m : MX) : MO := fun ρ st => (m ρ st).bind fun x st1 => (getI x st1).bind fun i st2 => .ok (some i) st2
theorem POimp {o : Option Expr} {t t' : TO} (h : PO X o t) (k : ∀ σ H Q, t' σ H Q → t σ H Q) : PO X o t' := ⟨fun pins s σ H Q I q => h.run pins s σ H Q I (k _ _ _ q)⟩
theorem mo_none : PO X none (tO X W mNoPart) := POimp po_none fun _ _ _ ⟨_, _, _, rs, _, h⟩ => h.ok rs rfl
theorem mo_some (ha : PE X a (tE X W ma)) : PO X (some a) (tO X W (mPart ma)) := POimp (po_some ha) fun σ H Q ⟨φ, ρ, st, rs, re, h⟩ => by
  refine ⟨φ, ρ, st, rs, re, h.seq fun φ1 a x H1 st1 e1 rs1 rv1 h1 => ?_⟩
  cases rv1 with
  | int i => exact ⟨i, rfl, h1.ok rs1 rfl⟩
  | _ => exact (show False from h1).elim
def cutA {α : Type} (xs : List α) (lo hi : Option Int) : List α := (xs.drop (HT.sIx xs.length 0 lo)).take (HT.sIx xs.length xs.length hi - HT.sIx xs.length 0 lo)
def slA : A → Option Int → Option Int → Store → R A
  | .tup xs, lo, hi, st => .ok (.tup (cutA xs lo hi)) st
  | .scr xs, lo, hi, st => .ok (.ref st.length) (st ++ [.lst (cutA xs lo hi)])
  | .str z, lo, hi, st => if z.length ≤ sizeLine then .ok (.str (cutS z lo hi)) st else .bad
  | .ref r, lo, hi, st => match st[r]? with
    | some (.lst xs) => .ok (.ref st.length) (st ++ [.lst (cutA xs lo hi)])
    | _ => .bad
  | _, _, _, _ => .bad
theorem cut_rv {K : PySem.W.Frag} {φ : List Addr} {H : Hp} {vs : List V} {ds : List A} (q : RVs K φ H vs ds) (lo hi : Option Int) : RVs K φ H (cutV vs lo hi) (cutA ds lo hi) := by
  unfold cutV cutA
  rw [q.length]
  exact (q.drop _).take _
theorem cut_all {α : Type} {xs : List α} {lo hi : Option Int} (h : HT.sIx xs.length 0 lo = 0 ∧ HT.sIx xs.length xs.length hi = xs.length) : cutA xs lo hi = xs := by
  unfold cutA
  rw [h.1, h.2]
  simp
def rSlP (K : PySem.W.Frag) : V → Option Int → Option Int → Hp → VK → Prop := fun x lo hi H Q => ∃ a xs, x = .ref a ∧ SqT K H a xs ∧ (HT.sIx xs.length 0 lo = 0 ∧ HT.sIx xs.length xs.length hi = xs.length → Q (.ref a) H) ∧ NewT H (cutV xs lo hi) Q
theorem sl_tupP : SlR X (rSlP X.K) := by
  intro pins s σ H x v vl vu lo hi sl Q I rx hs pl pu ⟨a, xs, ex, hx, q1, q2⟩
  subst ex
  cases rx
  obtain ⟨its, r, ht, hz⟩ := I.tuple hx
  have hn : its.toArray.size = xs.length := by rw [List.size_toArray, r.length]
  refine ⟨"tuple", _, PyProof.Rows.slot_tuple_getitem.lookup, ht.typeIs, ?_⟩
  by_cases hw : HT.sIx xs.length 0 lo = 0 ∧ HT.sIx xs.length xs.length hi = xs.length
  · exact getItem_tuple_whole ht hs pl pu (by rw [hn]; exact hw) ⟨.ref a, H, I, rfl, q1 hw⟩
  · refine HT.getItem_tuple_cut ht hs pl pu (by rw [hn]; exact hw) ?_ (by rw [hn]; exact hz)
    rw [hn]
    exact new_tup I ((r.drop (HT.sIx xs.length 0 lo)).take (HT.sIx xs.length xs.length hi - HT.sIx xs.length 0 lo)) (Nat.le_trans (cutV_length xs lo hi) hz) q2
abbrev rSlU (K : PySem.W.Frag) : V → Option Int → Option Int → Hp → VK → Prop := fun x lo hi H Q => rSlL K x lo hi H Q ∨ (rSlP K x lo hi H Q ∨ rSlS x lo hi H Q)
theorem sl_U : SlR X (rSlU X.K) := sl_list.or (sl_tupP.or sl_str)
def mSl (ma : MX) (ml mh : MO) : MX := fun ρ st => (ma ρ st).bind fun x st1 => (ml ρ st1).bind fun lo st2 => (mh ρ st2).bind fun hi st3 => slA x lo hi st3
theorem me_slice {lo hi : Option Expr} {ml mh : MO} {p2 : Pos} (ha : PE X a (tE X W ma)) (hl : PO X lo (tO X W ml)) (hh : PO X hi (tO X W mh)) : PE X (.Subscript a (.Slice lo hi none p2) pos) (tE X W (mSl ma ml mh)) := (pe_slice sl_U ha hl hh).imp fun σ H Q ⟨φ, ρ, st, rs, re, h⟩ => by
  refine ⟨φ, ρ, st, rs, re, h.seq fun φ1 a x H1 st1 e1 rs1 rv1 h1 => ⟨φ1, ρ, st1, rs1, re.ext e1, h1.seq fun φ2 lo lo' H2 st2 e2 rs2 rv2 h2 => ⟨φ2, ρ, st2, rs2, (re.ext e1).ext e2, h2.seq fun φ3 hi hi' H3 st3 e3 rs3 rv3 h3 => ?_⟩⟩⟩
  have r := (rv1.ext e2).ext e3
  cases rv2
  cases rv3
  cases r with
  | @tup p xs ds q qs =>
    refine .inr (.inl ⟨p, xs, rfl, q.sq, fun hw => ?_, fun p2 o hd hp => ?_⟩)
    · rw [qs.length] at hw
      have h3' : Pst X.K X.w X.mg (RV X.K) (fun c d H' => W c d σ H') φ3 H3 (.ok (.tup ds) st3) Q := by
        rw [← cut_all hw]
        exact h3
      exact h3'.ok rs3 (.tup q qs)
    · exact h3 _ _ _ (ext_new hp) (rs3.new hp) (.newTup rs3 hd hp (cut_rv qs _ _))
  | @scr p xs ds q qs => exact .inl ⟨p, xs, rfl, q.sq, fun p2 hp => h3 _ _ _ (ext_alloc rs3 hp) (rs3.alloc hp (cut_rv qs _ _)) (.newLst rs3)⟩
  | str z =>
    unfold slA at h3
    simp only at h3
    split at h3
    · rename_i hz
      exact .inr (.inr ⟨z, rfl, hz, h3.ok rs3 (.str _)⟩)
    · exact (show False from h3).elim
  | @ref p r q =>
    unfold slA at h3
    simp only at h3
    cases e1 : st3[r]? with
    | none => rw [e1] at h3; exact h3.elim
    | some o =>
      cases o with
      | oth u => rw [e1] at h3; exact h3.elim
      | lst ds =>
        rw [e1] at h3
        simp only at h3
        obtain ⟨vs, h1, h1'⟩ := rs3.lst q e1
        exact .inl ⟨p, vs, rfl, .inl (.inl h1), fun p2 hp => h3 _ _ _ (ext_alloc rs3 hp) (rs3.alloc hp (cut_rv h1' _ _)) (.newLst rs3)⟩
  | _ => exact (show False from h3).elim
def CaS (X : Cx) (r : List V → Hp → VK → Prop) (g : List A → Store → R A) : Prop := ∀ (W : WH) (φ : List Addr) (H : Hp) (st : Store) (vs : List V) (as : List A) (Q : VK), RS X.K X.w X.mg φ H st → RVs X.K φ H vs as → Pst X.K X.w X.mg (RV X.K) W φ H (g as st) Q → r vs H Q
def mCa (g : List A → Store → R A) (ms : MA) : MX := fun ρ st => (ms ρ st).bind g
theorem ca_ok {r : List V → Hp → VK → Prop} {g : List A → Store → R A} (hg : CaS X r g) {σ : L2.St} {H : Hp} {Q : VK} (h : tE X W (mCa g ms) σ H Q) : tCB r (tA X W ms) σ H Q := by
  obtain ⟨φ, ρ, st, rs, re, h⟩ := h
  exact ⟨φ, ρ, st, rs, re, h.seq fun φ1 a x H1 st1 e1 rs1 rv1 h1 => hg _ _ _ _ _ _ _ rs1 rv1 h1⟩
theorem me_callB {id : String} {x : Str} {p : Pos} {r : List V → Hp → VK → Prop} {g : List A → Store → R A} (hc : CallR X (.builtin id) r) (hs : CaS X r g) (hv : bootBuiltins x = some (.builtin id)) (hm : X.mg x = none) (ha : PA X (e :: es) (tA X W ms)) (hg : Gl X x := by rfl) (hn : x ≠ "__name__" := by decide) (hdb : (x == ("__debug__" : Str)) = false := by decide)
    (he : starEach (e :: es) X.env = (false, eval e X.env) :: starEach es X.env := by rfl) (hpl : (backTo pos (starEach es X.env)).any (·.1) = false := by rfl) : PE X (.Call (.Name x p) (e :: es) [] pos) (tE X W (mCa g ms)) := (pe_callB hc hg hm hv ha hn hdb he hpl).imp fun _ _ _ h => ca_ok hs h
theorem me_callTy {T : String} {x : Str} {p : Pos} {r : List V → Hp → VK → Prop} {g : List A → Store → R A} (hc : CallR X (.type T) r) (hs : CaS X r g) (hv : bootBuiltins x = some (.type T)) (hm : X.mg x = none) (ha : PA X (e :: es) (tA X W ms)) (hg : Gl X x := by rfl) (hn : x ≠ "__name__" := by decide) (hdb : (x == ("__debug__" : Str)) = false := by decide)
    (he : starEach (e :: es) X.env = (false, eval e X.env) :: starEach es X.env := by rfl) (hpl : (backTo pos (starEach es X.env)).any (·.1) = false := by rfl) : PE X (.Call (.Name x p) (e :: es) [] pos) (tE X W (mCa g ms)) := (pe_callTy hc hg hm hv ha hn hdb he hpl).imp fun _ _ _ h => ca_ok hs h
def absA : List A → Store → R A
  | [.int i], st => .ok (.int (if i < 0 then -i else i)) st
  | _, _ => .bad
theorem one_rv {K : PySem.W.Frag} {φ : List Addr} {H : Hp} {vs : List V} {d : A} (q : RVs K φ H vs [d]) : ∃ v, vs = [v] ∧ RV K φ H v d := by
  cases q with
  | cons h t => cases t; exact ⟨_, rfl, h⟩
theorem two_rv {K : PySem.W.Frag} {φ : List Addr} {H : Hp} {vs : List V} {d d' : A} (q : RVs K φ H vs [d, d']) : ∃ v v', vs = [v, v'] ∧ RV K φ H v d ∧ RV K φ H v' d' := by
  cases q with
  | cons h t =>
    obtain ⟨v, rfl, h2⟩ := one_rv t
    exact ⟨_, _, rfl, h, h2⟩
theorem cs_abs : CaS X (fun xs H Q => ∃ i, xs = [.int i] ∧ Q (.int (if i < 0 then -i else i)) H) absA := fun W φ H st vs as Q rs rv h => by
  unfold absA at h
  split at h
  · obtain ⟨v, rfl, r⟩ := one_rv rv
    cases r
    exact ⟨_, rfl, h.ok rs (.int _)⟩
  · exact h.elim
def intA : List A → Store → R A
  | [.int i], st => .ok (.int i) st
  | [.bl k], st => .ok (.int (if k then 1 else 0)) st
  | _, _ => .bad
theorem cs_int : CaS X (fun xs H Q => (∃ i, xs = [.int i] ∧ Q (.int i) H) ∨ ∃ k, xs = [.bl k] ∧ Q (.int (if k then 1 else 0)) H) intA := fun W φ H st vs as Q rs rv h => by
  unfold intA at h
  split at h
  · obtain ⟨v, rfl, r⟩ := one_rv rv
    cases r
    exact .inl ⟨_, rfl, h.ok rs (.int _)⟩
  · obtain ⟨v, rfl, r⟩ := one_rv rv
    cases r
    exact .inr ⟨_, rfl, h.ok rs (.int _)⟩
  · exact h.elim
def intsOf : List A → Option (List Int)
  | [] => some []
  | .int i :: r => (intsOf r).map (i :: ·)
  | _ => none
theorem intsOf_eq : ∀ {ds : List A} {ns : List Int}, intsOf ds = some ns → ds = ns.map A.int
  | [], _, h => by cases h; rfl
  | .int i :: r, ns, h => by
    simp only [intsOf] at h
    cases e : intsOf r with
    | none => rw [e] at h; cases h
    | some ms =>
      rw [e] at h
      cases h
      rw [List.map_cons, intsOf_eq e]
  | .non :: _, _, h => by cases h
  | .bl _ :: _, _, h => by cases h
  | .str _ :: _, _, h => by cases h
  | .tup _ :: _, _, h => by cases h
  | .scr _ :: _, _, h => by cases h
  | .ref _ :: _, _, h => by cases h
theorem intsOf_map : ∀ ns : List Int, intsOf (ns.map A.int) = some ns
  | [] => rfl
  | n :: r => by rw [List.map_cons, intsOf, intsOf_map r]; rfl
def itemsL : A → Store → Option (List A)
  | .scr xs, _ => some xs
  | .ref r, st => match st[r]? with
    | some (.lst xs) => some xs
    | _ => none
  | _, _ => none
theorem itemsL_ok {K : PySem.W.Frag} {φ : List Addr} {H : Hp} {st : Store} {v : V} {a : A} {ds : List A} (rs : RS K w mg φ H st) (r : RV K φ H v a) (h : itemsL a st = some ds) : ∃ p xs, v = .ref p ∧ SqL K H p xs ∧ RVs K φ H xs ds := by
  cases r with
  | scr q qs => cases h; exact ⟨_, _, rfl, q.sq, qs⟩
  | @ref p i q =>
    unfold itemsL at h
    simp only at h
    cases e : st[i]? with
    | none => rw [e] at h; cases h
    | some o =>
      cases o with
      | oth u => rw [e] at h; cases h
      | lst xs =>
        rw [e] at h
        cases h
        obtain ⟨vs, h1, h2⟩ := rs.lst q e
        exact ⟨p, vs, rfl, .inl (.inl h1), h2⟩
  | _ => cases h
def itemsQ : A → Store → Option (List A)
  | .tup xs, _ => some xs
  | a, st => itemsL a st
theorem itemsQ_ok {K : PySem.W.Frag} {φ : List Addr} {H : Hp} {st : Store} {v : V} {a : A} {ds : List A} (rs : RS K w mg φ H st) (r : RV K φ H v a) (h : itemsQ a st = some ds) : ∃ p xs, v = .ref p ∧ (SqL K H p xs ∨ SqT K H p xs) ∧ RVs K φ H xs ds := by
  cases r with
  | tup q qs => cases h; exact ⟨_, _, rfl, .inr q.sq, qs⟩
  | scr q qs =>
    obtain ⟨p, xs, h1, h2, h3⟩ := itemsL_ok rs (.scr q qs) h
    exact ⟨p, xs, h1, .inl h2, h3⟩
  | ref q =>
    obtain ⟨p, xs, h1, h2, h3⟩ := itemsL_ok rs (.ref q) h
    exact ⟨p, xs, h1, .inl h2, h3⟩
  | _ => cases h
def maxL : List Int → Option Int
  | [] => none
  | n :: r => some (r.foldl max n)
def minL : List Int → Option Int
  | [] => none
  | n :: r => some (r.foldl min n)
def maxA : List A → Store → R A
  | [.int i, .int j], st => .ok (.int (if j > i then j else i)) st
  | [x], st => match (itemsL x st).bind intsOf with
    | some ns => match maxL ns with
      | some m => .ok (.int m) st
      | none => .bad
    | none => .bad
  | _, _ => .bad
def minA : List A → Store → R A
  | [.int i, .int j], st => .ok (.int (if j < i then j else i)) st
  | [x], st => match (itemsL x st).bind intsOf with
    | some ns => match minL ns with
      | some m => .ok (.int m) st
      | none => .bad
    | none => .bad
  | _, _ => .bad
theorem foldmax_mem : ∀ (r : List Int) (n : Int), r.foldl max n ∈ n :: r ∧ ∀ y ∈ n :: r, y ≤ r.foldl max n
  | [], n => ⟨List.mem_singleton_self n, fun y hy => by rw [List.mem_singleton.mp hy]; exact Int.le_refl _⟩
  | m :: r, n => by
    obtain ⟨h1, h2⟩ := foldmax_mem r (max n m)
    rw [List.foldl_cons]
    refine ⟨?_, fun y hy => ?_⟩
    · rcases List.mem_cons.mp h1 with h | h
      · rw [h]
        by_cases c : n ≤ m
        · rw [Int.max_eq_right c]; exact List.mem_cons_of_mem _ List.mem_cons_self
        · rw [Int.max_eq_left (by omega)]; exact List.mem_cons_self
      · exact List.mem_cons_of_mem _ (List.mem_cons_of_mem _ h)
    · have h3 := h2 _ List.mem_cons_self
      rcases List.mem_cons.mp hy with h | h
      · subst h; exact Int.le_trans (Int.le_max_left _ _) h3
      · rcases List.mem_cons.mp h with h | h
        · subst h; exact Int.le_trans (Int.le_max_right _ _) h3
        · exact h2 _ (List.mem_cons_of_mem _ h)
theorem foldmin_mem : ∀ (r : List Int) (n : Int), r.foldl min n ∈ n :: r ∧ ∀ y ∈ n :: r, r.foldl min n ≤ y
  | [], n => ⟨List.mem_singleton_self n, fun y hy => by rw [List.mem_singleton.mp hy]; exact Int.le_refl _⟩
  | m :: r, n => by
    obtain ⟨h1, h2⟩ := foldmin_mem r (min n m)
    rw [List.foldl_cons]
    refine ⟨?_, fun y hy => ?_⟩
    · rcases List.mem_cons.mp h1 with h | h
      · rw [h]
        by_cases c : n ≤ m
        · rw [Int.min_eq_left c]; exact List.mem_cons_self
        · rw [Int.min_eq_right (by omega)]; exact List.mem_cons_of_mem _ List.mem_cons_self
      · exact List.mem_cons_of_mem _ (List.mem_cons_of_mem _ h)
    · have h3 := h2 _ List.mem_cons_self
      rcases List.mem_cons.mp hy with h | h
      · subst h; exact Int.le_trans h3 (Int.min_le_left _ _)
      · rcases List.mem_cons.mp h with h | h
        · subst h; exact Int.le_trans h3 (Int.min_le_right _ _)
        · exact h2 _ (List.mem_cons_of_mem _ h)
abbrev rMaxU (K : PySem.W.Frag) : List V → Hp → VK → Prop := fun xs H Q => (∃ i j, xs = [.int i, .int j] ∧ Q (.int (if j > i then j else i)) H) ∨ rMax K xs H Q
abbrev rMinU (K : PySem.W.Frag) : List V → Hp → VK → Prop := fun xs H Q => (∃ i j, xs = [.int i, .int j] ∧ Q (.int (if j < i then j else i)) H) ∨ rMin K xs H Q
theorem call_maxU (hc : X.calm = true) : CallR X (.builtin "max") (rMaxU X.K) := CallR.or (call_max2 hc) (cr_max hc)
theorem call_minU (hc : X.calm = true) : CallR X (.builtin "min") (rMinU X.K) := CallR.or (call_min2 hc) (cr_min hc)
theorem cs_max : CaS X (rMaxU X.K) maxA := fun W φ H st vs as Q rs rv h => by
  unfold maxA at h
  split at h
  · obtain ⟨v, v', rfl, r, r'⟩ := two_rv rv
    cases r
    cases r'
    exact .inl ⟨_, _, rfl, h.ok rs (.int _)⟩
  · rename_i x
    obtain ⟨v, rfl, r⟩ := one_rv rv
    cases e : itemsL x st with
    | none => rw [e] at h; exact h.elim
    | some ds =>
      rw [e] at h
      simp only [Option.bind_some] at h
      cases e2 : intsOf ds with
      | none => rw [e2] at h; exact h.elim
      | some ns =>
        rw [e2] at h
        obtain ⟨p, xs, rfl, hq, hs⟩ := itemsL_ok rs r e
        rw [intsOf_eq e2] at hs
        rw [hs.ints] at hq
        cases ns with
        | nil => exact h.elim
        | cons n ns =>
          refine .inr ⟨p, n :: ns, rfl, hq, by simp, fun m hm hle => ?_⟩
          have ⟨h1, h2⟩ := foldmax_mem ns n
          have em : m = ns.foldl max n := Int.le_antisymm (h2 m hm) (hle _ h1)
          rw [em]
          exact Pst.ok (show Pst X.K X.w X.mg (RV X.K) W φ H (.ok (.int (ns.foldl max n)) st) Q from h) rs (.int _)
  · exact h.elim
theorem cs_min : CaS X (rMinU X.K) minA := fun W φ H st vs as Q rs rv h => by
  unfold minA at h
  split at h
  · obtain ⟨v, v', rfl, r, r'⟩ := two_rv rv
    cases r
    cases r'
    exact .inl ⟨_, _, rfl, h.ok rs (.int _)⟩
  · rename_i x
    obtain ⟨v, rfl, r⟩ := one_rv rv
    cases e : itemsL x st with
    | none => rw [e] at h; exact h.elim
    | some ds =>
      rw [e] at h
      simp only [Option.bind_some] at h
      cases e2 : intsOf ds with
      | none => rw [e2] at h; exact h.elim
      | some ns =>
        rw [e2] at h
        obtain ⟨p, xs, rfl, hq, hs⟩ := itemsL_ok rs r e
        rw [intsOf_eq e2] at hs
        rw [hs.ints] at hq
        cases ns with
        | nil => exact h.elim
        | cons n ns =>
          refine .inr ⟨p, n :: ns, rfl, hq, by simp, fun m hm hle => ?_⟩
          have ⟨h1, h2⟩ := foldmin_mem ns n
          have em : m = ns.foldl min n := Int.le_antisymm (hle _ h1) (h2 m hm)
          rw [em]
          exact Pst.ok (show Pst X.K X.w X.mg (RV X.K) W φ H (.ok (.int (ns.foldl min n)) st) Q from h) rs (.int _)
  · exact h.elim
def sumA : List A → Store → R A
  | [x], st => match (itemsL x st).bind intsOf with
    | some ns => .ok (.int ns.sum) st
    | none => .bad
  | _, _ => .bad
theorem cs_sum : CaS X (rSum X.K) sumA := fun W φ H st vs as Q rs rv h => by
  unfold sumA at h
  split at h
  · rename_i x
    obtain ⟨v, rfl, r⟩ := one_rv rv
    cases e : itemsL x st with
    | none => rw [e] at h; exact h.elim
    | some ds =>
      rw [e] at h
      simp only [Option.bind_some] at h
      cases e2 : intsOf ds with
      | none => rw [e2] at h; exact h.elim
      | some ns =>
        rw [e2] at h
        obtain ⟨p, xs, rfl, hq, hs⟩ := itemsL_ok rs r e
        rw [intsOf_eq e2] at hs
        rw [hs.ints] at hq
        exact ⟨p, ns, rfl, hq, h.ok rs (.int _)⟩
  · exact h.elim
def lenA : List A → Store → R A
  | [.str z], st => if z.length ≤ sizeLine then .ok (.int (z.length : Nat)) st else .bad
  | [x], st => match itemsQ x st with
    | some xs => .ok (.int (xs.length : Nat)) st
    | none => .bad
  | _, _ => .bad
abbrev rLenU (K : PySem.W.Frag) : List V → Hp → VK → Prop := fun xs H Q => ∃ x n, xs = [x] ∧ LenV K x H n ∧ Q (.int n) H
theorem cs_len : CaS X (rLenU X.K) lenA := fun W φ H st vs as Q rs rv h => by
  unfold lenA at h
  split at h
  · obtain ⟨v, rfl, r⟩ := one_rv rv
    cases r
    split at h
    · rename_i hz
      exact ⟨_, _, rfl, ⟨hz, rfl⟩, h.ok rs (.int _)⟩
    · exact h.elim
  · rename_i x _
    obtain ⟨v, rfl, r⟩ := one_rv rv
    cases e : itemsQ x st with
    | none => rw [e] at h; exact h.elim
    | some ds =>
      rw [e] at h
      obtain ⟨p, xs, rfl, hq, hs⟩ := itemsQ_ok rs r e
      have hl := hs.length
      rcases hq with hq | hq
      · exact ⟨_, _, rfl, .inl ⟨xs, hq, rfl⟩, by rw [hl]; exact h.ok rs (.int _)⟩
      · exact ⟨_, _, rfl, .inr ⟨xs, hq, rfl⟩, by rw [hl]; exact h.ok rs (.int _)⟩
  · exact h.elim
def listA : List A → Store → R A
  | [x], st => match itemsQ x st with
    | some xs => .ok (.ref st.length) (st ++ [.lst xs])
    | none => .bad
  | _, _ => .bad
theorem cs_list : CaS X (fun xs H Q => ∃ p ys, xs = [.ref p] ∧ (SqL X.K H p ys ∨ SqT X.K H p ys) ∧ ∀ l, H l = none → Q (.ref l) (upd H l (.lst ys))) listA := fun W φ H st vs as Q rs rv h => by
  unfold listA at h
  split at h
  · rename_i x
    obtain ⟨v, rfl, r⟩ := one_rv rv
    cases e : itemsQ x st with
    | none => rw [e] at h; exact h.elim
    | some ds =>
      rw [e] at h
      obtain ⟨p, xs, rfl, hq, hs⟩ := itemsQ_ok rs r e
      exact ⟨p, xs, rfl, hq, fun l hp => h _ _ _ (ext_alloc rs hp) (rs.alloc hp hs) (.newLst rs)⟩
  · exact h.elim
def tupleA : List A → Store → R A
  | [.tup xs], st => .ok (.tup xs) st
  | [x], st => match itemsL x st with
    | some xs => .ok (.tup xs) st
    | none => .bad
  | _, _ => .bad
def rTupP (K : PySem.W.Frag) : List V → Hp → VK → Prop := fun xs H Q => ∃ p ys, xs = [.ref p] ∧ ((SqL K H p ys ∧ NewT H ys Q) ∨ (SqT K H p ys ∧ Q (.ref p) H))
theorem call_tupleP : CallR X (.type "tuple") (rTupP X.K) := by
  intro pins s σ H xs us Q I r ⟨p, ys, ex, h⟩
  subst ex
  obtain ⟨u, rfl, rx⟩ := vals1 r
  cases rx
  rcases h with ⟨hq, q⟩ | ⟨hq, q⟩
  · obtain ⟨its, r', pl, hz⟩ := I.list hq
    have hn := r'.length
    exact call_tuple_list pl.isList (fun h' kp => new_tup (s := { s with heap := h' }) (I.kept (t' := s.toks) kp) r' hz q) (by rw [List.size_toArray]; omega)
  · obtain ⟨its, _, pl, _⟩ := I.tuple hq
    exact call_tuple_same pl ⟨.ref p, H, I, rfl, q⟩
theorem cs_tuple : CaS X (rTupP X.K) tupleA := fun W φ H st vs as Q rs rv h => by
  unfold tupleA at h
  split at h
  · obtain ⟨v, rfl, r⟩ := one_rv rv
    cases r with
    | tup q qs => exact ⟨_, _, rfl, .inr ⟨q.sq, h.ok rs (.tup q qs)⟩⟩
  · rename_i x _
    obtain ⟨v, rfl, r⟩ := one_rv rv
    cases e : itemsL x st with
    | none => rw [e] at h; exact h.elim
    | some ds =>
      rw [e] at h
      obtain ⟨p, xs, rfl, hq, hs⟩ := itemsL_ok rs r e
      exact ⟨p, xs, rfl, .inl ⟨hq, fun l o hd hp => h _ _ _ (ext_new hp) (rs.new hp) (.newTup rs hd hp hs)⟩⟩
  · exact h.elim
inductive Ty where
  | tup | str | int | bool | list
def Ty.nm : Ty → String
  | .tup => "tuple"
  | .str => "str"
  | .int => "int"
  | .bool => "bool"
  | .list => "list"
def Ty.isL : Ty → Bool
  | .list => true
  | _ => false
def isTy : Ty → A → Store → Option Bool
  | .tup, .tup _, _ => some true
  | .str, .str _, _ => some true
  | .int, .int _, _ => some true
  | .int, .bl _, _ => some true
  | .bool, .bl _, _ => some true
  | .list, .scr _, _ => some true
  | T, .ref r, st => match st[r]? with
    | some (.lst _) => some T.isL
    | _ => none
  | _, _, _ => some false
def isiA (T : Ty) (x : A) (st : Store) : R A := match isTy T x st with
  | some b => .ok (.bl b) st
  | none => .bad
theorem tyX_of {K : PySem.W.Frag} {φ : List Addr} {H : Hp} {st : Store} {v : V} {a : A} {T : Ty} {b : Bool} (rs : RS K w mg φ H st) (r : RV K φ H v a) (h : isTy T a st = some b) : ∃ t, TyX K H v (.type t) ∧ kitB t T.nm = some b := by
  cases r with
  | non => refine ⟨"NoneType", .base .non, ?_⟩; cases T <;> (cases h; decide +kernel)
  | bl k => refine ⟨"bool", .base (.bl k), ?_⟩; cases T <;> (cases h; decide +kernel)
  | int k => refine ⟨"int", .base (.int k), ?_⟩; cases T <;> (cases h; decide +kernel)
  | str k => refine ⟨"str", .base (.str k), ?_⟩; cases T <;> (cases h; decide +kernel)
  | tup q qs =>
    refine ⟨"tuple", ?_, by cases T <;> (cases h; decide +kernel)⟩
    rcases q with ⟨⟨o, _, q⟩, _⟩ | ⟨o, its, n, q1, q2, _⟩
    · exact .fTuple q
    · exact .kTuple q1 q2
  | scr q qs =>
    refine ⟨"list", ?_, by cases T <;> (cases h; decide +kernel)⟩
    rcases q with ⟨⟨o, q⟩, _⟩ | ⟨o, its, n, q1, q2, _⟩
    · exact .base (.frz q)
    · exact .kList q1 q2
  | @ref p i q =>
    have h' : (match st[i]? with | some (.lst _) => some T.isL | _ => none) = some b := by cases T <;> exact h
    cases e : st[i]? with
    | none => rw [e] at h'; cases h'
    | some o =>
      cases o with
      | oth u => rw [e] at h'; cases h'
      | lst ds =>
        rw [e] at h'
        obtain ⟨xs, h1, _⟩ := rs.lst q e
        refine ⟨"list", .base (.lst h1), ?_⟩
        cases T <;> (have hb := Option.some.inj h'; subst hb; decide +kernel)
theorem me_isi (T : Ty) {p p2 pos : Pos} {x n : Str} (ha : PE X a (tE X W ma)) (hx : x = "isinstance") (hn : n = Str.ofString T.nm) (hm : X.mg x = none) (hm2 : X.mg n = none) (hv2 : bootBuiltins n = some (.type T.nm)) (hg : Gl X x := by rfl) (hg2 : Gl X n := by rfl) (hn1 : n ≠ "__name__" := by decide) (hd1 : (n == ("__debug__" : Str)) = false := by decide)
    (he2 : starEach [.Name n p2] X.env = (false, eval (.Name n p2) X.env) :: starEach [] X.env := by rfl) (he : starEach (a :: [.Name n p2]) X.env = (false, eval a X.env) :: starEach [.Name n p2] X.env := by rfl) (hpl : (backTo pos (starEach [.Name n p2] X.env)).any (·.1) = false := by rfl) :
    PE X (.Call (.Name x p) [a, .Name n p2] [] pos) (tE X W (mUn (isiA T) ma)) := by
  subst hx
  refine (pe_callB call_isi hg hm PyProof.Rows.boot_isinstance (pa_cons ha (pa_cons (pe_bltn (v := .ty T.nm) hg2 hm2 hv2 rfl hn1 hd1) pa_nil he2) he) (by decide) (by decide) he hpl).imp fun σ H Q ⟨φ, ρ, st, rs, re, h⟩ => ?_
  refine ⟨φ, ρ, st, rs, re, h.seq fun φ1 d v H1 st1 e1 rs1 rv1 h1 => ?_⟩
  unfold isiA at h1
  cases e : isTy T d st1 with
  | none => rw [e] at h1; exact h1.elim
  | some b =>
    rw [e] at h1
    obtain ⟨t, h2, h3⟩ := tyX_of rs1 rv1 e
    exact ⟨v, .ty T.nm, .type t, .type T.nm, b, rfl, .ty _, h2, kit_ty h3, h1.ok rs1 (.bl b)⟩
def isL : A → Store → Bool
  | .ref r, st => match st[r]? with
    | some (.lst _) => true
    | _ => false
  | _, _ => false
theorem isL_ok {K : PySem.W.Frag} {φ : List Addr} {H : Hp} {st : Store} {v : V} {a : A} (rs : RS K w mg φ H st) (r : RV K φ H v a) (h : isL a st = true) : tyV K "list" v H := by
  cases r with
  | @ref p i q =>
    unfold isL at h
    simp only at h
    cases e : st[i]? with
    | none => rw [e] at h; cases h
    | some o =>
      cases o with
      | oth u => rw [e] at h; cases h
      | lst ds =>
        obtain ⟨xs, h1, _⟩ := rs.lst q e
        exact .inl ⟨rfl, xs, .inl (.inl h1)⟩
  | _ => cases h
def MtS (X : Cx) (r : V → List V → Hp → VK → Prop) (g : A → List A → Store → R A) : Prop := ∀ (W : WH) (φ : List Addr) (H : Hp) (st : Store) (v : V) (a : A) (vs : List V) (as : List A) (Q : VK), RS X.K X.w X.mg φ H st → RV X.K φ H v a → RVs X.K φ H vs as → Pst X.K X.w X.mg (RV X.K) W φ H (g a as st) Q → r v vs H Q
def mBm (g : A → List A → Store → R A) (mo : MX) (ms : MA) : MX := fun ρ st => (mo ρ st).bind fun x st1 => if isL x st1 = true then (ms ρ st1).bind fun xs st2 => g x xs st2 else .bad
theorem me_bm {o : Expr} {mo : MX} {name : Str} {id : String} {apos : Pos} {r : V → List V → Hp → VK → Prop} {g : A → List A → Store → R A} (slot : Slot "list" name id) (hty : typeOf (.builtin id) = pure (.type "method_descriptor")) (hm : MtR X id r) (hs : MtS X r g) (ho : PE X o (tE X W mo)) (ha : PA X (e :: es) (tA X W ms))
    (hbase : attributeBase o name X.env (eval o X.env) = eval o X.env := by rfl)
    (hfew : ((backTo pos (starEach (e :: es) X.env)).all (fun x => !x.1) && (backToKw pos (keywordEach [] X.env)).all (fun x => x.1.isSome)
      && decide ((e :: es).length + ([] : List Keyword).length + (if ([] : List Keyword).isEmpty then 0 else 1) < 30)) = true := by rfl)
    (hline : (apos.endLine == pos.line) = true := by rfl) (he : starEach (e :: es) X.env = (false, eval e X.env) :: starEach es X.env := by rfl) (hpl : (backTo pos (starEach es X.env)).any (·.1) = false := by rfl) :
    PE X (.Call (.Attribute o name apos) (e :: es) [] pos) (tE X W (mBm g mo ms)) := by
  refine (pe_bm PySem.F.plainAttrs_list slot hty hm ho ha hbase hfew hline he hpl).imp fun σ H Q ⟨φ, ρ, st, rs, re, h⟩ => ?_
  refine ⟨φ, ρ, st, rs, re, h.seq fun φ1 d v H1 st1 e1 rs1 rv1 h1 => ?_⟩
  cases c : isL d st1 with
  | false => rw [if_neg (by rw [c]; exact Bool.false_ne_true)] at h1; exact h1.elim
  | true =>
    rw [if_pos c] at h1
    exact ⟨isL_ok rs1 rv1 c, φ1, ρ, st1, rs1, re.ext e1, h1.seq fun φ2 ds vs H2 st2 e2 rs2 rv2 h2 => hs _ _ _ _ _ _ _ _ _ rs2 (rv1.ext e2) rv2 h2⟩
def appendA : A → List A → Store → R A
  | .ref r, [x], st => match st[r]? with
    | some (.lst xs) => if xs.length < sizeLine then .ok .non (st.set r (.lst (xs ++ [x]))) else .bad
    | _ => .bad
  | _, _, _ => .bad
theorem ms_append : MtS X rAppend appendA := fun W φ H st v a vs as Q rs ra rv h => by
  unfold appendA at h
  split at h
  · rename_i r x
    obtain ⟨y, rfl, ry⟩ := one_rv rv
    cases ra with
    | @ref p _ q =>
      cases e : st[r]? with
      | none => rw [e] at h; exact h.elim
      | some o =>
        cases o with
        | oth u => rw [e] at h; exact h.elim
        | lst ds =>
          rw [e] at h
          simp only at h
          obtain ⟨xs, h1, h2⟩ := rs.lst q e
          split at h
          · rename_i hz
            obtain ⟨e2, rs2⟩ := rs.write q e (h2.app (.cons ry .nil))
            exact ⟨p, xs, y, rfl, rfl, h1, by rw [h2.length]; exact hz, h _ _ _ e2 rs2 .non⟩
          · exact h.elim
  · exact h.elim
def extendA : A → List A → Store → R A
  | .ref r, [.ref q], st => match st[r]?, st[q]? with
    | some (.lst xs), some (.lst ys) => if xs.length + ys.length ≤ sizeLine then .ok .non (st.set r (.lst (xs ++ ys))) else .bad
    | _, _ => .bad
  | .ref r, [.tup ys], st => match st[r]? with
    | some (.lst xs) => if xs.length + ys.length ≤ sizeLine then .ok .non (st.set r (.lst (xs ++ ys))) else .bad
    | _ => .bad
  | _, _, _ => .bad
theorem list_extend_tupW (l : Addr) (items : Array Value) (n : Nat) (b : Addr) (items2 : Array Value) (n2 : Nat) (dd : Option Addr) (sl : Array (Option Value)) (hs0 : ¬(!items.isEmpty && Builtin.List.listTooLong (items.size + items2.size)) = true) (hs1 : items.size ≤ sizeLine) (hs2 : items.size + items2.size ≤ sizeLine + 1) :
    Meets (Builtin.«list.extend» ⟨[.ref l, .ref b], []⟩) (fun _ R s => s.heap.get? l = some { cls := .type "list", dict := none, data := .seq items n, slots := #[] } ∧ s.heap.get? b = some { cls := .type "tuple", dict := dd, data := .seq items2 n2, slots := sl } ∧ R (.ok (.ret Value.none)) { s with heap := s.heap.update l (Obj.mapSeq fun x => x ++ items2), toks := s.toks }) :=
  .of_wp fun prog w A R s h => by
    obtain ⟨hp, g, d, tk, os⟩ := s; obtain ⟨hl, hb, h⟩ := h; have f1 := AutoSeq1.idx_int; have f2 := AutoSeq1.sub_tuple_tuple; have f3 := AutoSeq1.sub_list_list; have f4 := AutoSeq1.sub_tuple_list; have f5 := AutoSeq1.sub_list_tuple;
    have hz' : (items ++ items2).size ≤ sizeLine + 1 := by rw [Array.size_append]; exact hs2
    wp_walk using (wpAny_updateSeq hl rfl (hz := hs1) (_hz' := hz')), wpAny_loadPart' hl, wpAny_loadPart' hb; exact ⟨_, rfl, h⟩
def rExtendT (K : PySem.W.Frag) : V → List V → Hp → VK → Prop := fun x vs H Q => ∃ l b xs zs, x = .ref l ∧ vs = [.ref b] ∧ H l = some (.lst xs) ∧ SqT K H b zs ∧ xs.length + zs.length ≤ sizeLine ∧ Q .non (upd H l (.lst (xs ++ zs)))
theorem mt_extendT : MtM X "list.extend" (rExtendT X.K) := by
  intro pins s σ H x vs v us Q I rx rv h
  obtain ⟨l, b, xs, zs, rfl, rfl, hH, hB, hz, q⟩ := h
  cases rx
  obtain ⟨u, rfl, ru⟩ := rv.one
  cases ru
  obtain ⟨z, its, n, r, hl, e⟩ := I.lstM hH
  obtain ⟨its2, r2, ⟨⟨cls, dd, data, sl⟩, e2, hc, n2, hd⟩, hs⟩ := I.tuple hB
  simp only at hc hd
  subst hc hd
  have hl2 : its2.length = zs.length := r2.length.symm
  have hsz : its.toArray.size + its2.toArray.size ≤ sizeLine := by rw [List.size_toArray, List.size_toArray]; omega
  have hlong : ¬ (!its.toArray.isEmpty && Builtin.List.listTooLong (its.toArray.size + its2.toArray.size)) = true := by
    rw [notLongL hsz, Bool.and_false]
    exact Bool.false_ne_true
  refine call_meets F.slot_list_extend ⟨_, e, rfl⟩ F.entry_list_extend (F.args_list_extend_2 _ _)
    (list_extend_tupW l its.toArray n b its2.toArray n2 dd sl hlong (by rw [List.size_toArray]; omega) (by omega)) ⟨e, e2, ?_⟩
  refine ⟨.non, _, I.lset (its' := its ++ its2) hH e (by simp) (r.append r2) ?_, rfl, q⟩
  rw [List.length_append]
  omega
abbrev rExtendU (K : PySem.W.Frag) : V → List V → Hp → VK → Prop := fun x vs H Q => rExtend x vs H Q ∨ rExtendT K x vs H Q
theorem mt_extendU : MtM X "list.extend" (rExtendU X.K) := fun pins s σ H x vs v us Q I rx rv h => h.elim (mt_extend pins s σ H x vs v us Q I rx rv) (mt_extendT pins s σ H x vs v us Q I rx rv)
theorem ms_extend : MtS X (rExtendU X.K) extendA := fun W φ H st v a vs as Q rs ra rv h => by
  unfold extendA at h
  split at h
  · rename_i r x
    obtain ⟨y, rfl, ry⟩ := one_rv rv
    cases ra with
    | @ref p _ q =>
      cases ry with
      | @ref p2 _ q2 =>
        cases e : st[r]? with
        | none => rw [e] at h; exact h.elim
        | some o =>
          cases o with
          | oth u => rw [e] at h; exact h.elim
          | lst ds =>
            cases e' : st[x]? with
            | none => rw [e, e'] at h; exact h.elim
            | some o' =>
              cases o' with
              | oth u => rw [e, e'] at h; exact h.elim
              | lst es =>
                rw [e, e'] at h
                simp only at h
                obtain ⟨xs, h1, h2⟩ := rs.lst q e
                obtain ⟨ys, h1', h2'⟩ := rs.lst q2 e'
                split at h
                · rename_i hz
                  obtain ⟨e2, rs2⟩ := rs.write q e (h2.app h2')
                  exact .inl ⟨p, p2, xs, ys, rfl, rfl, h1, h1', by rw [h2.length, h2'.length]; exact hz, h _ _ _ e2 rs2 .non⟩
                · exact h.elim
  · rename_i r ys
    obtain ⟨y, rfl, ry⟩ := one_rv rv
    cases ra with
    | @ref p _ q =>
      cases ry with
      | @tup p2 zs _ q2 qs =>
        cases e : st[r]? with
        | none => rw [e] at h; exact h.elim
        | some o =>
          cases o with
          | oth u => rw [e] at h; exact h.elim
          | lst ds =>
            rw [e] at h
            simp only at h
            obtain ⟨xs, h1, h2⟩ := rs.lst q e
            split at h
            · rename_i hz
              obtain ⟨e2, rs2⟩ := rs.write q e (h2.app qs)
              exact .inr ⟨p, p2, xs, zs, rfl, rfl, h1, q2.sq, by rw [h2.length, qs.length]; exact hz, h _ _ _ e2 rs2 .non⟩
            · exact h.elim
  · exact h.elim
abbrev MF := List A → Store → R A
def spM (K : PySem.W.Frag) (w : World) (mg : Str → Option Value) (m : MF) : Sp := fun vs H Q E => ∃ φ as st, RS K w mg φ H st ∧ RVs K φ H vs as ∧ Pst K w mg (RV K) E φ H (m as st) Q
structure Cal (P : Program) (w : World) (K : PySem.W.Frag) (mg : Str → Option Value) (base : Heap) (x : Str) (k : Nat) (m : MF) : Prop where
  ex : ∃ (f : Addr) (fd : FuncData) (ps : List Str), mg x = some (.ref f) ∧ PySem.W.keepIn K (.ref f) = true ∧ Binds K fd ps [] ∧ FnOk P w K mg base (L2.CX P w) k f fd ps (spM K w mg m)
def mCall (m : MF) (ms : MA) : MX := fun ρ st => (ms ρ st).bind m
theorem me_call {k : Nat} {m : MF} {x : Str} {p : Pos} (C : Cal X.prog X.w X.K X.mg X.base x k m) (hr : Room k X.A) (tk : Takes X W) (ha : PA X (e :: es) (tA X W ms)) (hg : Gl X x := by rfl)
    (hdb : (x == ("__debug__" : Str)) = false := by decide) (he : starEach (e :: es) X.env = (false, eval e X.env) :: starEach es X.env := by rfl) (hpl : (backTo pos (starEach es X.env)).any (·.1) = false := by rfl) :
    PE X (.Call (.Name x p) (e :: es) [] pos) (tE X W (mCall m ms)) := by
  obtain ⟨f, fd, ps, hm, hk, hb, F⟩ := C.ex
  refine (pe_callS F hr hg hm hk hb (E := WE W) (fun σ => passAt tk σ) ha hdb he hpl).imp fun σ H Q ⟨φ, ρ, st, rs, re, h⟩ => ?_
  exact ⟨φ, ρ, st, rs, re, h.seq fun φ1 ds vs H1 st1 e1 rs1 rv1 h1 => ⟨φ1, ds, st1, rs1, rv1, h1⟩⟩
end
end ML
namespace ML
open PySem PySem.Spec L2
inductive SR where
  | nx (ρ : Env) (st : Store) | bk (ρ : Env) (st : Store) | ct (ρ : Env) (st : Store) | rt (a : A) (st : Store) | er (e : Er) (ρ : Env) (st : Store) | bad
abbrev MS := Env → Store → SR
def SPst (K : PySem.W.Frag) (w : World) (mg : Str → Option Value) (W : WX) (φ : List Addr) (H : Hp) (r : SR) (D : Ends) : Prop := match r with
  | .nx ρ st => ∀ φ' σ' H', Ext φ H φ' H' → RS K w mg φ' H' st → RE K φ' H' σ' ρ → D.nx σ' H'
  | .bk ρ st => ∀ φ' σ' H', Ext φ H φ' H' → RS K w mg φ' H' st → RE K φ' H' σ' ρ → D.bk σ' H'
  | .ct ρ st => ∀ φ' σ' H', Ext φ H φ' H' → RS K w mg φ' H' st → RE K φ' H' σ' ρ → D.ct σ' H'
  | .rt a st => ∀ φ' v H', Ext φ H φ' H' → RS K w mg φ' H' st → RV K φ' H' v a → D.rt v H'
  | .er e ρ st => ∀ φ' c d σ' H', Ext φ H φ' H' → RS K w mg φ' H' st → RE K φ' H' σ' ρ → RErr K mg φ' H' c d e → W c d σ' H'
  | .bad => False
def tS (X : Cx) (W : WX) (m : MS) : TS := fun D σ H => ∃ φ ρ st, RS X.K X.w X.mg φ H st ∧ RE X.K φ H σ ρ ∧ SPst X.K X.w X.mg W φ H (m ρ st) D
def R.toS {α : Type} (r : R α) (ρ : Env) (f : α → Store → SR) : SR := match r with
  | .ok a st => f a st
  | .er e st => .er e ρ st
  | .bad => .bad
section
variable {K : PySem.W.Frag} {w : World} {φ φ' : List Addr} {H H' : Hp} {st : Store} {mg : Str → Option Value} {α β : Type} {W : WX} {D : Ends} {σ : L2.St} {ρ : Env}
theorem SPst.mono {r : SR} (h : SPst K w mg W φ H r D) (e : Ext φ H φ' H') : SPst K w mg W φ' H' r D := by
  cases r with
  | nx ρ st => exact fun φ2 σ2 H2 e2 s q => h φ2 σ2 H2 (e.trans e2) s q
  | bk ρ st => exact fun φ2 σ2 H2 e2 s q => h φ2 σ2 H2 (e.trans e2) s q
  | ct ρ st => exact fun φ2 σ2 H2 e2 s q => h φ2 σ2 H2 (e.trans e2) s q
  | rt a st => exact fun φ2 v H2 e2 s q => h φ2 v H2 (e.trans e2) s q
  | er x ρ st => exact fun φ2 c d σ2 H2 e2 s q => h φ2 c d σ2 H2 (e.trans e2) s q
  | bad => exact h
theorem SPst.exp {Rl : List Addr → Hp → β → α → Prop} {r : R α} {f : α → Store → SR} {Q1 : β → Hp → Prop} (h : SPst K w mg W φ H (r.toS ρ f) D) (re : RE K φ H σ ρ)
    (k : ∀ φ1 a x H1 st1, Ext φ H φ1 H1 → RS K w mg φ1 H1 st1 → Rl φ1 H1 x a → SPst K w mg W φ1 H1 (f a st1) D → Q1 x H1) : Pst K w mg Rl (fun c d H' => W c d σ H') φ H r Q1 := by
  cases r with
  | ok a st => exact fun φ1 v H1 e s q => k φ1 a v H1 st e s q (SPst.mono h e)
  | er x st => exact fun φ1 c d H1 e s q => h φ1 c d σ H1 e s (re.ext e) q
  | bad => exact h
end
section
variable {X : Cx} {W : WX} {s : Stmt} {ss rest : List Stmt} {t t' : TS} {a b e : Expr} {ma mb : MX} {pos : Pos} {m m1 m2 : MS}
theorem _root_.L2.PS.imp (h : PS X s t) (k : ∀ D σ H, t' D σ H → t D σ H) : PS X s t' := ⟨fun pins s σ H D I q => h.run pins s σ H D I (k _ _ _ q)⟩
theorem _root_.L2.PSs.imp (h : PSs X ss t) (k : ∀ D σ H, t' D σ H → t D σ H) : PSs X ss t' := ⟨fun pins s σ H D I q => h.run pins s σ H D I (k _ _ _ q)⟩
def mSeq (m1 m2 : MS) : MS := fun ρ st => match m1 ρ st with
  | .nx ρ1 st1 => m2 ρ1 st1
  | r => r
def mNext : MS := fun ρ st => .nx ρ st
theorem mss_nil : PSs X [] (tS X W mNext) := pss_nil.imp fun D σ H ⟨φ, ρ, st, rs, re, h⟩ => h φ σ H .refl rs re
theorem mss_cons (h1 : PS X s (tS X W m1)) (h2 : PSs X rest (tS X W m2)) : PSs X (s :: rest) (tS X W (mSeq m1 m2)) := (pss_cons h1 h2).imp fun D σ H ⟨φ, ρ, st, rs, re, h⟩ => by
  refine ⟨φ, ρ, st, rs, re, ?_⟩
  unfold mSeq at h
  cases e : m1 ρ st with
  | nx ρ1 st1 =>
    rw [e] at h
    exact fun φ' σ' H' ex rs' re' => ⟨φ', ρ1, st1, rs', re', SPst.mono h ex⟩
  | bk ρ1 st1 => rw [e] at h; exact h
  | ct ρ1 st1 => rw [e] at h; exact h
  | rt a st1 => rw [e] at h; exact h
  | er x ρ1 st1 => rw [e] at h; exact h
  | bad => rw [e] at h; exact h
theorem mss_one (h1 : PS X s (tS X W m)) : PSs X [s] (tS X W m) := pss_one h1
def mExpr (ma : MX) : MS := fun ρ st => (ma ρ st).toS ρ fun _ st1 => .nx ρ st1
theorem ms_expr (ha : PE X a (tE X W ma)) (hs : swapsWith a none pos.line X.env = pure false := by rfl) : PS X (.Expr a pos) (tS X W (mExpr ma)) := (ps_expr ha hs).imp fun D σ H ⟨φ, ρ, st, rs, re, h⟩ =>
  ⟨φ, ρ, st, rs, re, h.exp re fun φ1 a x H1 st1 e1 rs1 rv1 h1 => h1 φ1 σ H1 .refl rs1 (re.ext e1)⟩
def mRet (ma : MX) : MS := fun ρ st => (ma ρ st).toS ρ fun a st1 => .rt a st1
theorem ms_ret (ha : PE X a (tE X W ma)) : PS X (.Return (some a) pos) (tS X W (mRet ma)) := (ps_ret ha).imp fun D σ H ⟨φ, ρ, st, rs, re, h⟩ =>
  ⟨φ, ρ, st, rs, re, h.exp re fun φ1 a x H1 st1 e1 rs1 rv1 h1 => h1 φ1 x H1 .refl rs1 rv1⟩
def mIfS (c : MT) (m1 m2 : MS) : MS := fun ρ st => (c ρ st).toS ρ fun b st1 => if b = true then m1 ρ st1 else m2 ρ st1
theorem ms_if {c : Expr} {mc : MT} {s1 s2 : List Stmt} (hc : PT X c (tT X W mc)) (h1 : PSs X s1 (tS X W m1)) (h2 : PSs X s2 (tS X W m2)) : PS X (.If c s1 s2 pos) (tS X W (mIfS mc m1 m2)) := (ps_if hc h1 h2).imp fun D σ H ⟨φ, ρ, st, rs, re, h⟩ => by
  refine ⟨φ, ρ, st, rs, re, h.exp re fun φ1 b x H1 st1 e1 rs1 rv1 h1 => ?_⟩
  subst rv1
  cases x with
  | true => exact iteT ⟨φ1, ρ, st1, rs1, re.ext e1, h1⟩
  | false => exact iteF ⟨φ1, ρ, st1, rs1, re.ext e1, h1⟩
def RVw (K : PySem.W.Frag) (φ : List Addr) (H : Hp) : Bool → V → A → Prop
  | false, v, a => RV K φ H v a
  | true, v, a => ∃ p xs ds, v = .ref p ∧ a = .tup ds ∧ SqT K H p xs ∧ RVs K φ H xs ds
inductive Tg where
  | one (i : Nat) | many (is : List Nat) | nest (i : Nat) (is : List Nat)
def setsV (σ : L2.St) : List Nat → List V → L2.St
  | i :: is, v :: vs => setsV (σ.set i (some v)) is vs
  | _, _ => σ
def setsA (ρ : Env) : List Nat → List A → Env
  | i :: is, v :: vs => setsA (ρ.set i (some v)) is vs
  | _, _ => ρ
def gNames : List Nat → TGs
  | [] => gNil
  | i :: is => gCons (gName i) (gNames is)
def gOf (K : PySem.W.Frag) : Tg → TG
  | .one i => gName i
  | .many is => gTup K is.length (gNames is)
  | .nest i is => gTup K 2 (gCons (gName i) (gCons (gTup K is.length (gNames is)) gNil))
def asgT : Tg → A → Env → Store → Option Env
  | .one i, a, ρ, _ => some (ρ.set i (some a))
  | .many is, .tup as, ρ, _ => if as.length = is.length then some (setsA ρ is as) else none
  | .many _, _, _, _ => none
  | .nest i is, .tup [a, .tup bs], ρ, _ => if bs.length = is.length then some (setsA (ρ.set i (some a)) is bs) else none
  | .nest _ _, _, _, _ => none
def Tg.slots : Tg → List Nat
  | .one i => [i]
  | .many is => is
  | .nest i is => i :: is
theorem gNames_run {Q : L2.St → Hp → Prop} {H : Hp} : ∀ {is : List Nat} {vs : List V} {σ : L2.St}, vs.length = is.length → Q (setsV σ is vs) H → gNames is vs σ H Q
  | [], [], σ, _, h => ⟨rfl, h⟩
  | i :: is, v :: vs, σ, hl, h => ⟨v, vs, rfl, gNames_run (by simpa using hl) h⟩
  | [], _ :: _, _, hl, _ => by simp at hl
  | _ :: _, [], _, hl, _ => by simp at hl
theorem RE.sets {K : PySem.W.Frag} {φ : List Addr} {H : Hp} : ∀ {is : List Nat} {vs : List V} {as : List A} {σ : L2.St} {ρ : Env}, RE K φ H σ ρ → RVs K φ H vs as → RE K φ H (setsV σ is vs) (setsA ρ is as)
  | [], _, _, _, _, r, q => by cases q <;> exact r
  | _ :: _, _, _, _, _, r, .nil => r
  | i :: is, _, _, _, _, r, .cons h q => RE.sets (is := is) (r.set h i) q
theorem asgT_nest {i : Nat} {is : List Nat} {d : A} {ρ ρ' : Env} {st : Store} (h : asgT (.nest i is) d ρ st = some ρ') : ∃ a bs, d = .tup [a, .tup bs] ∧ bs.length = is.length ∧ ρ' = setsA (ρ.set i (some a)) is bs := by
  cases d with
  | tup ds =>
    match ds with
    | [] => cases h
    | [_] => cases h
    | [a, b] =>
      cases b with
      | tup bs =>
        unfold asgT at h
        simp only at h
        split at h
        · rename_i hl
          cases h
          exact ⟨a, bs, rfl, hl, rfl⟩
        · cases h
      | _ => cases h
    | _ :: b :: _ :: _ => cases b <;> first | (cases h; done) | simp [asgT] at h
  | _ => cases h
theorem gOf_run {K : PySem.W.Frag} {φ : List Addr} {H : Hp} {tg : Tg} {v : V} {d : A} {σ : L2.St} {ρ ρ' : Env} {st : Store} {Q : L2.St → Hp → Prop} (r : RV K φ H v d) (re : RE K φ H σ ρ) (h : asgT tg d ρ st = some ρ')
    (k : ∀ xs, RE K φ H (setsV σ tg.slots xs) ρ' → Q (setsV σ tg.slots xs) H) : gOf K tg v σ H Q := by
  cases tg with
  | one i =>
    cases h
    exact k [v] (re.set r i)
  | many is =>
    cases r with
    | @tup p xs ds q qs =>
      unfold asgT at h
      simp only at h
      split at h
      · rename_i hl
        cases h
        have hl' : xs.length = is.length := by rw [qs.length]; exact hl
        exact ⟨p, xs, rfl, q.sq, hl', gNames_run hl' (k xs (re.sets qs))⟩
      · cases h
    | _ => cases h
  | nest i is =>
    obtain ⟨a, bs, rfl, hl, rfl⟩ := asgT_nest h
    cases r with
    | @tup p xs ds q qs =>
      cases qs with
      | cons r1 qs2 =>
        cases qs2 with
        | cons r2 qs3 =>
          cases qs3
          cases r2 with
          | @tup p2 ys ds2 q2 qq =>
            have hl' : ys.length = is.length := by rw [qq.length]; exact hl
            refine ⟨p, _, rfl, q.sq, rfl, _, _, rfl, _, _, rfl, ⟨p2, ys, rfl, q2.sq, hl', gNames_run hl' ⟨rfl, ?_⟩⟩⟩
            exact k (_ :: ys) ((re.set r1 i).sets qq)
def Tg.isOne : Tg → Bool
  | .one _ => true
  | _ => false
theorem gOf_runB {K : PySem.W.Frag} {φ : List Addr} {H : Hp} {wk : Bool} {tg : Tg} {v : V} {d : A} {σ : L2.St} {ρ ρ' : Env} {st : Store} {Q : L2.St → Hp → Prop} (hw : wk = false ∨ tg.isOne = false) (r : RVw K φ H wk v d) (re : RE K φ H σ ρ) (h : asgT tg d ρ st = some ρ')
    (k : ∀ xs, RE K φ H (setsV σ tg.slots xs) ρ' → Q (setsV σ tg.slots xs) H) : gOf K tg v σ H Q := by
  cases wk with
  | false => exact gOf_run r re h k
  | true =>
    obtain ⟨p, xs, ds, rfl, rfl, q, qs⟩ := r
    cases tg with
    | one i => exact hw.elim (fun z => by cases z) fun z => by cases z
    | many is =>
      unfold asgT at h
      simp only at h
      split at h
      · rename_i hl
        cases h
        have hl' : xs.length = is.length := by rw [qs.length]; exact hl
        exact ⟨p, xs, rfl, q, hl', gNames_run hl' (k xs (re.sets qs))⟩
      · cases h
    | nest i is =>
      obtain ⟨a, bs, e, hl, rfl⟩ := asgT_nest h
      cases e
      cases qs with
      | cons r1 qs2 =>
        cases qs2 with
        | cons r2 qs3 =>
          cases qs3
          cases r2 with
          | @tup p2 ys ds2 q2 qq =>
            have hl' : ys.length = is.length := by rw [qq.length]; exact hl
            refine ⟨p, _, rfl, q, rfl, _, _, rfl, _, _, rfl, ⟨p2, ys, rfl, q2.sq, hl', gNames_run hl' ⟨rfl, ?_⟩⟩⟩
            exact k (_ :: ys) ((re.set r1 i).sets qq)
theorem mg_one {i : Nat} {x : Str} (hN : X.N.Nodup) (hi : X.N[i]? = some x := by rfl) (hx : Loc X.env.scope x := by first | exact Or.inl rfl | exact Or.inr rfl) (hf : X.fn x = true ∨ X.env.scope.names.lookup x = some .local := by first | exact .inl rfl | exact .inr rfl | assumption) : PG X (.Name x pos) (gOf X.K (.one i)) := pg_name hN hi hx hf
theorem mgs_nil : PGs X [] (gNames []) := pgs_nil
theorem mgs_cons {i : Nat} {is : List Nat} {es : List Expr} (h1 : PG X e (gOf X.K (.one i))) (h2 : PGs X es (gNames is)) (hs : (assignEach (e :: es) X.env).map (·.2) = assign e X.env :: (assignEach es X.env).map (·.2) := by rfl) : PGs X (e :: es) (gNames (i :: is)) := pgs_cons h1 h2 hs
theorem mg_many {es : List Expr} {k : Nat} {is : List Nat} (h : PGs X es (gNames is)) (hn : (assignEach es X.env).length = is.length := by rfl) (hc : X.calm = true := by rfl) (hst : (assignEach es X.env).findIdx? (·.1) = none := by rfl) : PG X (.Tuple es k pos) (gOf X.K (.many is)) := pg_tup hc h hn hst
def mAsg (tg : Tg) (ma : MX) : MS := fun ρ st => (ma ρ st).toS ρ fun d st1 => match asgT tg d ρ st1 with
  | some ρ' => .nx ρ' st1
  | none => .bad
theorem asg_ok {tg : Tg} {D : Ends} {σ : L2.St} {H : Hp} (h : tS X W (mAsg tg ma) D σ H) : tAsg (tE X W ma) (gOf X.K tg) D σ H := by
  obtain ⟨φ, ρ, st, rs, re, h⟩ := h
  refine ⟨φ, ρ, st, rs, re, h.exp re fun φ1 d x H1 st1 e1 rs1 rv1 h1 => ?_⟩
  cases q : asgT tg d ρ st1 with
  | none => simp only [q] at h1; exact h1.elim
  | some ρ' =>
    simp only [q] at h1
    exact gOf_run rv1 (re.ext e1) q fun xs re' => h1 φ1 _ H1 .refl rs1 re'
def mSet (i : Nat) (ma : MX) : MS := fun ρ st => (ma ρ st).toS ρ fun d st1 => .nx (ρ.set i (some d)) st1
theorem set_ok {i : Nat} {D : Ends} {σ : L2.St} {H : Hp} (h : tS X W (mSet i ma) D σ H) : tAsg (tE X W ma) (gName i) D σ H := asg_ok (tg := .one i) h
theorem ms_set {i : Nat} {x : Str} {pos' : Pos} (hN : X.N.Nodup) (he : PE X e (tE X W ma)) (hi : X.N[i]? = some x := by rfl) (hx : Loc X.env.scope x := by first | exact Or.inl rfl | exact Or.inr rfl) (hs : swapsWith e (some (.Name x pos')) pos.line X.env = pure false := by rfl)
    (hf : X.fn x = true ∨ X.env.scope.names.lookup x = some .local := by first | exact .inl rfl | exact .inr rfl | assumption) : PS X (.Assign [.Name x pos'] e pos) (tS X W (mSet i ma)) := (ps_set hN hi hx he hs hf).imp fun _ _ _ h => set_ok h
theorem ms_asg {tg : Expr} {T : Tg} (he : PE X e (tE X W ma)) (hg : PG X tg (gOf X.K T)) (hs : swapsWithSole [tg] e pos.line X.env = pure false := by rfl) (hw : swappedStores [tg] e X.env = pure none := by rfl)
    (h1 : (assignEach [tg] X.env).map (·.2) = [assign tg X.env] := by rfl) : PS X (.Assign [tg] e pos) (tS X W (mAsg T ma)) := (ps_asg he hg hs hw h1).imp fun _ _ _ h => asg_ok h
def setA : A → A → A → Store → Option Store
  | .ref r, .int k, d, st => match st[r]? with
    | some (.lst xs) => match ixN xs.length k with
      | some j => some (st.set r (.lst (xs.set j d)))
      | none => none
    | _ => none
  | _, _, _, _ => none
def mPut (mo mi ma : MX) : MS := fun ρ st => (ma ρ st).toS ρ fun d st1 => (mo ρ st1).toS ρ fun o st2 => (mi ρ st2).toS ρ fun i st3 => match setA o i d st3 with
  | some st4 => .nx ρ st4
  | none => .bad
theorem ms_put {o i : Expr} {mo mi : MX} {p2 : Pos} (ho : PE X o (tE X W mo)) (hi : PE X i (tE X W mi)) (he : PE X e (tE X W ma))
    (ha : ∀ v, assign (.Subscript o i p2) X.env v = (do
      let ov ← holding [v] (eval o X.env)
      let iv ← holding [v, ov] (eval i X.env)
      standAt p2
      holding [v, ov, iv] (setItem ov iv v)
      release [v, ov, iv] []) := by intro _; rfl) (hs : swapsWithSole [.Subscript o i p2] e pos.line X.env = pure false := by rfl) (hw : swappedStores [.Subscript o i p2] e X.env = pure none := by rfl)
    (h1 : (assignEach [.Subscript o i p2] X.env).map (·.2) = [assign (.Subscript o i p2) X.env] := by rfl) : PS X (.Assign [.Subscript o i p2] e pos) (tS X W (mPut mo mi ma)) := (ps_asg he (pg_sub ho hi set_list ha) hs hw h1).imp fun D σ H ⟨φ, ρ, st, rs, re, h⟩ => by
  refine ⟨φ, ρ, st, rs, re, h.exp re fun φ1 d x H1 st1 e1 rs1 rv1 h1 => ?_⟩
  refine ⟨φ1, ρ, st1, rs1, re.ext e1, h1.exp (re.ext e1) fun φ2 o y H2 st2 e2 rs2 rv2 h2 => ?_⟩
  refine ⟨φ2, ρ, st2, rs2, (re.ext e1).ext e2, h2.exp ((re.ext e1).ext e2) fun φ3 i z H3 st3 e3 rs3 rv3 h3 => ?_⟩
  cases q : setA o i d st3 with
  | none => simp only [q] at h3; exact h3.elim
  | some st4 =>
    simp only [q] at h3
    unfold setA at q
    split at q
    · rename_i r k
      cases rv3
      have rv2' := rv2.ext e3
      cases rv2' with
      | @ref p _ qp =>
        cases e5 : st3[r]? with
        | none => rw [e5] at q; cases q
        | some ob =>
          cases ob with
          | oth u => rw [e5] at q; cases q
          | lst ds =>
            rw [e5] at q
            simp only at q
            cases e6 : ixN ds.length k with
            | none => rw [e6] at q; cases q
            | some j =>
              rw [e6] at q
              cases q
              obtain ⟨vs, g1, g2⟩ := rs3.lst qp e5
              obtain ⟨e7, rs4⟩ := rs3.write qp e5 (g2.set ((rv1.ext e2).ext e3) j)
              exact ⟨p, vs, k, j, rfl, rfl, g1, by rw [g2.length]; exact e6, h3 φ3 σ _ e7 rs4 ((((re.ext e1).ext e2).ext e3).ext e7)⟩
    · cases q
def mAug (i : Nat) (g : A → A → Store → R A) (ma : MX) : MS := fun ρ st => (mVar i ρ st).toS ρ fun x st0 => (ma ρ st0).toS ρ fun y st1 => (g x y st1).toS ρ fun z st2 => .nx (ρ.set i (some z)) st2
def iaddA : A → A → Store → R A
  | .int i, .int j, st => .ok (.int (i + j)) st
  | _, _, _ => .bad
theorem os_iadd : OpS X (ipI fun i j => i + j) iaddA := fun W φ H st x y a b Q rs ra rb h => by
  cases ra with
  | int i =>
    cases rb with
    | int j => exact ⟨i, j, rfl, rfl, h.ok rs (.int _)⟩
    | _ => exact (show False from h).elim
  | _ => exact (show False from h).elim
theorem ms_aug {i : Nat} {x : Str} {op : Operator} {ti : TIp} {pos' : Pos} {g : A → A → Store → R A} (hN : X.N.Nodup) (ho : PIp X op ti) (hg : OpS X ti g) (he : PE X e (tE X W ma)) (hi : X.N[i]? = some x := by rfl) (hx : Loc X.env.scope x := by first | exact Or.inl rfl | exact Or.inr rfl)
    (hf : X.fn x = true ∨ X.env.scope.names.lookup x = some .local := by first | exact .inl rfl | exact .inr rfl | assumption) : PS X (.AugAssign (.Name x pos') op e pos) (tS X W (mAug i g ma)) := (ps_aug hN hi hx he ho hf).imp fun D σ H ⟨φ, ρ, st, rs, re, h⟩ => by
  unfold mAug mVar at h
  cases q : ρ[i]? with
  | none => rw [q] at h; exact h.elim
  | some o =>
    cases o with
    | none => rw [q] at h; exact h.elim
    | some d =>
      rw [q] at h
      obtain ⟨v, g1, g2⟩ := re.all i d q
      refine ⟨v, g1, φ, ρ, st, rs, re, SPst.exp h re fun φ1 b y H1 st1 e1 rs1 rv1 h1 => ?_⟩
      refine hg (fun c d H' => W c d σ H') _ _ _ _ _ _ _ _ rs1 (g2.ext e1) rv1 (SPst.exp h1 (re.ext e1) fun φ2 z w H2 st2 e2 rs2 rv2 h2 => ?_)
      exact h2 φ2 _ H2 .refl rs2 (((re.ext e1).ext e2).set rv2 i)
inductive Src where
  | vals (xs : List A) | lst (r : Nat) | rng (lo : Int) (n : Nat) | chars (x : Str) | zipv (xs ys : List A) | zipl (r q : Nat) | revl (r n : Nat) | enul (r : Nat)
def stL (st : Store) (r : Nat) : Option (List A) := match st[r]? with
  | some (.lst xs) => some xs
  | _ => none
def Src.at (s : Src) (i : Nat) (st : Store) : Option (Option A) := match s with
  | .vals xs => some xs[i]?
  | .lst r => match stL st r with
    | some xs => some xs[i]?
    | none => none
  | .rng lo n => some (if i < n then some (.int (lo + (i : Nat))) else none)
  | .chars x => some (x.cps[i]?.map fun c => .str ⟨#[c]⟩)
  | .zipv xs ys => some (match xs[i]?, ys[i]? with
    | some a, some b => some (.tup [a, b])
    | _, _ => none)
  | .zipl r q => match stL st r, stL st q with
    | some xs, some ys => some (match xs[i]?, ys[i]? with
      | some a, some b => some (.tup [a, b])
      | _, _ => none)
    | _, _ => none
  | .revl r n => if i < n then (match stL st r with
    | some xs => (match xs[n - 1 - i]? with
      | some x => some (some x)
      | none => none)
    | none => none) else some none
  | .enul r => match stL st r with
    | some xs => some (match xs[i]? with
      | some a => some (.tup [.int (i : Nat), a])
      | none => none)
    | none => none
def Src.size (s : Src) (st : Store) : Nat := match s with
  | .vals xs => xs.length
  | .lst r => ((stL st r).getD []).length
  | .rng _ n => n
  | .chars x => x.cps.size
  | .zipv xs _ => xs.length
  | .zipl r _ => ((stL st r).getD []).length
  | .revl _ n => n
  | .enul r => ((stL st r).getD []).length
structure SimB (K : PySem.W.Frag) (w : World) (mg : Str → Option Value) (wk : Bool) (φ0 : List Addr) (H0 : Hp) (J : It) (s : Src) : Prop where
  stop : ∀ i φ H st, Ext φ0 H0 φ H → RS K w mg φ H st → s.at i st = some none → J.stop i H
  go : ∀ i φ H st a, Ext φ0 H0 φ H → RS K w mg φ H st → s.at i st = some (some a) → J.go i H ∧ ∀ x H', J.yld i H x H' → Ext φ H φ H' ∧ RS K w mg φ H' st ∧ RVw K φ H' wk x a
abbrev SimS (K : PySem.W.Frag) (w : World) (mg : Str → Option Value) := SimB K w mg false
abbrev tIW (X : Cx) (W : WX) (ms : Env → Store → R Src) : TI := tG X.K X.w X.mg (SimB X.K X.w X.mg true) W ms
abbrev tI (X : Cx) (W : WX) (ms : Env → Store → R Src) : TI := tG X.K X.w X.mg (SimS X.K X.w X.mg) W ms
theorem PIimp {tg iter : Expr} {t t' : TI} (h : PI X tg iter t) (k : ∀ σ H R, t' σ H R → t σ H R) : PI X tg iter t' := ⟨fun pins s σ H R I q => h.run pins s σ H R I (k _ _ _ q)⟩
theorem PIor {tg iter : Expr} {t t' : TI} (h : PI X tg iter t) (h' : PI X tg iter t') : PI X tg iter (fun σ H R => t σ H R ∨ t' σ H R) := ⟨fun pins s σ H R I q => q.elim (h.run pins s σ H R I) (h'.run pins s σ H R I)⟩
def srcA : A → Store → R Src
  | .tup xs, st => .ok (.vals xs) st
  | .scr xs, st => .ok (.vals xs) st
  | .str x, st => .ok (.chars x) st
  | .ref r, st => match st[r]? with
    | some (.lst _) => .ok (.lst r) st
    | _ => .bad
  | _, _ => .bad
def mSrc (ma : MX) : Env → Store → R Src := fun ρ st => (ma ρ st).bind srcA
end
section
variable {K : PySem.W.Frag} {w : World} {mg : Str → Option Value} {φ0 : List Addr} {H0 : Hp}
theorem sim_tup {a : Addr} {xs : List V} {ds : List A} (q : StT K φ0 H0 a xs) (qs : RVs K φ0 H0 xs ds) : SimS K w mg φ0 H0 (Itt K a) (.vals ds) where
  stop := fun i φ H st e rs h => ⟨xs, (q.ext e).sq, by
    have h1 : ds[i]? = none := Option.some.inj h
    rw [qs.length]
    exact List.getElem?_eq_none_iff.mp h1⟩
  go := fun i φ H st d e rs h => by
    have h1 : ds[i]? = some d := Option.some.inj h
    obtain ⟨v, h2, h3⟩ := qs.get h1
    refine ⟨⟨xs, v, (q.ext e).sq, h2⟩, fun x H' y => ?_⟩
    obtain ⟨rfl, y⟩ := y
    have e3 := (y xs (q.ext e).sq).symm.trans h2
    cases e3
    exact ⟨.refl, rs, h3.ext e⟩
theorem sim_scr {a : Addr} {xs : List V} {ds : List A} (q : StL K φ0 H0 a xs) (qs : RVs K φ0 H0 xs ds) : SimS K w mg φ0 H0 (Itl K a) (.vals ds) where
  stop := fun i φ H st e rs h => ⟨xs, (q.ext e).sq, by
    have h1 : ds[i]? = none := Option.some.inj h
    rw [qs.length]
    exact List.getElem?_eq_none_iff.mp h1⟩
  go := fun i φ H st d e rs h => by
    have h1 : ds[i]? = some d := Option.some.inj h
    obtain ⟨v, h2, h3⟩ := qs.get h1
    refine ⟨⟨xs, v, (q.ext e).sq, h2⟩, fun x H' y => ?_⟩
    obtain ⟨rfl, y⟩ := y
    have e3 := (y xs (q.ext e).sq).symm.trans h2
    cases e3
    exact ⟨.refl, rs, h3.ext e⟩
theorem stL_eq {st : Store} {r : Nat} {xs : List A} (h : stL st r = some xs) : st[r]? = some (.lst xs) := by
  unfold stL at h
  split at h
  · rename_i ys e
    cases h
    exact e
  · cases h
theorem sim_lst {a : Addr} {r : Nat} (q : φ0[r]? = some a) : SimS K w mg φ0 H0 (Itl K a) (.lst r) where
  stop := fun i φ H st e rs h => by
    unfold Src.at at h
    simp only at h
    cases e1 : stL st r with
    | none => rw [e1] at h; cases h
    | some ds =>
      rw [e1] at h
      obtain ⟨xs, h1, h2⟩ := rs.lst (e.get q) (stL_eq e1)
      have h3 : ds[i]? = none := Option.some.inj h
      exact ⟨xs, .inl (.inl h1), by rw [h2.length]; exact List.getElem?_eq_none_iff.mp h3⟩
  go := fun i φ H st d e rs h => by
    unfold Src.at at h
    simp only at h
    cases e1 : stL st r with
    | none => rw [e1] at h; cases h
    | some ds =>
      rw [e1] at h
      obtain ⟨xs, h1, h2⟩ := rs.lst (e.get q) (stL_eq e1)
      have h3 : ds[i]? = some d := Option.some.inj h
      obtain ⟨v, h4, h5⟩ := h2.get h3
      refine ⟨⟨xs, v, .inl (.inl h1), h4⟩, fun x H' y => ?_⟩
      obtain ⟨rfl, y⟩ := y
      have e3 := (y xs (.inl (.inl h1))).symm.trans h4
      cases e3
      exact ⟨.refl, rs, h5⟩
theorem sim_rng {lo : Int} {n : Nat} : SimS K w mg φ0 H0 (Itr lo n) (.rng lo n) where
  stop := fun i φ H st e rs h => by
    unfold Src.at at h
    simp only [Option.some.injEq] at h
    split at h
    · cases h
    · rename_i hn
      exact Nat.le_of_not_lt hn
  go := fun i φ H st d e rs h => by
    unfold Src.at at h
    simp only [Option.some.injEq] at h
    split at h
    · rename_i hn
      cases h
      refine ⟨hn, fun x H' y => ?_⟩
      obtain ⟨rfl, rfl⟩ := y
      exact ⟨.refl, rs, .int _⟩
    · cases h
theorem sim_chars {z : Str} : SimS K w mg φ0 H0 (Its z) (.chars z) where
  stop := fun i φ H st e rs h => by
    unfold Src.at at h
    simp only [Option.some.injEq, Option.map_eq_none_iff] at h
    exact Array.getElem?_eq_none_iff.mp h
  go := fun i φ H st d e rs h => by
    unfold Src.at at h
    simp only [Option.some.injEq, Option.map_eq_some_iff] at h
    obtain ⟨c, hc, rfl⟩ := h
    refine ⟨(Array.getElem?_eq_some_iff.mp hc).1, fun x H' y => ?_⟩
    obtain ⟨rfl, c', hc', rfl⟩ := y
    rw [hc] at hc'
    cases hc'
    exact ⟨.refl, rs, .str _⟩
end
section
variable {X : Cx} {W : WX} {a b e tg : Expr} {ma mb : MX} {ms : MA} {pos : Pos}
theorem mi_it (ha : PE X a (tE X W ma)) : PI X tg a (tI X W (mSrc ma)) := PIimp (PIor (pi_list ha) (PIor (pi_tup ha) (pi_str ha))) fun σ H Q ⟨φ, ρ, st, rs, re, h⟩ => by
  unfold mSrc at h
  cases e : ma ρ st with
  | bad => rw [e] at h; exact h.elim
  | er x st1 =>
    rw [e] at h
    exact .inl ⟨φ, ρ, st, rs, re, by rw [e]; exact h⟩
  | ok d st1 =>
    rw [e] at h
    have h : Pst X.K X.w X.mg (SimS X.K X.w X.mg) (fun c d H' => W c d σ H') φ H (srcA d st1) Q := h
    cases d with
    | tup ds =>
      refine .inr (.inl ⟨φ, ρ, st, rs, re, ?_⟩)
      rw [e]
      intro φ1 v H1 e1 rs1 rv1
      cases rv1 with
      | tup q qs => exact ⟨_, rfl, ⟨_, q.sq⟩, h φ1 _ H1 e1 rs1 (sim_tup q qs)⟩
    | scr ds =>
      refine .inl ⟨φ, ρ, st, rs, re, ?_⟩
      rw [e]
      intro φ1 v H1 e1 rs1 rv1
      cases rv1 with
      | scr q qs => exact ⟨_, rfl, ⟨_, q.sq⟩, h φ1 _ H1 e1 rs1 (sim_scr q qs)⟩
    | str z =>
      refine .inr (.inr ⟨φ, ρ, st, rs, re, ?_⟩)
      rw [e]
      intro φ1 v H1 e1 rs1 rv1
      cases rv1
      exact ⟨_, rfl, h φ1 _ H1 e1 rs1 sim_chars⟩
    | ref r =>
      refine .inl ⟨φ, ρ, st, rs, re, ?_⟩
      rw [e]
      intro φ1 v H1 e1 rs1 rv1
      unfold srcA at h
      simp only at h
      cases e2 : st1[r]? with
      | none => rw [e2] at h; exact h.elim
      | some o =>
        cases o with
        | oth u => rw [e2] at h; exact h.elim
        | lst ds =>
          rw [e2] at h
          cases rv1 with
          | ref q =>
            obtain ⟨xs, h1, _⟩ := rs1.lst q e2
            exact ⟨_, rfl, ⟨_, .inl (.inl h1)⟩, h φ1 _ H1 e1 rs1 (sim_lst q)⟩
    | _ => exact h.elim
def rngA : List A → Store → R Src
  | [.int j], st => if -(2 ^ 62) ≤ j ∧ j < 2 ^ 62 then .ok (.rng 0 j.toNat) st else .bad
  | [.int i, .int j], st => if -(2 ^ 62) ≤ i ∧ i < 2 ^ 62 ∧ -(2 ^ 62) ≤ j ∧ j < 2 ^ 62 then .ok (.rng i (j - i).toNat) st else .bad
  | _, _ => .bad
def mRng (ms : MA) : Env → Store → R Src := fun ρ st => (ms ρ st).bind rngA
theorem mi_range1 {p : Pos} {x : Str} (hm : X.mg "range" = none) (ha : PA X [a] (tA X W ms)) (hg : Gl X "range" := by rfl) (hs : starEach [a] X.env = [(false, eval a X.env)] := by rfl) (hn : ∀ ρ st as st', ms ρ st = .ok as st' → as.length = 1) : PI X tg (.Call (.Name "range" p) [a] [] pos) (tI X W (mRng ms)) := PIimp (pi_range1 hg hm ha hs) fun σ H Q ⟨φ, ρ, st, rs, re, h⟩ => by
  have hn' := hn ρ st
  refine ⟨φ, ρ, st, rs, re, ?_⟩
  unfold mRng at h
  cases e : ms ρ st with
  | bad => rw [e] at h; exact h.elim
  | er x st1 => rw [e] at h; exact h
  | ok ds st1 =>
    rw [e] at h
    have hl := hn' ds st1 e
    intro φ1 vs H1 e1 rs1 rv1
    have h1 : Pst X.K X.w X.mg (SimS X.K X.w X.mg) (fun c d H' => W c d σ H') φ H (rngA ds st1) Q := h
    unfold rngA at h1
    split at h1
    · split at h1
      · rename_i hz
        obtain ⟨v, rfl, r⟩ := one_rv rv1
        cases r
        exact ⟨_, rfl, hz.1, hz.2, h1 φ1 _ H1 e1 rs1 sim_rng⟩
      · exact h1.elim
    · simp at hl
    · exact h1.elim
theorem cons1 {mx : MX} (ρ : Env) (st : Store) (as : List A) (st' : Store) (h : mCons mx mNil ρ st = .ok as st') : as.length = 1 := by
  unfold mCons at h
  cases e : mx ρ st with
  | ok d st1 => rw [e] at h; cases h; rfl
  | er x st1 => rw [e] at h; cases h
  | bad => rw [e] at h; cases h
def loopF (s : Src) (tg : Tg) (body : MS) : Nat → Nat → MS
  | 0, _, _, _ => .bad
  | n + 1, i, ρ, st => match s.at i st with
    | none => .bad
    | some none => .nx ρ st
    | some (some d) => match asgT tg d ρ st with
      | none => .bad
      | some ρ1 => match body ρ1 st with
        | .nx ρ2 st2 => loopF s tg body n (i + 1) ρ2 st2
        | .ct ρ2 st2 => loopF s tg body n (i + 1) ρ2 st2
        | .bk ρ2 st2 => .nx ρ2 st2
        | r => r
def mFor (ms : Env → Store → R Src) (tg : Tg) (body : MS) : MS := fun ρ st => (ms ρ st).toS ρ fun s st1 => loopF s tg body (s.size st1 + 1) 0 ρ st1
theorem ms_for {iter : Expr} {body : List Stmt} {wk : Bool} {mi : Env → Store → R Src} {T : Tg} {mb : MS} (hp : PassesOwn (model X.prog X.w) X.A X.env X.xe) (hi : PI X tg iter (tG X.K X.w X.mg (SimB X.K X.w X.mg wk) W mi)) (hg : PG X tg (gOf X.K T)) (hb : PSs X body (tS X W mb))
    (hc : X.calm = true := by rfl) (hs : ∀ x, foldedSetIterable iter X.env x = pure x := by intro _; rfl) (hw : wk = false ∨ T.isOne = false := by first | exact Or.inl rfl | exact Or.inr rfl) : PS X (.For tg iter body [] pos) (tS X W (mFor mi T mb)) := (ps_for hp hc hi hg hb hs).imp fun D σ H ⟨φ, ρ, st, rs, re, h⟩ => by
  refine ⟨φ, ρ, st, rs, re, h.exp re fun φ1 s J H1 st1 e1 rs1 sim h1 => ?_⟩
  refine ⟨fun i m σ H => ∃ φ ρ st, Ext φ1 H1 φ H ∧ RS X.K X.w X.mg φ H st ∧ RE X.K φ H σ ρ ∧ SPst X.K X.w X.mg W φ H (loopF s T mb m i ρ st) D, ⟨_, φ1, ρ, st1, .refl, rs1, re.ext e1, h1⟩, ?_⟩
  rintro i m σ H ⟨φ, ρ, st, ex, rs, re, h⟩
  cases m with
  | zero => exact h.elim
  | succ m =>
    unfold loopF at h
    cases q : s.at i st with
    | none => rw [q] at h; exact h.elim
    | some o =>
      cases o with
      | none =>
        rw [q] at h
        exact .inl ⟨sim.stop i φ H st ex rs q, h φ σ H .refl rs re⟩
      | some d =>
        rw [q] at h
        simp only at h
        cases q2 : asgT T d ρ st with
        | none => rw [q2] at h; exact h.elim
        | some ρ1 =>
          rw [q2] at h
          simp only at h
          obtain ⟨g1, g2⟩ := sim.go i φ H st d ex rs q
          refine .inr ⟨g1, fun σ' H' => ∃ φ ρ st, Ext φ1 H1 φ H' ∧ RS X.K X.w X.mg φ H' st ∧ RE X.K φ H' σ' ρ ∧ SPst X.K X.w X.mg W φ H' (loopF s T mb m (i + 1) ρ st) D, fun σ' H' w => ⟨m, Nat.lt_succ_self m, w⟩, fun x H' y => ?_⟩
          obtain ⟨ex2, rs2, rv2⟩ := g2 x H' y
          refine gOf_runB hw rv2 (re.ext ex2) q2 fun xs re2 => ⟨φ, ρ1, st, rs2, re2, ?_⟩
          cases q3 : mb ρ1 st with
          | nx ρ2 st2 =>
            rw [q3] at h
            exact fun φ' σ' H' e4 rs' re' => ⟨φ', ρ2, st2, (ex.trans ex2).trans e4, rs', re', SPst.mono h (ex2.trans e4)⟩
          | ct ρ2 st2 =>
            rw [q3] at h
            exact fun φ' σ' H' e4 rs' re' => ⟨φ', ρ2, st2, (ex.trans ex2).trans e4, rs', re', SPst.mono h (ex2.trans e4)⟩
          | bk ρ2 st2 => rw [q3] at h; exact SPst.mono h ex2
          | rt a st2 => rw [q3] at h; exact SPst.mono h ex2
          | er x ρ2 st2 => rw [q3] at h; exact SPst.mono h ex2
          | bad => rw [q3] at h; exact h
def mYes : MT := fun _ st => .ok true st
def loopC (s : Src) (tg : Tg) (own : List Nat) (tt : MT) (elt : MX) (ρ0 : Env) : Nat → Nat → Store → List A → R (List A)
  | 0, _, _, _ => .bad
  | n + 1, i, st, acc => match s.at i st with
    | none => .bad
    | some none => .ok acc st
    | some (some d) => match asgT tg d ρ0 st with
      | none => .bad
      | some ρ1 => match tt ρ1 st with
        | .ok b st1 => if b = true then match elt ρ1 st1 with
            | .ok y st2 => if acc.length < sizeLine then loopC s tg own tt elt ρ0 n (i + 1) st2 (acc ++ [y]) else .bad
            | _ => .bad else loopC s tg own tt elt ρ0 n (i + 1) st1 acc
        | _ => .bad
def mLc (mi : Env → Store → R Src) (tg : Tg) (own : List Nat) (tt : MT) (elt : MX) : MX := fun ρ st => (mi ρ st).bind fun s st1 => (loopC s tg own tt elt (wipeA ρ own) (s.size st1 + 1) 0 st1 []).bind fun xs st2 => .ok (.ref st2.length) (st2 ++ [.lst xs])
abbrev W0 : WX := fun _ _ _ _ => False
theorem wipe_get {σ : L2.St} {j : Nat} : ∀ {vs : List Nat}, (wipe σ vs)[j]? = if j ∈ vs then σ[j]?.map (fun _ => none) else σ[j]?
  | [] => by simp [wipe]
  | v :: vs => by
    unfold wipe
    by_cases e : v = j
    · subst e
      rw [List.getElem?_set_self', wipe_get (vs := vs)]
      simp only [List.mem_cons, true_or, if_true]
      split <;> cases σ[v]? <;> rfl
    · rw [List.getElem?_set_ne e, wipe_get (vs := vs)]
      have : (j ∈ v :: vs) ↔ j ∈ vs := by simp [show ¬ j = v from fun z => e z.symm]
      simp only [this]
theorem setsV_get {j : Nat} : ∀ {is : List Nat} {xs : List V} {σ : L2.St}, j ∉ is → (setsV σ is xs)[j]? = σ[j]?
  | [], _, _, _ => by unfold setsV; rfl
  | _ :: _, [], _, _ => by unfold setsV; rfl
  | i :: is, x :: xs, σ, h => by
    unfold setsV
    rw [setsV_get fun z => h (List.mem_cons_of_mem _ z), List.getElem?_set_ne fun z => h (by rw [z]; exact List.mem_cons_self)]
theorem setsV_len : ∀ {is : List Nat} {xs : List V} {σ : L2.St}, (setsV σ is xs).length = σ.length
  | [], _, _ => by unfold setsV; rfl
  | _ :: _, [], _ => by unfold setsV; rfl
  | i :: is, x :: xs, σ => by
    unfold setsV
    rw [setsV_len, List.length_set]
theorem wipe_sets {σ : L2.St} {own is : List Nat} {xs : List V} (h : ∀ i ∈ is, i ∈ own) : wipe (setsV (wipe σ own) is xs) own = wipe σ own := by
  refine List.ext_getElem? fun j => ?_
  rw [wipe_get]
  by_cases c : j ∈ own
  · rw [if_pos c, wipe_get, if_pos c]
    by_cases l : j < σ.length
    · rw [List.getElem?_eq_getElem l, List.getElem?_eq_getElem (by rw [setsV_len, wipe_length]; exact l)]
      rfl
    · have e1 : σ[j]? = none := List.getElem?_eq_none (by omega)
      have e2 : (setsV (wipe σ own) is xs)[j]? = none := List.getElem?_eq_none (by rw [setsV_len, wipe_length]; omega)
      rw [e1, e2]
  · rw [if_neg c, setsV_get fun z => c (h j z)]
theorem lc_ok {wk : Bool} {mi : Env → Store → R Src} {T : Tg} {own : List Nat} {tt : MT} {me : MX} {σ : L2.St} {H : Hp} {Q : VK} (hw : wk = false ∨ T.isOne = false) (ho : ∀ i ∈ T.slots, i ∈ own) (h : tE X W (mLc mi T own tt me) σ H Q) : tLc (tG X.K X.w X.mg (SimB X.K X.w X.mg wk) W mi) (gOf X.K T) (tT X W0 tt) (tE X W0 me) own σ H Q := by
  obtain ⟨φ, ρ, st, rs, re, h⟩ := h
  refine ⟨φ, ρ, st, rs, re, h.seq fun φ1 s J H1 st1 e1 rs1 sim h1 => fun D hD => ?_⟩
  have re1 := (re.ext e1).wipe own
  have nD1 : D ∉ φ1 := rs1.notin hD
  have fin : ∀ {φ2 : List Addr} {H2 : Hp} {st2 : Store} {vs : List V} {as : List A}, Ext φ1 H1 φ2 H2 → D ∉ φ2 → H2 D = some (.lst vs) → RS X.K X.w X.mg φ2 H2 st2 → RVs X.K φ2 H2 vs as →
      Ext φ1 H1 (φ2 ++ [D]) H2 ∧ RS X.K X.w X.mg (φ2 ++ [D]) H2 (st2 ++ [.lst as]) := fun {φ2 H2 st2 vs as} ex nD hv rs2 rv => by
    have e0 : Ext φ1 H1 (φ2 ++ [D]) H2 := by
      obtain ⟨⟨t, rfl⟩, f, fz⟩ := ex
      refine ⟨⟨t ++ [D], by simp⟩, fun a o n q => ?_, fz⟩
      obtain ⟨q1, q2⟩ := f a o n q
      refine ⟨q1, fun z => ?_⟩
      rcases List.mem_append.mp z with z | z
      · exact q2 z
      · have : a = D := by simpa using z
        subst this
        rw [hD] at q
        cases q
    -- data over the longer φ
    have up : ∀ {v : V} {d : A}, RV X.K φ2 H2 v d → RV X.K (φ2 ++ [D]) H2 v d := fun {v d} r => by
      have hst : ∀ {a xs}, StT X.K φ2 H2 a xs → StT X.K (φ2 ++ [D]) H2 a xs := fun {a xs} q => by
        rcases q with ⟨q, n⟩ | q
        · refine .inl ⟨q, fun z => ?_⟩
          rcases List.mem_append.mp z with z | z
          · exact n z
          · have : a = D := by simpa using z
            subst this
            obtain ⟨o, _, q⟩ := q
            rw [hv] at q
            cases q
        · exact .inr q
      have hsl : ∀ {a xs}, StL X.K φ2 H2 a xs → StL X.K (φ2 ++ [D]) H2 a xs := fun {a xs} q => by
        rcases q with ⟨⟨o, q⟩, n⟩ | q
        · refine .inl ⟨⟨o, q⟩, fun z => ?_⟩
          rcases List.mem_append.mp z with z | z
          · exact n z
          · have : a = D := by simpa using z
            subst this
            rw [hv] at q
            cases q
        · exact .inr q
      exact RV.rec (motive_1 := fun v d _ => RV X.K (φ2 ++ [D]) H2 v d) (motive_2 := fun vs ds _ => RVs X.K (φ2 ++ [D]) H2 vs ds) .non .bl .int .str (fun q _ ih => .tup (hst q) ih) (fun q _ ih => .scr (hsl q) ih)
        (fun {a i} q => .ref (by rw [List.getElem?_append_left (List.getElem?_eq_some_iff.mp q).1]; exact q)) .nil (fun _ _ a b => .cons a b) r
    have ups : ∀ {vs : List V} {ds : List A}, RVs X.K φ2 H2 vs ds → RVs X.K (φ2 ++ [D]) H2 vs ds := fun {vs ds} r => by
      induction vs generalizing ds with
      | nil => cases r; exact .nil
      | cons v vs ih =>
        cases r with
        | cons h q => exact .cons (up h) (ih q)
    refine ⟨e0, by simp [rs2.len], ?_, fun i a o h1 h2 => ?_⟩
    · rw [List.nodup_append]
      refine ⟨rs2.nd, by simp, fun a ha b hb z => ?_⟩
      have : b = D := by simpa using hb
      subst this
      subst z
      exact nD ha
    · by_cases hi : i < φ2.length
      · rw [List.getElem?_append_left hi] at h1
        rw [List.getElem?_append_left (by rw [← rs2.len]; exact hi)] at h2
        have h3 := rs2.all i a o h1 h2
        cases o with
        | oth u => exact RO2.map (fun _ _ => up) (fun _ _ => ups) rfl (fun dx o n q nl => ⟨q, fun z => (List.mem_append.mp z).elim n fun z => by
            have z : dx = D := by simpa using z
            rw [z, hv] at q
            exact nl _ (Option.some.inj q).symm⟩) h3
        | lst ds' =>
          obtain ⟨ys, y1, y2⟩ := h3
          exact ⟨ys, y1, ups y2⟩
      · have hi2 : i = φ2.length := by
          have := (List.getElem?_eq_some_iff.mp h1).1
          rw [List.length_append, List.length_singleton] at this
          omega
        subst hi2
        rw [List.getElem?_append_right (Nat.le_refl _)] at h1
        rw [List.getElem?_append_right (by rw [rs2.len]; exact Nat.le_refl _)] at h2
        simp at h1
        rw [rs2.len] at h2
        simp at h2
        subst h1
        subst h2
        exact ⟨vs, hv, ups rv⟩
  refine ⟨fun i m H2 => ∃ φ2 st2 vs as, Ext φ1 H1 φ2 H2 ∧ D ∉ φ2 ∧ H2 D = some (.lst vs) ∧ RS X.K X.w X.mg φ2 H2 st2 ∧ RVs X.K φ2 H2 vs as ∧
    Pst X.K X.w X.mg (RV X.K) (fun c d H' => W c d σ H') φ1 H1 ((loopC s T own tt me (wipeA ρ own) m i st2 as).bind fun xs st2 => .ok (.ref st2.length) (st2 ++ [.lst xs])) Q,
    ⟨_, φ1, st1, [], [], ext_new hD, nD1, upd_same, rs1.new hD, .nil, h1⟩, ?_⟩
  rintro i m H2 ⟨φ2, st2, vs, as, ex, nD, hv, rs2, rv2, h2⟩
  cases m with
  | zero => exact h2.elim
  | succ m =>
    unfold loopC at h2
    cases q : s.at i st2 with
    | none => simp only [q] at h2; exact h2.elim
    | some o =>
      cases o with
      | none =>
        simp only [q] at h2
        obtain ⟨e0, rs3⟩ := fin ex nD hv rs2 rv2
        exact .inl ⟨sim.stop i φ2 H2 st2 ex rs2 q, h2 _ _ _ e0 rs3 (.newLst rs2)⟩
      | some d =>
        simp only [q] at h2
        cases q2 : asgT T d (wipeA ρ own) st2 with
        | none => simp only [q2] at h2; exact h2.elim
        | some ρ1 =>
          simp only [q2] at h2
          obtain ⟨g1, g2⟩ := sim.go i φ2 H2 st2 d ex rs2 q
          refine .inr ⟨g1, fun H' => ∃ φ2 st2 vs as, Ext φ1 H1 φ2 H' ∧ D ∉ φ2 ∧ H' D = some (.lst vs) ∧ RS X.K X.w X.mg φ2 H' st2 ∧ RVs X.K φ2 H' vs as ∧
            Pst X.K X.w X.mg (RV X.K) (fun c d H' => W c d σ H') φ1 H1 ((loopC s T own tt me (wipeA ρ own) m (i + 1) st2 as).bind fun xs st2 => .ok (.ref st2.length) (st2 ++ [.lst xs])) Q, fun H' w => ⟨m, Nat.lt_succ_self m, w⟩, fun x H' y => ?_⟩
          obtain ⟨ex2, rs3, rv3⟩ := g2 x H' y
          obtain ⟨hv', nD'⟩ := ex2.fr D _ nD hv
          refine gOf_runB hw rv3 ((re1.ext ex).ext ex2) q2 fun xs re2 => ⟨wipe_sets ho, φ2, ρ1, st2, rs3, re2, ?_⟩
          cases q3 : tt ρ1 st2 with
          | bad => simp only [q3] at h2; exact h2.elim
          | er z st3 => simp only [q3] at h2; exact h2.elim
          | ok b st3 =>
            simp only [q3] at h2
            intro φ3 b' H3 ex3 rs4 eb
            subst eb
            obtain ⟨hv3, nD3⟩ := ex3.fr D _ nD' hv'
            have exs := (ex.trans ex2).trans ex3
            cases b' with
            | false =>
              simp only [Bool.false_eq_true, if_false] at h2
              exact iteF ⟨φ3, st3, vs, as, exs, nD3, hv3, rs4, (rv2.ext ex2).ext ex3, h2⟩
            | true =>
              simp only [if_true] at h2
              refine iteT ⟨φ3, ρ1, st3, rs4, re2.ext ex3, ?_⟩
              cases q4 : me ρ1 st3 with
              | bad => simp only [q4] at h2; exact h2.elim
              | er z st4 => simp only [q4] at h2; exact h2.elim
              | ok d4 st4 =>
                simp only [q4] at h2
                intro φ4 v4 H4 ex4 rs5 rv4
                obtain ⟨hv4, nD4⟩ := ex4.fr D _ nD3 hv3
                by_cases hz : as.length < sizeLine
                · rw [if_pos hz] at h2
                  have e5 : Ext φ4 H4 φ4 (upd H4 D (.lst (vs ++ [v4]))) → True := fun _ => trivial
                  have e6 : Ext φ1 H1 φ4 (upd H4 D (.lst (vs ++ [v4]))) := ⟨(exs.trans ex4).pre, fun a o n q => by
                    obtain ⟨y1, y2⟩ := (exs.trans ex4).fr a o n q
                    exact ⟨by rw [upd_ne (ne_of_none q hD)]; exact y1, y2⟩, fun a o u q => by rw [upd_ne (ne_of_none q hD)]; exact (exs.trans ex4).fz _ _ _ q⟩
                  -- data of H4 over the heap where D has grown
                  have hst : ∀ {a ys}, StT X.K φ4 H4 a ys → StT X.K φ4 (upd H4 D (.lst (vs ++ [v4]))) a ys := fun {a ys} q => by
                    rcases q with ⟨q, n⟩ | q
                    · obtain ⟨o, hd, q⟩ := q
                      have na : a ≠ D := fun z => by
                        subst z
                        rw [hv4] at q
                        cases q
                      exact .inl ⟨⟨o, hd, by rw [upd_ne na]; exact q⟩, n⟩
                    · exact .inr q
                  have hsl : ∀ {a ys}, StL X.K φ4 H4 a ys → StL X.K φ4 (upd H4 D (.lst (vs ++ [v4]))) a ys := fun {a ys} q => by
                    rcases q with ⟨⟨o, q⟩, n⟩ | q
                    · have na : a ≠ D := fun z => by
                        subst z
                        rw [hv4] at q
                        cases q
                      exact .inl ⟨⟨o, by rw [upd_ne na]; exact q⟩, n⟩
                    · exact .inr q
                  have up : ∀ {v : V} {d : A}, RV X.K φ4 H4 v d → RV X.K φ4 (upd H4 D (.lst (vs ++ [v4]))) v d := fun {v d} r =>
                    RV.rec (motive_1 := fun v d _ => RV X.K φ4 (upd H4 D (.lst (vs ++ [v4]))) v d) (motive_2 := fun vs' ds _ => RVs X.K φ4 (upd H4 D (.lst (vs ++ [v4]))) vs' ds) .non .bl .int .str (fun q _ ih => .tup (hst q) ih) (fun q _ ih => .scr (hsl q) ih)
                      (fun q => .ref q) .nil (fun _ _ a b => .cons a b) r
                  have ups : ∀ {ws : List V} {ds : List A}, RVs X.K φ4 H4 ws ds → RVs X.K φ4 (upd H4 D (.lst (vs ++ [v4]))) ws ds := fun {ws ds} r => by
                    induction ws generalizing ds with
                    | nil => cases r; exact .nil
                    | cons v ws ih =>
                      cases r with
                      | cons h q => exact .cons (up h) (ih q)
                  have rs6 : RS X.K X.w X.mg φ4 (upd H4 D (.lst (vs ++ [v4]))) st4 := ⟨rs5.len, rs5.nd, fun j a o k1 k2 => by
                    have k3 := rs5.all j a o k1 k2
                    have na : a ≠ D := fun z => nD4 (z ▸ List.mem_of_getElem? k1)
                    cases o with
                    | oth u => exact RO2.map (fun _ _ => up) (fun _ _ => ups) (upd_ne na) (fun dx o n q nl => ⟨by
                        rw [upd_ne (fun z => by rw [z, hv4] at q; exact nl _ (Option.some.inj q).symm)]
                        exact q, n⟩) k3
                    | lst ds' =>
                      obtain ⟨ys, y1, y2⟩ := k3
                      exact ⟨ys, by rw [upd_ne na]; exact y1, ups y2⟩⟩
                  exact ⟨vs, hv4, by rw [rv2.length]; exact hz, φ4, st4, _, as ++ [d4], e6, nD4, upd_same, rs6, ups ((((rv2.ext ex2).ext ex3).ext ex4).app (.cons rv4 .nil)), h2⟩
                · rw [if_neg hz] at h2
                  exact h2.elim
theorem mts_nil {X : Cx} : PTs X [] (tT X W0 mYes) := ⟨fun pins s σ H Q I ⟨φ, ρ, st, rs, re, h⟩ => pts_nil.run pins s σ H Q I (h.ok rs rfl)⟩
theorem mts_one {X : Cx} {c : Expr} {t : MT} (h : PT X c (tT X W0 t)) : PTs X [c] (tT X W0 t) := pts_one h
theorem me_lc {elt iter : Expr} {ifs : List Expr} {scope : Scope} (own : List (Str × Nat)) {wk : Bool} {mi : Env → Store → R Src} {T : Tg} {tt : MT} {me : MX} (hN : X.N.Nodup) (hi : PI X tg iter (tG X.K X.w X.mg (SimB X.K X.w X.mg wk) W mi)) (ok : BlkOk X.N X.env.scope scope own)
    (hg : ∀ (s : Shared) (H : Hp) (C : Addr) (cl : List (Str × Addr)) (fp : List Addr), PG (X.blk s H scope (compEnvC scope cl C X.env) fp) tg (gOf X.K T)) (ht : ∀ (s : Shared) (H : Hp) (C : Addr) (cl : List (Str × Addr)) (fp : List Addr), PTs (X.blk s H scope (compEnvC scope cl C X.env) fp) ifs (tT (X.blk s H scope (compEnvC scope cl C X.env) fp) W0 tt))
    (he : ∀ (s : Shared) (H : Hp) (C : Addr) (cl : List (Str × Addr)) (fp : List Addr), PE (X.blk s H scope (compEnvC scope cl C X.env) fp) elt (tE (X.blk s H scope (compEnvC scope cl C X.env) fp) W0 me)) (hc : X.calm = true := by rfl) (hs : ∀ x, foldedSetIterable iter X.env x = pure x := by intro _; rfl)
    (ho : ∀ i ∈ T.slots, i ∈ own.map (·.2) := by decide) (hw : wk = false ∨ T.isOne = false := by first | exact Or.inl rfl | exact Or.inr rfl) : PE X (.ListComp elt [⟨tg, iter, ifs, 0⟩] scope pos) (tE X W (mLc mi T (own.map (·.2)) tt me)) :=
  (pe_lc hc hN hi ok hg ht he hs).imp fun _ _ _ h => lc_ok hw ho h
theorem ms_setLc {i : Nat} {y : Str} {py : Pos} {spos : Pos} {elt iter : Expr} {ifs : List Expr} {scope : Scope} (own : List (Str × Nat)) {wk : Bool} {mi : Env → Store → R Src} {T : Tg} {tt : MT} {me : MX} (hN : X.N.Nodup) (hsw : swapsWith (.ListComp elt [⟨tg, iter, ifs, 0⟩] scope pos) (some (.Name y py)) spos.line X.env = pure true) (hi : PI X tg iter (tG X.K X.w X.mg (SimB X.K X.w X.mg wk) W mi)) (ok : BlkOk X.N X.env.scope scope own)
    (hg : ∀ (s : Shared) (H : Hp) (C : Addr) (cl : List (Str × Addr)) (fp : List Addr), PG (X.blk s H scope (compEnvC scope cl C X.env) fp) tg (gOf X.K T)) (ht : ∀ (s : Shared) (H : Hp) (C : Addr) (cl : List (Str × Addr)) (fp : List Addr), PTs (X.blk s H scope (compEnvC scope cl C X.env) fp) ifs (tT (X.blk s H scope (compEnvC scope cl C X.env) fp) W0 tt))
    (he : ∀ (s : Shared) (H : Hp) (C : Addr) (cl : List (Str × Addr)) (fp : List Addr), PE (X.blk s H scope (compEnvC scope cl C X.env) fp) elt (tE (X.blk s H scope (compEnvC scope cl C X.env) fp) W0 me)) (hy : X.N[i]? = some y := by rfl) (hyl : X.env.scope.names.lookup y = some .local := by rfl) (hc : X.calm = true := by rfl) (hs : ∀ x, foldedSetIterable iter X.env x = pure x := by intro _; rfl)
    (ho : ∀ i ∈ T.slots, i ∈ own.map (·.2) := by decide) (hw : wk = false ∨ T.isOne = false := by first | exact Or.inl rfl | exact Or.inr rfl) : PS X (.Assign [.Name y py] (.ListComp elt [⟨tg, iter, ifs, 0⟩] scope pos) spos) (tS X W (mSet i (mLc mi T (own.map (·.2)) tt me))) := by
  refine (ps_setLc (te := tE X W0 me) (tt := tT X W0 tt) hc hN hy hyl hsw hi ok hg ht he hs).imp fun D σ H h => ?_
  have h2 := set_ok h
  exact lc_ok hw ho h2
end
def mFn (N np : Nat) (body : MS) : MF := fun as st => if as.length = np then match body (as.map some ++ List.replicate (N - np) none) st with
  | .nx _ st' => .ok .non st'
  | .rt a st' => .ok a st'
  | .er e _ st' => .er e st'
  | _ => .bad else .bad
section
variable {P : Program} {w : World} {K : PySem.W.Frag} {mg : Str → Option Value} {base : Heap}
theorem RE.start {φ : List Addr} {H : Hp} {vs : List V} {as : List A} (q : RVs K φ H vs as) (n : Nat) : RE K φ H (vs.map some ++ List.replicate n none) (as.map some ++ List.replicate n none) := ⟨by simp [q.length], fun i d h => by
  by_cases hi : i < as.length
  · rw [List.getElem?_append_left (by simpa using hi), List.getElem?_map] at h
    cases e : as[i]? with
    | none => rw [e] at h; cases h
    | some d' =>
      rw [e] at h
      cases h
      obtain ⟨v, h1, h2⟩ := q.get e
      exact ⟨v, by rw [List.getElem?_append_left (by simp [q.length, hi]), List.getElem?_map, h1]; rfl, h2⟩
  · rw [List.getElem?_append_right (by simpa using Nat.le_of_not_lt hi), List.getElem?_replicate] at h
    split at h <;> cases h⟩
theorem fn_ok {x qual : Str} {st : Stmt} {f : Addr} {fd : FuncData} {N ps : List Str} {k : Nat} {body : MS} (F : Fun K x qual st f fd) (S : FnScope N ps (defScope st))
    (hb : ∀ (cdv : Value) (A : Around) (outer : List PySem.Env) (s : Shared) (H : Hp) (E : XK), Room k (A.deeper (PyProof.Rows.envOfC qual (defScope st) s.heap.objs.size f cdv)) →
      PSs (cxOf (L2.CX P w) P w K mg base N qual (defScope st) f cdv A outer s H E) (defBody st) (tS (cxOf (L2.CX P w) P w K mg base N qual (defScope st) f cdv A outer s H E) (fun c d _ H' => E c d H') body)) :
    FnOk P w K mg base (L2.CX P w) (k + 1) f fd ps (spM K w mg (mFn N.length ps.length body)) := by
  have len : ∀ vs H Q E, spM K w mg (mFn N.length ps.length body) vs H Q E → vs.length = ps.length := fun vs H Q E ⟨φ, as, st, rs, rv, h⟩ => by
    unfold mFn at h
    split at h
    · rename_i hl
      rw [rv.length]
      exact hl
    · exact h.elim
  refine F.okX S len fun cdv A outer s H vs Q E hr h => ⟨_, hb cdv A outer s H E hr, ?_⟩
  obtain ⟨φ, as, st, rs, rv, h⟩ := h
  unfold mFn at h
  split at h
  · rename_i hl
    have hl2 : vs.length = ps.length := by rw [rv.length]; exact hl
    refine ⟨φ, as.map some ++ List.replicate (N.length - ps.length) none, st, rs, ?_, ?_⟩
    · unfold L2.start
      rw [hl2]
      exact RE.start rv _
    · cases e : body (as.map some ++ List.replicate (N.length - ps.length) none) st with
      | nx ρ st' => rw [e] at h; exact fun φ' σ' H' ex rs' re' => h φ' .non H' ex rs' .non
      | rt a st' => rw [e] at h; exact fun φ' v H' ex rs' rv' => h φ' v H' ex rs' rv'
      | er x ρ st' => rw [e] at h; exact fun φ' c d σ' H' ex rs' re' rx => h φ' c d H' ex rs' rx
      | bk ρ st' => rw [e] at h; exact h.elim
      | ct ρ st' => rw [e] at h; exact h.elim
      | bad => rw [e] at h; exact h.elim
  · exact h.elim
structure GF (K : PySem.W.Frag) (mg : Str → Option Value) (x : Str) (st : Stmt) (ps : List Str) : Prop where
  ex : ∃ (f : Addr) (fd : FuncData), mg x = some (.ref f) ∧ Fun K x x st f fd ∧ Binds K fd ps []
theorem cal_of {x : Str} {st : Stmt} {N ps : List Str} {k : Nat} {body : MS} (G : GF K mg x st ps) (S : FnScope N ps (defScope st))
    (hb : ∀ (f : Addr) (cdv : Value) (A : Around) (outer : List PySem.Env) (s : Shared) (H : Hp) (E : XK), Room k (A.deeper (PyProof.Rows.envOfC x (defScope st) s.heap.objs.size f cdv)) →
      PSs (cxOf (L2.CX P w) P w K mg base N x (defScope st) f cdv A outer s H E) (defBody st) (tS (cxOf (L2.CX P w) P w K mg base N x (defScope st) f cdv A outer s H E) (fun c d _ H' => E c d H') body)) :
    Cal P w K mg base x (k + 1) (mFn N.length ps.length body) := by
  obtain ⟨f, fd, h1, F, b⟩ := G.ex
  exact ⟨f, fd, ps, h1, F.kp, b, fn_ok F S (hb f)⟩
theorem Cal.mono {x : Str} {k j : Nat} {m : MF} (C : Cal P w K mg base x j m) (h : j ≤ k) : Cal P w K mg base x k m := by
  obtain ⟨f, fd, ps, h1, h2, h3, F⟩ := C.ex
  exact ⟨f, fd, ps, h1, h2, h3, F.mono h⟩
theorem takesE {N : List Str} {qual : Str} {sc : Scope} {f : Addr} {cdv : Value} {A : Around} {outer : List PySem.Env} {s : Shared} {H : Hp} {E : XK} : Takes (cxOf (L2.CX P w) P w K mg base N qual sc f cdv A outer s H E) (fun c d _ H' => E c d H') := takes_of rfl rfl rfl rfl
theorem passesE {N : List Str} {qual : Str} {sc : Scope} {f : Addr} {cdv : Value} {A : Around} {outer : List PySem.Env} {s : Shared} {H : Hp} {E : XK} : PassesOwn (model P w) (A.deeper (PyProof.Rows.envOfC qual sc s.heap.objs.size f cdv)) (PyProof.Rows.envOfC qual sc s.heap.objs.size f cdv) (cxOf (L2.CX P w) P w K mg base N qual sc f cdv A outer s H E).xe := passes_of (X := cxOf (L2.CX P w) P w K mg base N qual sc f cdv A outer s H E) rfl
end
end ML
namespace ML
open PySem PySem.Spec L2
theorem units_ok {k : Nat} {A : Around} (hr : Room k A) : A.units + 64 < cLine := hr.units
section
variable {P : Program} {w : World} {K : PySem.W.Frag} {mg : Str → Option Value} {base : Heap}
theorem cal_bad {x : Str} {st : Stmt} {ps : List Str} {k : Nat} (G : GF K mg x st ps) : Cal P w K mg base x k (fun _ _ => .bad) := by
  obtain ⟨f, fd, h1, F, b⟩ := G.ex
  exact ⟨f, fd, ps, h1, F.kp, b, fun vs H Q E ⟨_, _, _, _, _, h⟩ => h.elim, fun A outer s H args us vs Q E hr e0 hb hv ⟨_, _, _, _, _, h⟩ => h.elim⟩
theorem Cal.cast {x : Str} {j k : Nat} {m : MF} (e : j = k) (C : Cal P w K mg base x j m) : Cal P w K mg base x k m := e ▸ C
def spLaw (K : PySem.W.Frag) : Sp := fun vs H Q _ => ∃ (a : Addr) (ns : List Int), vs = [.ref a] ∧ SqL K H a (ns.map V.int) ∧ Only H ∧ ns.length ≤ 63 ∧ (∀ z ∈ ns, Builtin.Int.intBits z ≤ 1048576) ∧ ∀ H', Q (.bl true) H'
def LawTrue (m : MF) : Prop := ∀ ns : List Int, ns.length ≤ 63 → (∀ z ∈ ns, Builtin.Int.intBits z ≤ 1048576) → ∃ st, m [.scr (ns.map A.int)] [] = .ok (.bl true) st
theorem law_imp {m : MF} (hm : LawTrue m) (vs : List V) (H : Hp) (Q : VK) (E : XK) (h : spLaw K vs H Q E) : spM K w mg m vs H Q E := by
  obtain ⟨a, ns, rfl, hs, ho, hl, hb, hq⟩ := h
  obtain ⟨st, he⟩ := hm ns hl hb
  have hq' : StL K [] H a (ns.map V.int) := by
    rcases hs with (h | ⟨o, h⟩) | h
    · rcases ho a with z | ⟨o, xs, z⟩
      · rw [z] at h; cases h
      · rw [z] at h; cases h
    · exact .inl ⟨⟨o, h⟩, by simp⟩
    · exact .inr h
  refine ⟨[], [.scr (ns.map A.int)], [], ⟨rfl, List.nodup_nil, fun i a o h => by simp at h⟩, .cons (.scr hq' (RVs.mkInts ns)) .nil, ?_⟩
  rw [he]
  intro φ' v H' _ _ r
  cases r
  exact hq H'
theorem law_end {l : PySem.W.OpenLaw} {k : Nat} {q : Program} {loose : List Str} {XP : (Str → Option Value) → Heap → Prop} {YP : World → Heap → Prop} {d : DefRec} {K : Params → PySem.W.Frag} {x : Str} {m : MF}
    (hn : l.most = some 63) (hdf : d.params.defaults = []) (hr : Room k callerA)
    (hY : ∀ (w : World) (h : Heap), YP w h → (K w.params).In h) (hm : LawTrue m)
    (F : ∀ (w : World) (mg : Str → Option Value) (fa : Addr) (h : Heap), (K w.params).In h → h.Ns mainGlobals mg → mg d.name = some (.ref fa) →
      ∃ fd : FuncData, (∀ (s : Shared) (u : Value), BindsTo s fd ⟨[u], []⟩ [(x, u)]) ∧ ∀ base : Heap, (K w.params).In base → base.Ns mainGlobals mg → FnOk l.prog w (K w.params) mg base (L2.CX l.prog w) k fa fd [x] (spM (K w.params) w mg m)) :
    PySem.W.WalkO q loose XP YP l.row.toRowW d [] (fun f vs => PySem.call f vs) :=
  L2.walk_ofB (n := 63) (k := k) (x := x) (CX := fun w => L2.CX l.prog w) (sp := fun w => spLaw (K w.params)) hn (by decide) hdf hr hY
    (fun w mg fa h KX G hmg => by
      obtain ⟨fd, hb, hF⟩ := F w mg fa h KX G hmg
      exact ⟨fd, hb, fun base k1 k2 => (hF base k1 k2).imp (law_imp hm)⟩)
    (fun w H a ns hl hb ho hs => ⟨a, ns, rfl, hs, ho, hl, hb, fun _ => rfl⟩)
    (fun w H s e s' h => by obtain ⟨_, _, _, _, _, _, _, _, _, _, _, _, z⟩ := h; exact z)
end
end ML
namespace PySem
namespace SupX
open PySem.W PySem.Calls PyProof.Rows PySem.HandSPX
def iA (f : Str) (p1 p2 : Pos) : Arguments := { posonlyargs := [], args := [{ arg := "self", annotation := none, pos := p1 }, { arg := f, annotation := none, pos := p2 }], vararg := none, kwonlyargs := [], kw_defaults := [], kwarg := none, defaults := [] }
def iB (f msg : Str) (q0 q1 q2 q3 q4 q5 q6 q7 q8 q9 : Pos) : List Stmt := [.Expr (.Call (.Attribute (.Call (.Name "super" q0) [] [] q1) "__init__" q2) [.Constant (.str msg) 0 q3] [] q4) q5, .Assign [.Attribute (.Name "self" q6) f q7] (.Name f q8) q9]
def iS (f : Str) : Scope := { kind := .function, names := [(PySem.Str.ofString "self", .local), (f, .local), (PySem.Str.ofString "__class__", .free), (PySem.Str.ofString "super", .globalImplicit)], isGenerator := false, isCoroutine := false, more := [] }
abbrev FldOk (f : Str) : Prop := f = "place" ∨ f = "count"
structure SupTxt (prog : Program) (K : Frag) (mg : Str → Option Value) (x f msg : Str) (C fI : Addr) : Prop where
  fok : FldOk f
  gC : mg x = some (.ref C)
  cls : ∃ nm q N bs bm sn sub ab col dd k0 k1 k2 k3 k5, K.lookup C = some (excClassObj nm q C N bs bm true sn sub ab col dd k0 k1 k2 k3 k5 "ValueError.__new__") ∧ refsVE bm = true
  sa : findIn K (.ref C) "__setattr__" = some (some (.builtin "object.__setattr__"))
  ga : findIn K (.ref C) "__getattribute__" = some (some (.builtin "BaseException.__getattribute__"))
  gg : findIn K (.ref C) "__getattr__" = some none
  noN : findIn K (.ref C) f = some none
  iC : findIn K (.ref C) "__init__" = some (some (.ref fI))
  tC : typeIn K (.ref fI) = some (.type "function")
  kC : keepIn K (.ref C) = true
  exC : subIn K (.ref C) (.type "BaseException") = some true
  tyC : typeIn K (.ref C) = some (.type "type")
  hdC : hasDictIn K C = true
  sup : ks_superIn K C C "__init__" = some (some (.builtin "ValueError.__init__"))
  veC : subIn K (.ref C) (.type "ValueError") = some true
  slf : mroIn K C (.ref C) = some true
  third : nsIn K cStatics "thirdparty.any" = some none
  nosup : mg "super" = none
  top : (prog.main.scope.names.lookup ("super" : Str)).isSome = false
  fn : ∃ (oc : Value) (od : Option Addr) (doc pm ct : Value) (an : Option Addr) (cda cc : Addr) (osl : Array (Option Value)) (q : Str) (p1 p2 q0 q1 q2 q3 q4 q5 q6 q7 q8 q9 : Pos),
    K.lookup fI = some ⟨oc, od, .func (ksFn "__init__" q (iA f p1 p2) (iB f msg q0 q1 q2 q3 q4 q5 q6 q7 q8 q9) (iS f) .none .none doc pm an (.ref cda) ct cc), osl⟩ ∧ codeIn K (.ref cda) q = true ∧
    (∀ env : Env, ∃ pl : Sem Bool, eval (.Call (.Attribute (.Call (.Name "super" q0) [] [] q1) "__init__" q2) [.Constant (.str msg) 0 q3] [] q4) env = (do
      let ov ← attributeBase (.Call (.Name "super" q0) [] [] q1) "__init__" env (eval (.Call (.Name "super" q0) [] [] q1) env)
      standAt q2.atName
      let (g, first) ← holding [ov] (getMethod ov "__init__" pl)
      callWith q4 g first (backTo q4 (starEach [.Constant (.str msg) 0 q3] env)) [])) ∧
    (∃ cl cld csl, K.lookup cc = some ⟨cl, cld, .cell (some (.ref C)), csl⟩) ∧
    ∃ ccl cdd vs ccs file tf, K.lookup cda = some ⟨ccl, cdd, .fields vs, ccs⟩ ∧ vs[2]? = some (.str file tf) ∧ ((prog.main.file : Str) == file) = true
theorem one_size (v : Value) : [v].length ≤ sizeLine := by
  rw [sizeLine_eq]
  exact (by decide : 1 ≤ 16777216)
structure InitEnd (f : Str) (h h' : Heap) (x C dx t1 : Addr) (v : Value) : Prop where
  keep : ∀ b o, b ≠ x → h.get? b = some o → h'.get? b = some o
  obj : h'.get? x = some { cls := .ref C, dict := some dx, data := .fields #[.ref t1, .none, .none, .none, .bool false, .none] }
  dbig : h.objs.size ≤ dx
  dne : dx ≠ x
  ns : h'.Ns1 dx (fun y => if y = f then some v else none)
structure OwnMade (f : Str) (h h' : Heap) (e C d : Addr) (v : Value) : Prop where
  keep : ∀ b o, h.get? b = some o → h'.get? b = some o
  new : h.objs.size ≤ e
  obj : ∃ oe vs, h'.get? e = some oe ∧ oe.cls = .ref C ∧ oe.dict = some d ∧ oe.data = .fields vs ∧ vs[1]? = some .none
  dbig : h.objs.size ≤ d
  dne : d ≠ e
  ns : h'.Ns1 d (fun y => if y = f then some v else none)
section
variable {prog : Program} {w : World} {A : Around} {E : Value → Shared → Prop} {R : Result → Shared → Prop} {s : Shared} {K : Frag} {mg : Str → Option Value} {x : Str} {f msg : Str} {C fI : Addr}
theorem call_mw {h : Heap} {g : Array GenState} {d : Drawn} {t : Nat} {os : OsState} {nm q : Str} {N : Addr} {bs bm : List Value} {hdct : Bool} {sn : List Str} {sub : List Value} {ab : Bool} {col : Option Bool} {dd : Option Addr} {k0 k1 k2 k3 k5 : Option Value} {u e t0 : Addr} {rest : List Value} {Q : Value → Shared → Prop}
    (hC : h.get? C = some (excClassObj nm q C N bs bm hdct sn sub ab col dd k0 k1 k2 k3 k5 "ValueError.__new__")) (he : h.get? e = some (HandSPX.excO C t0)) (hu : h.get? u = some (kxs_mw "ValueError.__init__" e)) (hrest : rest.length ≤ sizeLine)
    (hq : ∀ h' t1, (∀ b o, b ≠ e → h.get? b = some o → h'.get? b = some o) → h'.get? e = some (HandSPX.excO C t1) → Q .none ⟨h', g, d, t, os⟩) :
    wpAny (model prog w) A (call (.ref u) rest) Q E ⟨h, g, d, t, os⟩ := by
  refine wpAny_call (codeAny_of_tree ?_)
  show wpAny _ A.in1 (callAny (.ref u) ⟨rest, []⟩) _ _ _
  simp only [callAny]
  refine wpAny_bind (wpAny_load hu ?_)
  simp only [kxs_mw, show (Value.type "method-wrapper" == Value.type "method" || Value.type "method-wrapper" == Value.type "builtin_function_or_method" || Value.type "method-wrapper" == Value.type "method-wrapper") = true by decide, if_true]
  refine KFB.if_so (by decide) ?_
  refine wpAny_bind (check_bound_init F.excBase_ValueError.toExcCallFacts hC he rfl ?_)
  refine wpAny_bind (wpAny_pure (wpAny_pure ?_))
  refine ⟨plainId_quiet F.excBase_ValueError.init.plain _, codeAny_builtin F.excBase_ValueError.initEntry ?_⟩
  wp_walk
  refine hq _ h.objs.size (fun b o hb ho => ?_) ?_
  · rw [Heap.get?_update_other _ _ (Ne.symm hb)]
    exact Heap.get?_push_of_some _ ho
  · rw [Heap.get?_update_self _ (Heap.get?_push_of_some _ he) rfl]
    rfl
theorem sup_initG (T : SupTxt prog K mg x f msg C fI) {e t0 : Addr} {v : Value} (X : K.In s.heap) (G : s.heap.Ns mainGlobals mg) (B : ∃ mb, s.heap.Ns builtinsNs mb ∧ mb "super" = some (.type "super")) (hlim : s.heap.NoLimit) (hx : s.heap.get? e = some (excO C t0)) (hnx : K.lookup e = none) (hroom : A.depth < recursionLimit)
    (hl1 : (iS f).names.lookup ("super" : Str) = some .globalImplicit) (hl2 : (iS f).names.lookup ("__class__" : Str) = some .free) (hl3 : (iS f).names.lookup ("self" : Str) = some .local) (hl4 : (iS f).names.lookup f = some .local) (hl5 : ∀ y ∈ (iS f).names, y.2 ≠ .cell) (hb1 : ([((f : Str), v), (("self" : Str), Value.ref e)] : List (Str × Value)).lookup ("self" : Str) = some (.ref e)) (hb2 : ([((f : Str), v), (("self" : Str), Value.ref e)] : List (Str × Value)).lookup f = some v) (hdb : (f == ("__debug__" : Str)) = false)
    (hbt : ∀ (q : Str) (body : List Stmt) (doc pm ct : Value) (an : Option Addr) (cda cc : Addr) (p1 p2 : Pos), BindsTo s (ksFn "__init__" q (iA f p1 p2) body (iS f) .none .none doc pm an (.ref cda) ct cc) ⟨[.ref e, v], []⟩ [("self", .ref e), (f, v)])
    (hq : ∀ h' tk dx t1, InitEnd f s.heap h' e C dx t1 v → R (.ok (.ret .none)) { s with heap := h', toks := tk }) :
    codeAny (model prog w) A (.call (.ref fI) ⟨[.ref e, v], []⟩) R s := by
  obtain ⟨oc, od, doc, pm, ct, an, cda, cc, osl, q, p1, p2, q0, q1, q2, q3, q4, q5, q6, q7, q8, q9, ho, hcd, hev, ⟨cl, cld, csl, hcell⟩, ccl, cdd, vs, ccs, file, tf, hcode, hvs, hfile⟩ := T.fn
  obtain ⟨nm, qn, N, bs, bm, sn, sub, ab, col, dd, k0, k1, k2, k3, k5, hC, hbm⟩ := T.cls
  have hcl : clsIn K C = some { name := nm, bases := bs, mro := .ref C :: bm, ns := N, qualname := qn, hasDict := true, slotNames := sn, subclasses := sub, abstract := ab, collection := col, hasDel := false } := by unfold clsIn; rw [hC] <;> rfl
  obtain ⟨mb, hB, hBs⟩ := B
  have hsuper : alongIn K "__init__" ((((Value.ref C :: bm : List Value)).dropWhile (· != .ref C)).drop 1) = some (some (.builtin "ValueError.__init__")) := by
    have := T.sup
    unfold ks_superIn at this
    rw [hcl] at this
    exact this
  refine ks_codeAny_call_defAt (fd := ksFn "__init__" q (iA f p1 p2) (iB f msg q0 q1 q2 q3 q4 q5 q6 q7 q8 q9) (iS f) .none .none doc pm an (.ref cda) ct cc) (body := iB f msg q0 q1 q2 q3 q4 q5 q6 q7 q8 q9) (binds := [("self", .ref e), (f, v)]) hroom (X _ _ ho) rfl hlim (codeRec_of X hcd) rfl (hbt _ _ _ _ _ _ _ _ p1 p2) hl5 (fun y hy => by
      rcases List.mem_cons.mp hy with rfl | hy
      · exact hl3
      · rcases List.mem_cons.mp hy with rfl | hy
        · exact hl4
        · cases hy) (fun h₁ hns k => ?_)
  have hxL : s.heap.objs.size ≠ e := Nat.ne_of_gt (Heap.lt_size hx)
  have X₁ : K.In h₁ := X.keeps k
  have hx₁ := k _ _ hx
  have hns' : h₁.Ns s.heap.objs.size (fun y => ([((f : Str), v), (("self" : Str), Value.ref e)] : List (Str × Value)).lookup y) := hns
  change PySem.wpAt (model prog w) _ (.func (iB f msg q0 q1 q2 q3 q4 q5 q6 q7 q8 q9) (ksEnv q (iS f) s.heap.objs.size fI (.ref cda) cc)) (execs (iB f msg q0 q1 q2 q3 q4 q5 q6 q7 q8 q9) (ksEnv q (iS f) s.heap.objs.size fI (.ref cda) cc)) _ _ _
  obtain ⟨pl, hev⟩ := hev (ksEnv q (iS f) s.heap.objs.size fI (.ref cda) cc)
  refine ks_wpAt_execs_cons (ks_wpAt_Expr_any (ks_wpAt_MethodCall (pl := pl) ?_ hev))
  refine ks_wpAt_super_base (env := ksEnv q (iS f) s.heap.objs.size fI (.ref cda) cc) hl1 hl2 rfl rfl (X₁ _ _ ho) rfl rfl rfl (X₁ _ _ hcode) rfl hvs hfile T.top ?_
  refine ks_loadName_global rfl hl1 (loadGlobal_builtin (env := ksEnv q (iS f) s.heap.objs.size fI (.ref cda) cc) (G.keeps k) T.nosup (hB.keeps k) hBs ⟨rfl, ?_⟩)
  refine wpAny_loadName_free rfl hl2 rfl ⟨_, X₁ _ _ hcell, rfl⟩ ?_
  refine wpAny_loadName_local rfl hl3 hns' hb1 ?_
  obtain ⟨oD, hD1, hD2⟩ : ∃ oD, h₁.get? C = some oD ∧ oD.data = .cls { name := nm, bases := bs, mro := .ref C :: bm, ns := N, qualname := qn, hasDict := true, slotNames := sn, subclasses := sub, abstract := ab, collection := col, hasDel := false } := ⟨_, X₁ _ _ hC, rfl⟩
  refine ks_wpAny_isType_cls hD1 hD2 ⟨rfl, ?_⟩
  refine ks_wpAny_call_super hD1 hD2 hx₁ rfl (fun c z => by cases z) (looks_mroIn X₁ T.slf) (fun h₂ e₂ k₂ => ?_)
  have X₂ : K.In h₂ := X₁.keeps k₂
  have hx₂ := k₂ _ _ hx₁
  have I : InstAt h₂ e (excO C t0) C none := ⟨hx₂, rfl, rfl, trivial⟩
  have hI : Looks (model prog w) h₂ (isInstance (.ref e) (.type "ValueError")) true := I.type.andThen (looks_subIn X₂ T.veC)
  refine kxs_getMethod kxs_ValueError e₂ (looks_opaque X₂ T.third) (l₀ := .ref C :: bm) (fun A Q E s k q => wpAny_bind ((looks_clsIn X₂ hcl) A _ E s k (wpAny_pure q))) rfl X₂ hsuper hI (ks_ne X₂ I hcl) rfl ?_
  refine kxs_callWith (i := "ValueError.__init__") (x := e) rfl ?_
  refine evalArgs_plain (x := eval (.Constant (.str msg) 0 q3) (ksEnv q (iS f) s.heap.objs.size fI (.ref cda) cc)) (rest := []) ?_
  refine Calls.spliced_cons (Calls.Constant_str ?_)
  refine Calls.spliced_nil ?_
  have hp2 : ∀ b o, h₂.get? b = some o → (h₂.push (kxs_mw "ValueError.__init__" e)).get? b = some o := fun b o z => Heap.get?_push_of_some _ z
  have hu : (h₂.push (kxs_mw "ValueError.__init__" e)).get? h₂.objs.size = some (kxs_mw "ValueError.__init__" e) := Heap.get?_push_at rfl rfl
  refine ⟨hu, ?_⟩
  refine call_mw (hp2 _ _ (X₂ _ _ hC)) (hp2 _ _ hx₂) hu (one_size _) (fun h₃ t1 k₃ hx₃ => ?_)
  have kk : ∀ b o, b ≠ e → h₁.get? b = some o → h₃.get? b = some o := fun b o z hb => k₃ b o z (hp2 b o (k₂ b o hb))
  have X₃ : K.In h₃ := fun a o z => kk a o (fun y => by rw [y, hnx] at z; cases z) (X₁ a o z)
  have hns₃ : h₃.Ns s.heap.objs.size (fun y => ([((f : Str), v), (("self" : Str), Value.ref e)] : List (Str × Value)).lookup y) := by
    obtain ⟨oL, es, ep, hL, r⟩ := hns'
    exact ⟨oL, es, ep, kk _ _ hxL hL, r⟩
  refine wpAt_of_wpAny ?_
  -- self.f = f
  refine wpAny_execs_cons (plainObj_wpAny_Assign_Attribute ?_)
  refine wpAny_Name (wpAny_loadName_local rfl hl4 hns₃ hb2 ?_) hdb
  refine wpAny_Name (wpAny_loadName_local rfl hl3 hns₃ hb1 ?_) (by decide)
  refine set_plain X₃ (ox := excO C t1) (od := none) ⟨hx₃, rfl, rfl, trivial⟩ T.sa ?_
  refine exc_osa X₃ hx₃ hcl (show refsVE (.ref C :: bm) = true from hbm) rfl T.noN (fun h₄ tk₄ dx k₄ dn dne hx₄ hn₄ => ?_)
  have z : s.heap.objs.size < h₃.objs.size := hns₃.lt
  exact wpAny_execs_nil (hq h₄ tk₄ dx t1 ⟨fun b o hb y => k₄ b o hb (kk b o hb (k b o y)), hx₄, Nat.le_of_lt (Nat.lt_of_lt_of_le z dn), dne, hn₄⟩)
theorem sup_init (T : SupTxt prog K mg x f msg C fI) {e t0 : Addr} {v : Value} (X : K.In s.heap) (G : s.heap.Ns mainGlobals mg) (B : ∃ mb, s.heap.Ns builtinsNs mb ∧ mb "super" = some (.type "super")) (hlim : s.heap.NoLimit) (hx : s.heap.get? e = some (excO C t0)) (hnx : K.lookup e = none) (hroom : A.depth < recursionLimit)
    (hq : ∀ h' tk dx t1, InitEnd f s.heap h' e C dx t1 v → R (.ok (.ret .none)) { s with heap := h', toks := tk }) :
    codeAny (model prog w) A (.call (.ref fI) ⟨[.ref e, v], []⟩) R s := by
  rcases T.fok with hf | hf
  · subst hf
    exact sup_initG T X G B hlim hx hnx hroom rfl rfl rfl rfl (by decide) rfl rfl (by decide) (fun _ _ _ _ _ _ _ _ _ _ => .of_eq (by first | rfl | with_unfolding_all rfl)) hq
  · subst hf
    exact sup_initG T X G B hlim hx hnx hroom rfl rfl rfl rfl (by decide) rfl rfl (by decide) (fun _ _ _ _ _ _ _ _ _ _ => .of_eq (by first | rfl | with_unfolding_all rfl)) hq
theorem sup_made (T : SupTxt prog K mg x f msg C fI) {v : Value} (X : K.In s.heap) (G : s.heap.Ns mainGlobals mg) (B : ∃ mb, s.heap.Ns builtinsNs mb ∧ mb "super" = some (.type "super")) (hlim : s.heap.NoLimit) (hroom : A.depth + 1 < recursionLimit)
    (hq : ∀ h' tk e d, OwnMade f s.heap h' e C d v → R (.ok (.ret (.ref e))) { s with heap := h', toks := tk }) :
    codeAny (model prog w) A (.call (.ref C) ⟨[v], []⟩) R s := by
  obtain ⟨nm, q, N, bs, bm, sn, sub, ab, col, dd, k0, k1, k2, k3, k5, hC, hbm⟩ := T.cls
  obtain ⟨mb, hB, hBs⟩ := B
  obtain ⟨hp, g, dr, tk, os⟩ := s
  have k : ∀ b o, hp.get? b = some o → ((hp.push (kdv_tup [v])).push (excO C hp.objs.size)).get? b = some o := fun b o e => Heap.get?_push_of_some _ (Heap.get?_push_of_some _ e)
  have hget : ((hp.push (kdv_tup [v])).push (excO C hp.objs.size)).get? (hp.objs.size + 1) = some (excO C hp.objs.size) := by heap_get
  have hnx : K.lookup (hp.objs.size + 1) = none := by
    cases e : K.lookup (hp.objs.size + 1) with
    | none => rfl
    | some o =>
      have z : hp.get? (hp.objs.size + 1) = some o := X _ _ e
      exact absurd (Nat.lt_of_succ_lt (Heap.lt_size z)) (Nat.lt_irrefl _)
  refine call_own F.excBase_ValueError (fun X => refsVE_contains X bm hbm) (X _ _ hC) (looks_findIn X T.iC) (fun self => bind_fn X self T.tC) (one_size v) ?_
  refine sup_init (s := ⟨(hp.push (kdv_tup [v])).push (excO C hp.objs.size), g, dr, tk, os⟩) T (X.keeps k) (G.keeps k) ⟨mb, hB.keeps k, hBs⟩ (hlim.keeps k) hget hnx ?_ fun h' tk' dx t1 ⟨k', hx, dn, dne, hns⟩ => ?_
  · show A.depth + 1 < recursionLimit
    exact hroom
  · have old : ∀ b o, hp.get? b = some o → h'.get? b = some o := fun b o e => k' b o (Nat.ne_of_lt (Nat.lt_succ_of_lt (Heap.lt_size e))) (k b o e)
    have z : hp.objs.size + 1 + 1 ≤ dx := by
      first
        | (simpa only [Heap.size_push] using dn)
        | exact dn
        | (have q := dn; rw [Heap.size_push, Heap.size_push] at q; exact q)
    exact ⟨rfl, hq h' tk' (hp.objs.size + 1) dx ⟨old, Nat.le_succ _, ⟨_, _, hx, rfl, rfl, rfl, rfl⟩, Nat.le_trans (Nat.le_trans (Nat.le_succ _) (Nat.le_succ _)) z, dne, hns⟩⟩
end
end SupX
end PySem
namespace L2
open PySem PySem.Spec PyProof.Rows
theorem relO_fld {f : Str} {v : V} {v' : Value} (r : RelV v v') (g : Str) : RelO (List.lookup g [(f, v)]) (if g = f then some v' else none) := by
  by_cases hw : g = f
  · subst hw
    rw [if_pos rfl]
    have q : List.lookup g [(g, v)] = some v := by simp [List.lookup]
    rw [q]
    exact r
  · rw [if_neg hw]
    have qw : (g == f) = false := by simpa using hw
    have q2 : List.lookup g [(f, v)] = none := by simp [List.lookup, qw]
    rw [q2]
    trivial
section
variable {X : Cx} {C fI : Addr} {x f msg : Str}
def tMkS (f : Str) (C : Addr) (ta : TA) : St → Hp → XK → Prop := fun σ H Q => ta σ H fun vs H1 => ∃ v, vs = [v] ∧ ∀ d, H1 d = none → Q (.ref C) (some d) (upd H1 d (.xd [(f, v)]))
theorem pmk_sup {a : Expr} {ta : TA} {p pos : Pos} {k : Nat} (T : PySem.SupX.SupTxt X.prog X.K X.mg x f msg C fI) (hr : Room k X.A) (ha : PA X [a] ta) (hg : Gl X x) (hdb : (x == ("__debug__" : Str)) = false)
    (he : starEach (a :: []) X.env = (false, eval a X.env) :: starEach [] X.env := by rfl) (hpl : (backTo pos (starEach [] X.env)).any (·.1) = false := by rfl) :
    PMk X (.Call (.Name x p) [a] [] pos) (tMkS f C ta) := by
  intro pins s σ H Q I h
  refine wpAny_Call_Name_kw (ld_glob I hg T.gC ?_ hdb)
  refine PySem.W.callWith_K (h₀ := X.base) I.ok.mod.kin T.kC (thn (ha.run pos pins s σ H _ I h) fun us s1 hh => ?_) he hpl
  obtain ⟨vs, H1, I1, r1, v, ev, q1⟩ := hh
  subst ev
  refine ⟨I1.kIn, ?_⟩
  cases r1 with
  | cons rv rn =>
    rename_i v' us'
    cases rn
    show wpAny _ _ (call (.ref C) [v']) _ _ _
    have hlim := I1.nolimit
    have hG : s1.heap.Ns mainGlobals X.mg := I1.mod.glob.keeps I1.bk
    obtain ⟨mb, b1, b2⟩ := I1.mod.blt
    have hB : s1.heap.Ns builtinsNs mb := b1.keeps I1.bk
    have hS : mb "super" = some (.type "super") := (b2 "super" (by decide)).trans (by decide +kernel)
    obtain ⟨hp, g, dr, tk, os⟩ := s1
    refine wpAny_call (PySem.SupX.sup_made T I1.kIn hG ⟨mb, hB, hS⟩ hlim (by have := hr.dp; omega) fun h' tk' e d M => ?_)
    show MkP X pins σ Q (.ref e) ⟨h', g, dr, tk', os⟩
    obtain ⟨oe, fv, hoe, hc, hd, hdat, h1⟩ := M.obj
    have hns := M.ns
    obtain ⟨G', g1, g2⟩ := restrict h' fun b => decide (b ≠ e)
    have gk : ∀ b, b ≠ e → G'.get? b = h'.get? b := fun b hb => g1 b (decide_eq_true hb)
    have ge : G'.get? e = none := g2 e (by simp)
    have old : ∀ b o, hp.get? b = some o → G'.get? b = some o := fun b o q => (gk b (Nat.ne_of_lt (Nat.lt_of_lt_of_le (Heap.lt_size q) M.new))).trans (M.keep b o q)
    have ob : ObjOk X.prog X.w (upd H1 d (.xd [(f, v)])) G' d (.xd [(f, v)]) :=
      ⟨_, hns.at (fun o q => (gk d M.dne).trans q), fun g => relO_fld rv g⟩
    have J : Inv X pins σ (upd H1 d (.xd [(f, v)])) ⟨G', g, dr, tk', os⟩ := I1.laid (t' := tk') old M.dbig ob
    refine ⟨e, oe, fv, ⟨G', g, dr, tk', os⟩, _, .ref C, some d, rfl, J, fun b o q => ?_, ge, hoe, ⟨hc, hd⟩, hdat, h1, ?_, rfl, I1.bare, raises_own T.exC T.tyC, q1 d (I1.hok.fresh M.dbig)⟩
    · by_cases hb : b = e
      · have q' : G'.get? b = some o := q
        rw [hb, ge] at q'; cases q'
      · exact (gk b hb).symm.trans q
    · rw [upd_ne (Ne.symm M.dne)]
      exact I1.hok.fresh M.new
end
end L2
namespace ML
open PySem PySem.Spec L2
section
variable {X : Cx} {W : WX} {a : Expr} {ma : MX} {pos : Pos}
def mRaise (x f : Str) (ma : MX) : MS := fun ρ st => (ma ρ st).toS ρ fun d st1 => .er ⟨x, [(f, d)]⟩ ρ st1
theorem ms_raise {x f msg : Str} {C fI : Addr} {k : Nat} {p pos2 : Pos} (T : PySem.SupX.SupTxt X.prog X.K X.mg x f msg C fI) (hr : Room k X.A) (tk : Takes X W) (ha : PE X a (tE X W ma)) (hc : X.calm = true := by rfl) (hg : Gl X x := by rfl) (hdb : (x == ("__debug__" : Str)) = false := by decide)
    (he : starEach (a :: []) X.env = (false, eval a X.env) :: starEach [] X.env := by rfl) (hpl : (backTo pos (starEach [] X.env)).any (·.1) = false := by rfl) :
    PS X (.Raise (some (.Call (.Name x p) [a] [] pos)) none pos2) (tS X W (mRaise x f ma)) := (ps_raise hc tk (pmk_sup T hr (pa_cons ha pa_nil he) hg hdb he hpl)).imp fun D σ H ⟨φ, ρ, st, rs, re, h⟩ => by
  refine ⟨φ, ρ, st, rs, re, ?_⟩
  refine h.exp re fun φ1 d v H1 st1 e1 rs1 rv1 h1 => ?_
  refine ⟨v, rfl, fun dx hd => ?_⟩
  have e2 := ext_new (φ := φ1) (o := .xd [(f, v)]) hd
  refine h1 φ1 _ _ σ _ e2 (rs1.new hd) ((re.ext e1).ext e2) ⟨T.gC, .inr ⟨dx, _, rfl, upd_same, rs1.notin hd, rfl, .cons (rv1.ext e2) .nil⟩⟩
end
def tV (X : Cx) (i : Nat) (a : Addr) (cls : Value) (C : Addr) (d : Option Addr) (x : Str) (fl : List Str) (g : Er → A) : TE := fun σ H Q => cls = .ref C ∧ σ[i]? = some (some (.ref a)) ∧ ∃ er φ st, RS X.K X.w X.mg φ H st ∧ RErr X.K X.mg φ H cls d er ∧ er.cls = x ∧ er.fs.map (·.1) = fl ∧ ∀ φ' H' u, Ext φ H φ' H' → RS X.K X.w X.mg φ' H' st → RV X.K φ' H' u (g er) → Q u H'
def tVs (X : Cx) (i : Nat) (a : Addr) (cls : Value) (C : Addr) (d : Option Addr) (x : Str) (fl : List Str) (g : Er → List A) : TA := fun σ H Q => cls = .ref C ∧ σ[i]? = some (some (.ref a)) ∧ ∃ er φ st, RS X.K X.w X.mg φ H st ∧ RErr X.K X.mg φ H cls d er ∧ er.cls = x ∧ er.fs.map (·.1) = fl ∧ ∀ φ' H' us, Ext φ H φ' H' → RS X.K X.w X.mg φ' H' st → RVs X.K φ' H' us (g er) → Q us H'
structure ClsX (K : PySem.W.Frag) (C : Addr) : Prop where
  hcl : (PySem.W.clsIn K C).isSome = true
  ga : PySem.W.findIn K (.ref C) "__getattribute__" = some (some (.builtin "BaseException.__getattribute__"))
  gg : PySem.W.findIn K (.ref C) "__getattr__" = some none
  exC : PySem.W.subIn K (.ref C) (.type "BaseException") = some true
  hdC : PySem.W.hasDictIn K C = true
  ha : PySem.W.findIn K (.ref C) "__class__" = some (some (.builtin "object.__class__"))
  hn : PySem.W.specialIn K (.builtin "object.__class__") "__get__" = some (some (.builtin "getset_descriptor.__get__"))
  ht : PySem.W.takesIn K (.builtin "object.__class__") = some true
  hm : PySem.W.mroIn K C (.type "object") = some true
section
variable {X : Cx} {i : Nat} {ad C : Addr} {cls : Value} {d : Option Addr} {x : Str} {fl : List Str} {oe : Obj} {pn : List (Addr × Obj)} {e e' : Expr} {es : List Expr} {pos : Pos} {g g' : Er → A} {gs : Er → List A}
theorem xv_str {z : Str} {j pos} : PE X (.Constant (.str z) j pos) (tV X i ad cls C d x fl fun _ => .str z) := pe_str.imp fun _ _ _ ⟨_, _, _, _, _, rs, _, _, _, h⟩ => h _ _ _ .refl rs (.str z)
def fldE (f : Str) (er : Er) : A := match er.fs with
  | [(_, v)] => v
  | _ => .non
theorem xv_fld {f n : Str} {p : Pos} (T : ClsX X.K C) (hno : PySem.W.findIn X.K (.ref C) f = some none) (hz : Zc cls d oe) (hf : ∃ vs, oe.data = .fields vs) (hn : PE (X.suite ad ((ad, oe) :: pn)) (.Name n p) (tVar i))
    (hb : attributeBase (.Name n p) f X.env (eval (.Name n p) X.env) = eval (.Name n p) X.env := by rfl) : PE (X.suite ad ((ad, oe) :: pn)) (.Attribute (.Name n p) f pos) (tV X i ad cls C d x [f] (fldE f)) :=
  (pe_xf ⟨T.ga, T.gg, T.exC, T.hdC⟩ hno hz hf hn hb).imp fun σ H Q ⟨hcl, hs, er, φ, st, rs, r, ex, ef, h⟩ => by
    refine ⟨_, hs, rfl, hcl, ?_⟩
    obtain ⟨_, ⟨q, _⟩ | ⟨dx, xs, q1, q2, q3, q4, q5⟩⟩ := r
    · rw [q] at ef
      cases ef
    · obtain ⟨c, fs⟩ := er
      simp only at ef q4 q5 h
      match fs, ef with
      | [(f', v)], ef =>
        simp at ef
        subst ef
        match xs, q4, q5 with
        | [(f2, u)], q4, q5 =>
          simp at q4
          subst q4
          obtain ⟨w, hw, rv⟩ := one_rv q5
          simp at hw
          subst hw
          exact ⟨dx, _, u, q1, q2, by simp [List.lookup], h _ _ _ .refl rs rv⟩
theorem xvs_nil : PA X [] (tVs X i ad cls C d x fl fun _ => []) := pa_nil.imp fun _ _ _ ⟨_, _, _, _, _, rs, _, _, _, h⟩ => h _ _ _ .refl rs .nil
theorem xvs_cons (ha : PE X e (tV X i ad cls C d x fl g)) (hr : PA X es (tVs X i ad cls C d x fl gs)) (hs : starEach (e :: es) X.env = (false, eval e X.env) :: starEach es X.env := by rfl) : PA X (e :: es) (tVs X i ad cls C d x fl fun er => g er :: gs er) :=
  (pa_cons ha hr hs).imp fun σ H Q ⟨hcl, hs, er, φ, st, rs, r, ex, ef, h⟩ =>
    ⟨hcl, hs, er, φ, st, rs, r, ex, ef, fun φ1 H1 u e1 rs1 rv1 => ⟨hcl, hs, er, φ1, st, rs1, r.ext e1, ex, ef, fun φ2 H2 us e2 rs2 rv2 => h φ2 H2 _ (e1.trans e2) rs2 (.cons (rv1.ext e2) rv2)⟩⟩
theorem xv_tup {x1} (h : PA X es (tVs X i ad cls C d x fl gs)) (hl : ∀ er, (gs er).length ≤ 1000) : PE X (.Tuple es x1 pos) (tV X i ad cls C d x fl fun er => .tup (gs er)) :=
  (pe_tupP h).imp fun σ H Q ⟨hcl, hs, er, φ, st, rs, r, ex, ef, h⟩ =>
    ⟨hcl, hs, er, φ, st, rs, r, ex, ef, fun φ1 H1 us e1 rs1 rv1 => ⟨by
      have := hl er
      rw [rv1.length, sizeLine_eq]
      omega, fun p o hd hp => h φ1 _ _ (e1.trans (ext_new hp)) (rs1.new hp) (.newTup rs1 hd hp rv1)⟩⟩
end
def tSu (X : Cx) (i : Nat) (a : Addr) (cls : Value) (C : Addr) (d : Option Addr) (x : Str) (fl : List Str) (g : Er → A) : TS := fun D σ H => tV X i a cls C d x fl g σ H D.rt
end ML
namespace L2
open PySem PySem.Spec PyProof.Rows
abbrev Claus := Value × (Addr → Value → Option Addr → TS)
def onlyRt (D : Ends) : Ends := { nx := fun _ _ => False, rt := D.rt }
inductive Clauses (X : Cx) (n : Str) : List ExceptHandler → List Claus → Prop
  | nil : Clauses X n [] []
  | cons {x : Str} {c : Value} {ts : Addr → Value → Option Addr → TS} {b₀ : Stmt} {suite : List Stmt} {np pos' : Pos} {hds : List ExceptHandler} {l : List Claus} (hc : Names X x c)
      (hsu : ∀ (a : Addr) (oe : Obj) (cls : Value) (d : Option Addr) (pn : List (Addr × Obj)), Zc cls d oe → (∃ vs, oe.data = .fields vs) → PSs (X.suite a ((a, oe) :: pn)) (b₀ :: suite) (ts a cls d)) (r : Clauses X n hds l) :
      Clauses X n (.ExceptHandler (some (.Name x np)) (some n) (b₀ :: suite) pos' :: hds) ((c, ts) :: l)
def wCls (K : PySem.W.Frag) (i : Nat) (D : Ends) : List Claus → WX
  | [], _, _, _, _ => False
  | (c, ts) :: l, cls, d, σ, H => ∃ b, PySem.W.exmOne K cls c = some b ∧ (b = true → ∀ a, H a = none → ts a cls d (onlyRt D) (σ.set i (some (.ref a))) H) ∧ (b = false → wCls K i D l cls d σ H)
section
variable {X : Cx} {n : Str} {i : Nat} {D : Ends} {pins : List (Addr × Obj)}
theorem clauses_ok (ok : X.Ok) (hf : X.env.frame = some X.env.locals) (hN : X.N.Nodup) (hi : X.N[i]? = some n) (hln : X.env.kindOf n = some .local) {a : Addr} {cls : Value} {d : Option Addr} {B : Heap} {s' : Shared} {h3 : Heap} {σ' : St} {H' : Hp}
    (fl3 : HandSPX.FlyingZ B (X.env :: X.outer) a (Zc cls d) h3) (J3 : ∀ h4, HandSPX.FlyingZ B (X.env :: X.outer) a (Zc cls d) h4 → h3.UpToSlots h4 → Inv X pins σ' H' { s' with heap := h4 }) (na : H' a = none) (nL : a ≠ X.env.locals) (nF : a ∉ X.fs) :
    ∀ {hds : List ExceptHandler} {l : List Claus}, Clauses X n hds l → wCls X.K i D l cls d σ' H' → wpAny (model X.prog X.w) X.A (handleBy (.ref a) X.env hds) (SP X pins D) X.xe { s' with heap := h3 } := by
  intro hds l hk
  induction hk with
  | nil => exact fun w => w.elim
  | @cons x c ts b₀ suite np pos' hds2 l2 hc hsu r ih =>
    rintro ⟨b, hb, hyes, hno⟩
    have I3 := J3 h3 fl3 (Heap.UpToSlots.refl _)
    obtain ⟨oe, vs, he, hz, hd⟩ := fl3.there
    have S := I3.suite he hd na nL nF
    refine wpAny_handleBy_cons (codeAny_handlers_test ?_) (by intro q; cases q)
    have look : PySem.W.Looks (model X.prog X.w) h3 (typeOf (.ref a)) cls := fun A Q E s k q => wpAny_typeOf_ref (k _ _ he) (by rw [hz.1]; exact q)
    have goes := PySem.W.exm_one (M := model X.prog X.w) I3.kIn look hb
    have name : ∀ {Q : Value → Shared → Prop} {E : Value → Shared → Prop}, Q c { s' with heap := h3 } → wpAny (model X.prog X.w) (X.A.mark (some (.ref a))) (eval (.Name x np) X.env) Q E { s' with heap := h3 } := fun q => by
      obtain ⟨g, db, m | ⟨m, v, nn⟩⟩ := hc
      · exact ld_glob (X := X.suite a ((a, oe) :: (X.pn ++ pins))) S g m q db
      · exact ld_blt (X := X.suite a ((a, oe) :: (X.pn ++ pins))) S g m v q nn db
    refine name (goes.here ?_)
    cases b with
    | false => exact ih (hno rfl)
    | true =>
      refine codeAny_handlers_suite_as (HandSPX.lands_againZ fl3 fun h4 fl4 up4 => ?_)
      have I4 := J3 h4 fl4 up4
      obtain ⟨oe4, vs4, he4, hz4, hd4⟩ := fl4.there
      refine store_ok (X := X.suite a ((a, oe4) :: (X.pn ++ pins))) (v := .ref a) (I4.suite he4 hd4 na nL nF) hN hi (.inl hln) rfl (fun s5 S5 => ?_) (.inr hln)
      refine wpAny_mono ((hsu a oe4 cls d (X.pn ++ pins) hz4 ⟨_, hd4⟩).run [] s5 _ H' _ S5 (hyes rfl a na)) (fun f s6 out => ?_) (fun _ _ z => False.elim z)
      cases f with
      | ret u =>
        obtain ⟨v6, σ6, H6, S6, r6, q6⟩ := out
        exact gone_ok (S6.unsuite ok) hN hi hln fun s7 J7 => ⟨_, _, _, J7, r6, q6⟩
      | _ =>
        obtain ⟨_, _, _, q⟩ := out
        exact q.elim
theorem ps_try_cls {body : List Stmt} {h₀ : ExceptHandler} {hds : List ExceptHandler} {l : List Claus} {pos : Pos} {tb : WX → TS} {Wout : WX} (hs : X.stack = X.env :: X.outer) (hf : X.env.frame = some X.env.locals) (hN : X.N.Nodup) (hi : X.N[i]? = some n) (hln : X.env.kindOf n = some .local)
    (hb : ∀ (W : WX) (pn : List (Addr × Obj)) (xe : Value → Shared → Prop), Takes (X.tr pn xe) W → PassesOwn (model X.prog X.w) X.A X.env xe → PSs (X.tr pn xe) body (tb W))
    (hh : Clauses X n (h₀ :: hds) l) : PS X (.Try body (h₀ :: hds) [] [] pos) (fun D σ H => tb (wCls X.K i D l) D σ H) := by
  refine ⟨fun pins s σ H D I h => ?_⟩
  have ok := I.ok
  have hfr : X.A.frames = some (X.env :: X.outer) := by rw [ok.frames, hs]
  let xe' : Value → Shared → Prop := fun e s₁ => wpAny (model X.prog X.w) X.A (noteFrame e X.env) (fun _ s₂ => wpAny (model X.prog X.w) X.A (setFlight e none) (fun _ s₃ =>
    wpAny (model X.prog X.w) X.A (handleBy e X.env (h₀ :: hds)) (SP X pins D) X.xe s₃) X.xe s₂) X.xe s₁
  have tk : Takes (X.tr (X.pn ++ pins) xe') (wCls X.K i D l) := fun u s' xx => by
    obtain ⟨a, B, sI, pins', σ', H', cls, d, rfl, J', nb, up, sky, na, os, ag, w⟩ := xx
    have J : Inv X pins σ' H' sI := J'.ofTry ok
    have sky' : Sky B (X.env :: X.outer) a (Zc cls d) X.env.locals s'.heap := by rw [← hs]; exact sky
    refine Sky.land Zc.steady hfr hf sky' fun h3 fl3 up3 => ?_
    obtain ⟨oe, vs, he, hz, hd⟩ := fl3.there
    have nfr : a ∉ frs (X.env :: X.outer) := fun hm => by
      obtain ⟨_, o', e', hnf⟩ := fl3.2.2.1.mem hm
      rw [he] at e'
      cases e'
      exact hnf _ hd
    refine clauses_ok ok hf hN hi hln fl3 (fun h4 fl4 up4 => J.landed nb fl4.1 ((up.trans up3).trans up4) os ag) na (fun z => nfr (List.mem_filterMap.mpr ⟨X.env, List.mem_cons_self, by rw [hf, z]⟩)) (fun hm => ?_) hh w
    obtain ⟨e, he, q⟩ := List.mem_filterMap.mp hm
    exact nfr (List.mem_filterMap.mpr ⟨e, List.mem_cons_of_mem _ he, q⟩)
  refine wpAny_Try_except ?_
  refine wpAny_mono ((hb (wCls X.K i D l) (X.pn ++ pins) xe' tk PassesOwn.looking).run [] s σ H D (I.toTry _) h) (fun f s1 out => ?_) (fun e s1 he => he)
  cases f with
  | next =>
    obtain ⟨σ1, H1, J1, q⟩ := out
    exact wpAny_execs_nil ⟨σ1, H1, J1.ofTry ok, q⟩
  | brk =>
    obtain ⟨σ1, H1, J1, q⟩ := out
    exact ⟨σ1, H1, J1.ofTry ok, q⟩
  | cont =>
    obtain ⟨σ1, H1, J1, q⟩ := out
    exact ⟨σ1, H1, J1.ofTry ok, q⟩
  | ret u =>
    obtain ⟨v, σ1, H1, J1, r, q⟩ := out
    exact ⟨v, σ1, H1, J1.ofTry ok, r, q⟩
end
end L2
namespace ML
open PySem PySem.Spec L2
section
variable {X : Cx} {W : WX} {i : Nat} {n x1 x2 : Str} {C1 C2 : Addr} {fl1 fl2 : List Str} {g1 g2 : Er → A} {m : MS} {body s1 s2 : List Stmt} {b1 b2 : Stmt} {np1 np2 pos pos1 pos2 : Pos}
theorem pss_retE {e : Expr} {rp : Pos} {a : Addr} {cls : Value} {d : Option Addr} {C : Addr} {x : Str} {fl : List Str} {g : Er → A} {oe : Obj} {pn : List (Addr × Obj)} (h : PE (X.suite a ((a, oe) :: pn)) e (tV X i a cls C d x fl g)) : PSs (X.suite a ((a, oe) :: pn)) [.Return (some e) rp] (tSu X i a cls C d x fl g) :=
  pss_one ((ps_ret h).imp fun D σ H h => h)
end
end ML
namespace PySem
open PyProof.Rows
theorem meets_enum_one {v : Value} {o : Obj} {H : Heap → Prop} (B : Begins v o H) :
    Meets (Builtin.«enumerate.__new__» ⟨[.type "enumerate", v], []⟩) (fun _ R s => H s.heap ∧
      R (.ok (.ret (.ref (s.heap.push o).objs.size))) { s with heap := (s.heap.push o).push { cls := .type "enumerate", data := .fields #[.none, .bool false, .ref s.heap.objs.size, rawInt 0, .none, .none] } }) :=
  .of_wp fun prog w A R s h => by
    obtain ⟨hp, g, d, tk, os⟩ := s
    obtain ⟨h1, h⟩ := h
    have hsub := sub_enumerate
    have begin : ∀ {A' : Around} {E : Value → Shared → Prop} {Q : Value → Shared → Prop}, Q (.ref hp.objs.size) ⟨hp.push o, g, d, tk, os⟩ → wpAny (model prog w) A' (pyIter v) Q E ⟨hp, g, d, tk, os⟩ :=
      fun q => B.iter prog w _ _ ⟨hp, g, d, tk, os⟩ _ h1 q
    wp_walk using begin
    refine wpAny_stack_any fun st => wpAny_pure ?_
    split
    · rename_i c _ _ _ _ _
      cases (c == Value.type "enumerate")
      · wp_walk using begin
        exact ⟨_, rfl, h⟩
      · wp_walk using begin
        exact ⟨_, rfl, h⟩
    · wp_walk using begin
      exact ⟨_, rfl, h⟩
section
variable {prog : Program} {w : World} {A : Around} {E : Value → Shared → Prop} {s : Shared}
theorem enum_one {v : Value} {o : Obj} {H : Heap → Prop} {Q : Value → Shared → Prop} (B : Begins v o H) (h1 : H s.heap)
    (h : ∀ h', IsEnum h' (s.heap.objs.size + 1) s.heap.objs.size 0 .none → h'.get? s.heap.objs.size = some o → h'.objs.size = s.heap.objs.size + 2 →
      (∀ b o, s.heap.get? b = some o → h'.get? b = some o) → Q (.ref (s.heap.objs.size + 1)) { s with heap := h' }) :
    wpAny (model prog w) A (call (.type "enumerate") [v]) Q E s := by
  refine callType_new F.called_enumerate (by decide) (F.typeCall_enumerate_1 _) (F.newCall_enumerate_1 _) (fun obj => F.args_object_init_2 obj _) F.entry_enumerate_new (meets_enum_one B) ⟨h1, ?_⟩
  have hz : (s.heap.push o).objs.size = s.heap.objs.size + 1 := Heap.size_push ..
  show _ ∧ _
  rw [hz]
  have he : IsEnum ((s.heap.push o).push { cls := .type "enumerate", data := .fields #[.none, .bool false, .ref s.heap.objs.size, rawInt 0, .none, .none] }) (s.heap.objs.size + 1) s.heap.objs.size 0 .none := by
    have := Heap.get?_push_size (s.heap.push o) (o := { cls := .type "enumerate", data := .fields #[.none, .bool false, .ref s.heap.objs.size, rawInt 0, .none, .none] }) rfl
    rw [hz] at this
    exact this
  exact ⟨⟨_, he, rfl⟩, h _ he (Heap.get?_push_of_some _ (Heap.get?_push_size _ B.free)) (by rw [Heap.size_push, hz]) fun b o x => Heap.get?_push_of_some _ (Heap.get?_push_of_some _ x)⟩
end
end PySem
namespace L2
open PySem PySem.Spec PyProof.Rows
def IteT (K : PySem.W.Frag) (a : Addr) : It :=
  ⟨fun i H => ∃ (xs : List V) (x : V), SqT K H a xs ∧ xs[i]? = some x, fun i H v H' => ∃ T x, v = .ref T ∧ H T = none ∧ H' = upd H T (.tup [.int (i : Nat), x]) ∧ ∀ xs, SqT K H a xs → xs[i]? = some x, fun i H => ∃ xs : List V, SqT K H a xs ∧ xs.length ≤ i⟩
theorem turn_enumT {P : Program} {w : World} {K : PySem.W.Frag} {elts : List Expr} {kk : Nat} {tpos : Pos} (a e it : Addr) :
    Turn P w K (.Tuple elts kk tpos) (IteT K a) [e, it] e (fun i h => (∃ old, IsEnum h e it ((i : Nat) : Int) old) ∧ h.IsTupleIter it a i ∧ e ≠ it) where
  mem := by simp
  obj := fun i h st b hb => by
    obtain ⟨⟨old, he⟩, ⟨o, ho, hc, hd⟩, _⟩ := st
    have e' : b = e ∨ b = it := by simpa using hb
    rcases e' with z | z
    · rw [z]; exact ⟨_, he, fun v q => nomatch q⟩
    · rw [z]; exact ⟨o, ho, fun v q => by rw [hd] at q; cases q⟩
  keep := fun i h h' st k => let ⟨⟨old, he⟩, hi, hne⟩ := st; ⟨⟨old, k e (by simp) _ he⟩, hi.at fun o q => k it (by simp) o q, hne⟩
  item := by
    intro X hP hw hK hc i pins s σ H E I hf st hg
    subst hP hw hK
    obtain ⟨⟨old, he⟩, hit, hne⟩ := st
    obtain ⟨xs, x, hq, hx⟩ := hg
    obtain ⟨its, rv, p, hz⟩ := I.tuple hq
    obtain ⟨u, hu, ru⟩ := rv.get hx
    have hel : e < s.heap.objs.size := Heap.lt_size he
    have hil : it < s.heap.objs.size := by obtain ⟨_, q, _⟩ := hit; exact Heap.lt_size q
    have pt : s.heap.IsTuple a its.toArray := p
    have hta : a ≠ it := fun z => by
      obtain ⟨o, ho, hc', _⟩ := hit
      obtain ⟨o2, ho2, hc2, _⟩ := pt
      rw [z, ho] at ho2
      cases ho2
      have z2 : Value.type "tuple_iterator" = .type "tuple" := hc'.symm.trans hc2
      exact absurd (Value.type.inj z2) (by decide)
    have hea : e ≠ a := fun z => by
      obtain ⟨o2, ho2, hc2, _⟩ := pt
      rw [← z] at ho2
      have he' : s.heap.get? e = some _ := he
      rw [he'] at ho2
      cases ho2
      have z2 : Value.type "enumerate" = .type "tuple" := hc2
      exact absurd (Value.type.inj z2) (by decide)
    have hi : i < its.toArray.size := by
      have := (List.getElem?_eq_some_iff.mp hu).1
      simpa using this
    refine wpAny_pyNext_enum_itemD (Draws.tuple (prog := X.prog) (w := X.w) (A := X.A.in1) (I.ok.hd hc) it a hta its.toArray) he ⟨hit, pt⟩ hi hne (by simp [hne, hea]) fun x1 h' tk hP ho hst hT hsz hk => ?_
    have ex : x1 = u := by
      have h1 : its.toArray[i]? = some x1 := hP
      have h2 : its.toArray[i]? = some u := by simpa using hu
      rw [h1] at h2
      exact Option.some.inj h2
    subst ex
    refine ⟨_, rfl, wpAny_letOwnedTupleGo_enum (s := { s with heap := h', toks := tk + 1 }) ho fun h'' he' sb => ?_⟩
    have hT2 : h''.get? s.heap.objs.size = some { cls := .type "tuple", data := .seq #[.int i tk, x1] } := (sb.2 _ (Nat.ne_of_gt hel)).trans hT
    have new : ObjOk X.prog X.w (upd H s.heap.objs.size (.tup [.int (i : Nat), x])) h'' s.heap.objs.size (.tup [.int (i : Nat), x]) :=
      ⟨by show 2 ≤ sizeLine; decide, [.int i tk, x1], .cons ⟨_, rfl⟩ (.cons ru .nil), ⟨_, hT2, rfl, _, rfl⟩⟩
    have I1 : Inv X pins σ (upd H s.heap.objs.size (.tup [.int (i : Nat), x])) { s with heap := h'', toks := tk + 1 } :=
      I.turnedNew (ch := [e, it]) (fun b ob hb q => (sb.2 b (fun z => hb (by simp [z]))).trans (hk b ob (fun z => hb (by simp [z])) (fun z => hb (by simp [z])) q)) hf (Nat.le_refl _) new
    refine ⟨.ref s.heap.objs.size, _, I1, rfl, ⟨_, x, rfl, I.hok.fresh (Nat.le_refl _), rfl, fun ys hy => by rw [I.tuple_inj hy hq]; exact hx⟩, ⟨⟨x1, ?_⟩, hst.1.at fun o q => (sb.2 it (Ne.symm hne)).trans q, hne⟩, fun b hb => ?_⟩
    · have e1 : ((i + 1 : Nat) : Int) = (i : Int) + 1 := by omega
      rw [e1]
      exact he'
    · have hb' : b < s.heap.objs.size := by
        have e' : b = e ∨ b = it := by simpa using hb
        rcases e' with z | z
        · rw [z]; exact hel
        · rw [z]; exact hil
      rw [upd_ne (Nat.ne_of_lt hb')]
      exact (hf b hb).1
  done := by
    intro X hP hw hK hc i pins s σ H E I hf st hg
    subst hP hw hK
    obtain ⟨⟨old, he⟩, hit, hne⟩ := st
    obtain ⟨xs, hq, hx⟩ := hg
    obtain ⟨its, rv, p, hz⟩ := I.tuple hq
    obtain ⟨f0, f1, f2, f3, f4, f5⟩ := hf it (by simp)
    have hl := rv.length
    have pt : s.heap.IsTuple a its.toArray := p
    have D : Draws X.prog X.w X.A.in1 it [it, a] i (fun _ _ => False) (fun j h => j = i ∧ h.IsTupleIter it a i ∧ h.IsTuple a its.toArray) :=
      { live := fun _ _ st => let ⟨o, ho, _⟩ := st.2.1; ⟨o, ho⟩
        frame := fun _ _ _ st k => ⟨st.1, st.2.1.at fun o q => k it (by simp) o q, st.2.2.at fun o q => k a (by simp) o q⟩
        item := fun j s Q E hj st _ => absurd hj (by have := st.1; omega)
        done := fun s Q E st hE => wpAny_nextOf_tuple_end (I.ok.hd hc) st.2.1 st.2.2 (by simp; omega) hE }
    exact wpAny_pyNext_enum_endD D he ⟨rfl, hit, pt⟩ fun h' eb => ⟨rfl, I.turned (t' := s.toks) (fun b o hb q => eb b o hb q) f0 f1 f3 f4 f5⟩
  self := fun A i s Q E st h => let ⟨⟨_, he⟩, _⟩ := st; wpAny_pyIter_enum he h
def iEnumT (K : PySem.W.Frag) (ta : TA) : TI := fun σ H R => ta σ H fun vs H1 => ∃ a xs, vs = [.ref a] ∧ SqT K H1 a xs ∧ R (IteT K a) H1
theorem pi_enumT {X : Cx} {e : Expr} {ta : TA} {p pos tpos : Pos} {elts : List Expr} {kk : Nat} (hg : Gl X "enumerate") (hm : X.mg "enumerate" = none) (ha : PA X [e] ta) (hs : starEach [e] X.env = [(false, eval e X.env)] := by rfl) :
    PI X (.Tuple elts kk tpos) (.Call (.Name "enumerate" p) [e] [] pos) (iEnumT X.K ta) := by
  refine ⟨fun pins s σ H R I h => ?_⟩
  refine Call_ (ld_blt I hg hm boot_enumerate (PyProof.Rows.callWith_type1 (thn (ha.run pos pins s σ H _ I h) fun us s1 ⟨vs, H1, I1, r1, q1⟩ => ?_) hs rfl))
  obtain ⟨a, xs, ex, hq, q⟩ := q1
  subst ex
  cases r1 with
  | cons r rr =>
    cases rr
    cases r
    obtain ⟨its, rv, p', hz⟩ := I1.tuple hq
    refine enum_one (begins_tuple a its.toArray) (show s1.heap.IsTuple a its.toArray from p') fun h' he hit hsz hk => wpAny_pyIter_enum he ?_
    have I2 : Inv X pins σ H1 { s1 with heap := h' } := I1.kept (t' := s1.toks) hk
    refine ⟨s1.heap.objs.size + 1, [s1.heap.objs.size + 1, s1.heap.objs.size], _, _, H1, rfl, I2, turn_enumT a (s1.heap.objs.size + 1) s1.heap.objs.size, ⟨⟨.none, he⟩, ⟨_, hit, rfl, rfl⟩, Nat.succ_ne_self _⟩, fun b hb => ?_, q⟩
    have e' : b = s1.heap.objs.size + 1 ∨ b = s1.heap.objs.size := by simpa using hb
    have hle : s1.heap.objs.size ≤ b := by
      rcases e' with z | z
      · rw [z]; exact Nat.le_add_right _ _
      · rw [z]; exact Nat.le_refl _
    exact I1.fpOk hle (I1.hok.fresh hle)
end L2
namespace ML
open PySem L2
def cntA (n : Nat) : List A := (List.range n).map fun (i : Nat) => A.int (i : Int)
section
variable {K : PySem.W.Frag} {w : World} {mg : Str → Option Value} {φ0 : List Addr} {H0 : Hp}
theorem sim_enut {a : Addr} {xs : List V} {ds : List A} (q : StT K φ0 H0 a xs) (qs : RVs K φ0 H0 xs ds) : SimB K w mg true φ0 H0 (IteT K a) (.zipv (cntA ds.length) ds) where
  stop := fun i φ H st e rs h => by
    refine ⟨xs, (q.ext e).sq, ?_⟩
    rw [qs.length]
    unfold Src.at at h
    simp only [Option.some.injEq] at h
    rcases Nat.lt_or_ge i ds.length with c | c
    · have h1 : (cntA ds.length)[i]? = some (.int (i : Int)) := by simp [cntA, c]
      have h2 : ds[i]? = some ds[i] := List.getElem?_eq_getElem c
      rw [h1, h2] at h
      cases h
    · exact c
  go := fun i φ H st d e rs h => by
    unfold Src.at at h
    simp only [Option.some.injEq] at h
    rcases Nat.lt_or_ge i ds.length with c | c
    · have h1 : (cntA ds.length)[i]? = some (.int (i : Int)) := by simp [cntA, c]
      have h2 : ds[i]? = some ds[i] := List.getElem?_eq_getElem c
      rw [h1, h2] at h
      cases h
      obtain ⟨v, g2, g3⟩ := qs.get h2
      refine ⟨⟨xs, v, (q.ext e).sq, g2⟩, fun x H' y => ?_⟩
      obtain ⟨T, x', rfl, hT, rfl, f1⟩ := y
      have z1 := (f1 xs (q.ext e).sq).symm.trans g2
      cases z1
      exact ⟨ext_new hT, rs.new hT, T, _, _, rfl, rfl, .inl (.inl upd_same), RVs.ext (ext_new hT) (.cons (.int _) (.cons (g3.ext e) .nil))⟩
    · have h2 : ds[i]? = none := List.getElem?_eq_none c
      rw [h2] at h
      split at h <;> simp_all
end
section
variable {X : Cx} {W : WX} {a : Expr} {ms : MA} {pos : Pos}
def enumT : List A → Store → R Src
  | [.tup xs], st => .ok (.zipv (cntA xs.length) xs) st
  | _, _ => .bad
def mEnumT (ms : MA) : Env → Store → R Src := fun ρ st => (ms ρ st).bind enumT
theorem mi_enumT {p tpos : Pos} {elts : List Expr} {kk : Nat} (hm : X.mg "enumerate" = none) (ha : PA X [a] (tA X W ms)) (hg : Gl X "enumerate" := by rfl) (hs : starEach [a] X.env = [(false, eval a X.env)] := by rfl) :
    PI X (.Tuple elts kk tpos) (.Call (.Name "enumerate" p) [a] [] pos) (tIW X W (mEnumT ms)) := PIimp (pi_enumT hg hm ha hs) fun σ H Q ⟨φ, ρ, st, rs, re, h⟩ => by
  refine ⟨φ, ρ, st, rs, re, h.seq fun φ1 ds vs H1 st1 e1 rs1 rv1 h1 => ?_⟩
  unfold enumT at h1
  split at h1
  · rename_i xs
    obtain ⟨v, rfl, rr⟩ := one_rv rv1
    cases rr with
    | tup q qs => exact ⟨_, _, rfl, q.sq, h1.ok rs1 (sim_enut q qs)⟩
  · exact h1.elim
end
end ML
namespace ML
open PySem PySem.Spec L2 PyProof.Rows
def mTry3 (i : Nat) (x1 : Str) (fl1 : List Str) (g1 : Er → A) (x2 : Str) (fl2 : List Str) (g2 : Er → A) (x3 : Str) (fl3 : List Str) (g3 : Er → A) (m : MS) : MS := fun ρ st => match m ρ st with
  | .er e ρ1 st1 => if e.cls = x1 ∧ e.fs.map (·.1) = fl1 ∧ i < ρ1.length then .rt (g1 e) st1 else if e.cls = x2 ∧ e.fs.map (·.1) = fl2 ∧ i < ρ1.length then .rt (g2 e) st1 else if e.cls = x3 ∧ e.fs.map (·.1) = fl3 ∧ i < ρ1.length then .rt (g3 e) st1 else .bad
  | r => r
section
variable {X : Cx} {W : WX} {i : Nat} {n x1 x2 x3 : Str} {C1 C2 C3 : Addr} {fl1 fl2 fl3 : List Str} {g1 g2 g3 : Er → A} {m : MS} {body s1 s2 s3 : List Stmt} {b1 b2 b3 : Stmt} {np1 np2 np3 pos pos1 pos2 pos3 : Pos}
theorem ms_try3 (hs : X.stack = X.env :: X.outer) (hf : X.env.frame = some X.env.locals) (hN : X.N.Nodup) (hi : X.N[i]? = some n) (hln : X.env.kindOf n = some .local)
    (hg1 : Gl X x1) (hC1 : X.mg x1 = some (.ref C1)) (h11 : PySem.W.exmOne X.K (.ref C1) (.ref C1) = some true)
    (hg2 : Gl X x2) (hC2 : X.mg x2 = some (.ref C2)) (h22 : PySem.W.exmOne X.K (.ref C2) (.ref C2) = some true) (h21 : PySem.W.exmOne X.K (.ref C2) (.ref C1) = some false)
    (hg3 : Gl X x3) (hC3 : X.mg x3 = some (.ref C3)) (h33 : PySem.W.exmOne X.K (.ref C3) (.ref C3) = some true) (h31 : PySem.W.exmOne X.K (.ref C3) (.ref C1) = some false) (h32 : PySem.W.exmOne X.K (.ref C3) (.ref C2) = some false)
    (hb : ∀ (W : WX) (pn : List (Addr × Obj)) (xe : Value → Shared → Prop), Takes (X.tr pn xe) W → PassesOwn (model X.prog X.w) X.A X.env xe → PSs (X.tr pn xe) body (tS X W m))
    (u1 : ∀ (a : Addr) (oe : Obj) (cls : Value) (d : Option Addr) (pn : List (Addr × Obj)), Zc cls d oe → (∃ vs, oe.data = .fields vs) → PSs (X.suite a ((a, oe) :: pn)) (b1 :: s1) (tSu X i a cls C1 d x1 fl1 g1))
    (u2 : ∀ (a : Addr) (oe : Obj) (cls : Value) (d : Option Addr) (pn : List (Addr × Obj)), Zc cls d oe → (∃ vs, oe.data = .fields vs) → PSs (X.suite a ((a, oe) :: pn)) (b2 :: s2) (tSu X i a cls C2 d x2 fl2 g2))
    (u3 : ∀ (a : Addr) (oe : Obj) (cls : Value) (d : Option Addr) (pn : List (Addr × Obj)), Zc cls d oe → (∃ vs, oe.data = .fields vs) → PSs (X.suite a ((a, oe) :: pn)) (b3 :: s3) (tSu X i a cls C3 d x3 fl3 g3))
    (hd1 : (x1 == ("__debug__" : Str)) = false := by decide) (hd2 : (x2 == ("__debug__" : Str)) = false := by decide) (hd3 : (x3 == ("__debug__" : Str)) = false := by decide) :
    PS X (.Try body [.ExceptHandler (some (.Name x1 np1)) (some n) (b1 :: s1) pos1, .ExceptHandler (some (.Name x2 np2)) (some n) (b2 :: s2) pos2, .ExceptHandler (some (.Name x3 np3)) (some n) (b3 :: s3) pos3] [] [] pos) (tS X W (mTry3 i x1 fl1 g1 x2 fl2 g2 x3 fl3 g3 m)) :=
  (ps_try_cls (i := i) (l := [(.ref C1, fun a cls d => tSu X i a cls C1 d x1 fl1 g1), (.ref C2, fun a cls d => tSu X i a cls C2 d x2 fl2 g2), (.ref C3, fun a cls d => tSu X i a cls C3 d x3 fl3 g3)]) (tb := fun W => tS X W m) (Wout := W) hs hf hN hi hln hb
    (.cons ⟨hg1, hd1, .inl hC1⟩ u1 (.cons ⟨hg2, hd2, .inl hC2⟩ u2 (.cons ⟨hg3, hd3, .inl hC3⟩ u3 .nil)))).imp fun D σ H ⟨φ, ρ, st, rs, re, h⟩ => by
    refine ⟨φ, ρ, st, rs, re, ?_⟩
    unfold mTry3 at h
    cases q : m ρ st with
    | er er ρ1 st1 =>
      rw [q] at h
      simp only at h
      have cl : ∀ {C : Addr} {x : Str} {φ' : List Addr} {c : Value} {d : Option Addr} {H' : Hp}, X.mg x = some (.ref C) → er.cls = x → RErr X.K X.mg φ' H' c d er → c = .ref C := fun hC hx r => by
        have := r.1
        rw [hx, hC] at this
        exact (Option.some.inj this).symm
      by_cases hc : er.cls = x1 ∧ er.fs.map (·.1) = fl1 ∧ i < ρ1.length
      · rw [if_pos hc] at h
        intro φ' c d σ' H' e1 rs1 re1 r1
        obtain ⟨c1, c2, c3⟩ := hc
        have hcc := cl hC1 c1 r1
        subst hcc
        refine ⟨true, h11, fun _ a ha => ⟨rfl, ?_, er, φ', st1, rs1, r1, c1, c2, fun φ2 H2 u e2 rs2 rv2 => h φ2 u H2 (e1.trans e2) rs2 rv2⟩, fun z => by cases z⟩
        rw [List.getElem?_set_self (by rw [re1.len]; exact c3)]
      · rw [if_neg hc] at h
        by_cases hc : er.cls = x2 ∧ er.fs.map (·.1) = fl2 ∧ i < ρ1.length
        · rw [if_pos hc] at h
          intro φ' c d σ' H' e1 rs1 re1 r1
          obtain ⟨c1, c2, c3⟩ := hc
          have hcc := cl hC2 c1 r1
          subst hcc
          refine ⟨false, h21, (fun z => by cases z), fun _ => ⟨true, h22, fun _ a ha => ⟨rfl, ?_, er, φ', st1, rs1, r1, c1, c2, fun φ2 H2 u e2 rs2 rv2 => h φ2 u H2 (e1.trans e2) rs2 rv2⟩, fun z => by cases z⟩⟩
          rw [List.getElem?_set_self (by rw [re1.len]; exact c3)]
        · rw [if_neg hc] at h
          by_cases hc : er.cls = x3 ∧ er.fs.map (·.1) = fl3 ∧ i < ρ1.length
          · rw [if_pos hc] at h
            intro φ' c d σ' H' e1 rs1 re1 r1
            obtain ⟨c1, c2, c3⟩ := hc
            have hcc := cl hC3 c1 r1
            subst hcc
            refine ⟨false, h31, (fun z => by cases z), fun _ => ⟨false, h32, (fun z => by cases z), fun _ => ⟨true, h33, fun _ a ha => ⟨rfl, ?_, er, φ', st1, rs1, r1, c1, c2, fun φ2 H2 u e2 rs2 rv2 => h φ2 u H2 (e1.trans e2) rs2 rv2⟩, fun z => by cases z⟩⟩⟩
            rw [List.getElem?_set_self (by rw [re1.len]; exact c3)]
          · rw [if_neg hc] at h
            exact h.elim
    | nx ρ1 st1 => rw [q] at h; exact h
    | bk ρ1 st1 => rw [q] at h; exact h
    | ct ρ1 st1 => rw [q] at h; exact h
    | rt v st1 => rw [q] at h; exact h
    | bad => rw [q] at h; exact h.elim
end
def DOk (d : Option Addr) (H : Hp) : Prop := d = none ∨ ∃ dx fs, d = some dx ∧ H dx = some (.xd fs)
structure FnE (P : Program) (w : World) (K : PySem.W.Frag) (mg : Str → Option Value) (base : Heap) (k : Nat) (f : Addr) (fd : FuncData) (ps : List Str) (C : Addr) : Prop where
  run : ∀ (A : Around) (outer : List PySem.Env) (s : Shared) (H : Hp) (args : Args) (a : Addr) (oe : Obj) (d : Option Addr) (Q : VK) (E : XK), L2H.RoomH k A → L2H.PinOk outer H s (a, oe) → Env0 P w K mg base A outer s H → BindsTo s fd args (ps.zip [.ref a]) →
    Zc (.ref C) d oe → (∃ vs, oe.data = .fields vs) → DOk d H → Q (.bl true) H → codeAny (model P w) A (.call (.ref f) args) (CR (L2.CX P w) outer P w H s Q E) s
structure CalE (P : Program) (w : World) (K : PySem.W.Frag) (mg : Str → Option Value) (base : Heap) (x : Str) (k : Nat) (C : Addr) : Prop where
  ex : ∃ (f : Addr) (fd : FuncData) (ps : List Str), mg x = some (.ref f) ∧ PySem.W.keepIn K (.ref f) = true ∧ Binds K fd ps [] ∧ ps.length = 1 ∧ FnE P w K mg base k f fd ps C
def tAl (a : Addr) (d : Option Addr) : TS := fun D σ H => σ[0]? = some (some (.ref a)) ∧ 1 < σ.length ∧ DOk d H ∧ D.rt (.bl true) H
section
variable {P : Program} {w : World} {K : PySem.W.Frag} {mg : Str → Option Value} {base : Heap}
theorem calE_of {x : Str} {st : Stmt} {N ps : List Str} {k : Nat} {C : Addr} (G : GF K mg x st ps) (S : FnScope N ps (defScope st)) (hp : ps.length = 1) (hN : 2 ≤ N.length)
    (hb : ∀ (f : Addr) (cdv : Value) (A : Around) (outer : List PySem.Env) (s : Shared) (H : Hp) (E : XK) (a : Addr) (oe : Obj) (d : Option Addr), Zc (.ref C) d oe → (∃ vs, oe.data = .fields vs) →
      PSs (L2H.cxH (L2.CX P w) P w K mg base N x (defScope st) f cdv A outer s H E (a, oe)) (defBody st) (tAl a d)) : CalE P w K mg base x (k + 1) C := by
  obtain ⟨f, fd, h1, F, b⟩ := G.ex
  refine ⟨f, fd, ps, h1, F.kp, b, hp, ⟨fun A outer s H args a oe d Q E hr hpin e0 hbd hz hf hd q => ?_⟩⟩
  obtain ⟨oc, od, kV, doc, pm, an, cdv, ct, osl, e1, lk, hcd⟩ := F.ex
  subst e1
  have up : ∀ b o, base.get? b = some o → s.heap.get? b = some o := fun b o e => (e0.bs b o e).1
  have KX : K.In s.heap := e0.mod.kin.keeps up
  have names : ∀ y ∈ ps.zip [Value.ref a], (defScope st).names.lookup y.1 = some .local ∨ ((defScope st).names.lookup y.1 = some .cell ∧ ((cellsFrom (s.heap.objs.size + 1) (defScope st).names []).lookup y.1).isSome = true) := by
    rintro ⟨n, v⟩ hy
    exact (S.par n (List.of_mem_zip hy).1).imp id fun q => ⟨q, PySem.W.cellsFrom_some _ _ _ (.inl q)⟩
  refine codeAny_call_function hr.depth (KX _ _ lk) rfl S.co S.gen rfl (PySem.W.codeRec_of KX hcd) (hbd _ _ _ _ (wpAny_newFunctionEnv_cells S.kind names fun env he s1 x => ?_))
  subst he
  refine ⟨(e0.mod.nolimit.keeps up).keeps x.toInCall.keep, codeAny_func ?_⟩
  have I := L2H.inv_startH (CX := L2.CX P w) (E := E) (N := N) (cd := cdv) (f := f) S hpin e0 (vs := [.ref a]) (by rw [hp]; rfl) (.cons rfl .nil) x
  have run := hb f cdv A outer s H E a oe d hz hf
  have sat : tAl a d { nx := fun _ H' => Q .non H', rt := Q } (L2.start N [.ref a]) H := by
    refine ⟨rfl, ?_, hd, q⟩
    unfold L2.start
    rw [List.length_append, List.length_map, List.length_replicate]
    simp only [List.length_cons, List.length_nil]
    omega
  refine wpAny_mono (run.run [] s1 (L2.start N [.ref a]) H _ I sat) (fun fl s' hs => ?_) fun e s' hs => hs
  cases fl with
  | ret u =>
    obtain ⟨v, σ', H', J, r, q⟩ := hs
    exact ⟨v, H', J.os, J.bare, J.base, J.hok, r, q⟩
  | next =>
    obtain ⟨σ', H', J, q⟩ := hs
    exact ⟨V.non, H', J.os, J.bare, J.base, J.hok, rfl, q⟩
  | brk => exact hs.choose_spec.choose_spec.2.elim
  | cont => exact hs.choose_spec.choose_spec.2.elim
end
section
variable {X : Cx} {i : Nat} {ad C : Addr} {cls : Value} {d : Option Addr} {x : Str} {fl : List Str} {oe : Obj} {pn : List (Addr × Obj)} {pos : Pos}
theorem xv_alone {k : Nat} {y n : Str} {p p1 : Pos} (CE : CalE X.prog X.w X.K X.mg X.base y k C) (hr : Room k X.A) (hz : Zc cls d oe) (hf : ∃ vs, oe.data = .fields vs) (hn : PE (X.suite ad ((ad, oe) :: pn)) (.Name n p1) (tVar i)) (hg : Gl X y := by rfl)
    (hdb : (y == ("__debug__" : Str)) = false := by decide) (he : starEach (.Name n p1 :: []) X.env = (false, eval (.Name n p1) X.env) :: starEach [] X.env := by rfl) (hpl : (backTo pos (starEach [] X.env)).any (·.1) = false := by rfl) :
    PE (X.suite ad ((ad, oe) :: pn)) (.Call (.Name y p) [.Name n p1] [] pos) (tV X i ad cls C d x fl fun _ => .bl true) := by
  obtain ⟨f, fd, ps, hm, hk, hb, hp1, F⟩ := CE.ex
  refine ⟨fun pins s σ H Q I h => ?_⟩
  obtain ⟨hcl, hs, er, φ, st, rs, r, ex, ef, h⟩ := h
  have hd : DOk d H := by
    obtain ⟨_, ⟨_, q⟩ | ⟨dx, xs, q1, q2, _⟩⟩ := r
    · exact .inl q
    · exact .inr ⟨dx, xs, q1, q2⟩
  refine wpAny_Call_Name_kw (ld_glob I hg hm ?_ hdb)
  refine PySem.W.callWith_K (h₀ := X.base) I.ok.mod.kin hk (thn ((pa_cons hn pa_nil he).run pos pins s σ H (fun vs H1 => vs = [.ref ad] ∧ H1 = H) I ⟨_, hs, rfl, rfl⟩) fun us s1 ⟨vs, H1, I1, rv, e1, e2⟩ => ⟨I1.kIn, ?_⟩) he hpl
  subst e1 e2
  have eu : us = [.ref ad] := by
    cases rv with
    | cons r1 rr =>
      cases rr
      cases r1
      rfl
  subst eu
  have P1 := I1.pin (ad, oe) (List.mem_append.mpr (.inl List.mem_cons_self))
  have hpin : L2H.PinOk (X.suite ad ((ad, oe) :: pn)).stack H1 s1 (ad, oe) := ⟨P1.1, P1.2.1, fun hm => (List.mem_cons.mp (I1.stkSub ad hm)).elim P1.2.2.1 P1.2.2.2.1, P1.2.2.2.2⟩
  have bd := hb s1 [.ref ad] I1.kIn (by rw [List.append_nil, hp1]; rfl)
  rw [List.append_nil] at bd
  refine wpAny_call (codeAny_mono (F.run (X.suite ad ((ad, oe) :: pn)).A (X.suite ad ((ad, oe) :: pn)).stack s1 H1 ⟨[.ref ad], []⟩ ad oe d Q (fun _ _ _ => False) ⟨hr.dp, hr.un⟩ hpin I1.env0 bd (hcl ▸ hz) hf hd (h _ _ _ .refl rs (.bl true))) fun r s' hq => ?_)
  cases r with
  | error e =>
    obtain ⟨_, _, _, _, _, _, _, _, _, _, _, _, z⟩ := hq
    exact z.elim
  | ok fl =>
    cases fl with
    | ret u => exact I1.after hq
    | next => exact False.elim hq
    | brk => exact False.elim hq
    | cont => exact False.elim hq
end
def tK (a : Addr) (d : Option Addr) (G : L2.St → Prop) (v : V) : TE := fun σ H Q => σ[0]? = some (some (.ref a)) ∧ DOk d H ∧ G σ ∧ Q v H
section
variable {X : Cx} {a C : Addr} {d : Option Addr} {oe : Obj} {G : L2.St → Prop} {pos : Pos} {e e1 e2 : Expr}
theorem kx_isi {n t : Str} {p p1 p2 : Pos} {c : V} {cv : Value} {b : Bool} (T : ClsX X.K C) (hpn : (a, oe) ∈ X.pn) (hz : Zc (.ref C) d oe) (hf : ∃ vs, oe.data = .fields vs) (hn : PE X (.Name n p1) (tVar 0)) (ht : PE X (.Name t p2) (tC c)) (hcv : ∀ u, RelV c u → u = cv) (ek : PySem.W.kitOne X.K (.ref C) cv = some b)
    (hm : X.mg "isinstance" = none) (hg : Gl X "isinstance" := by rfl) (he2 : starEach [.Name t p2] X.env = (false, eval (.Name t p2) X.env) :: starEach [] X.env := by rfl) (he : starEach (.Name n p1 :: [.Name t p2]) X.env = (false, eval (.Name n p1) X.env) :: starEach [.Name t p2] X.env := by rfl) (hpl : (backTo pos (starEach [.Name t p2] X.env)).any (·.1) = false := by rfl) :
    PE X (.Call (.Name "isinstance" p) [.Name n p1, .Name t p2] [] pos) (tK a d G (.bl b)) := by
  have hcall : CallR X (.builtin "isinstance") (fun xs H Q => xs = [.ref a, c] ∧ DOk d H ∧ Q (.bl b) H) := by
    intro pins s σ H xs us Q I r h
    obtain ⟨rfl, hd, q⟩ := h
    cases r with
    | cons rx rr =>
      cases rr with
      | cons rt rr =>
        cases rr
        cases rx
        have ec := hcv _ rt
        subst ec
        obtain ⟨hget, _⟩ := I.pin (a, oe) (List.mem_append.mpr (.inl hpn))
        obtain ⟨vs, hv⟩ := hf
        have hno : PySem.W.notCls oe = true := by
          unfold PySem.W.notCls
          rw [hv]
        have J : ∃ od, PySem.W.InstAt s.heap a oe C od := by
          rcases hd with hd | ⟨dx, fs, hd, hx⟩
          · exact ⟨none, hget, hz.1, hno, by rw [hz.2, hd]; trivial⟩
          · have hok : ObjOk X.prog X.w H s.heap dx (.xd fs) := I.hok dx _ hx
            obtain ⟨mA, hns, _⟩ := hok
            obtain ⟨od, ho, _⟩ := lookIn_ns hns
            exact ⟨some od, hget, hz.1, hno, by rw [hz.2, hd]; exact ho⟩
        obtain ⟨od, J⟩ := J
        exact PySem.W.kia_one (PySem.W.kitx_exc T.hcl T.ga T.gg T.exC T.ha T.hn T.ht T.hm) I.kIn J ek (fun z => nomatch z) fun tk => ⟨.bl b, H, I.kept (t' := tk) fun _ _ z => z, rfl, q⟩
  refine (pe_callB hcall hg hm PyProof.Rows.boot_isinstance (pa_cons hn (pa_cons ht pa_nil he2) he) (by decide) (by decide) he hpl).imp fun σ H Q ⟨hs, hd, _, q⟩ => ?_
  exact ⟨_, hs, rfl, hd, q⟩
theorem kx_int {p : Pos} {b : Bool} (h : PE X e (tK a d G (.bl b))) (hm : X.mg "int" = none) (hg : Gl X "int" := by rfl) (he : starEach (e :: []) X.env = (false, eval e X.env) :: starEach [] X.env := by rfl) (hpl : (backTo pos (starEach [] X.env)).any (·.1) = false := by rfl) :
    PE X (.Call (.Name "int" p) [e] [] pos) (tK a d G (.int (if b then 1 else 0))) :=
  (pe_callTy call_int1 hg hm (by decide +kernel) (pa_cons h pa_nil he) (by decide) (by decide) he hpl).imp fun σ H Q ⟨hs, hd, hG, q⟩ => ⟨hs, hd, hG, .inr ⟨b, rfl, q⟩⟩
theorem kx_add {i j : Int} (h1 : PE X e1 (tK a d G (.int i))) (h2 : PE X e2 (tK a d G (.int j))) : PE X (.BinOp e1 .Add e2 pos) (tK a d G (.int (i + j))) :=
  (pe_op op_add h1 h2).imp fun σ H Q ⟨hs, hd, hG, q⟩ => ⟨hs, hd, hG, hs, hd, hG, i, j, rfl, rfl, q⟩
theorem kx_var {n : Str} {p : Pos} {j : Nat} {v : V} (h : PE X (.Name n p) (tVar j)) : PE X (.Name n p) (tK a d (fun σ => σ[j]? = some (some v)) v) := h.imp fun σ H Q ⟨_, _, hG, q⟩ => ⟨v, hG, q⟩
theorem kx_lit {i : Int} {j : Nat} {p : Pos} : PE X (.Constant (.int i) j p) (tK a d G (.int i)) := pe_int.imp fun σ H Q ⟨_, _, _, q⟩ => q
theorem kx_eq {i j : Int} (h1 : PE X e1 (tK a d G (.int i))) (h2 : PE X e2 (tK a d G (.int j))) (hm : behindInMarks .Eq e2 = false := by rfl) : PE X (.Compare e1 [.Eq] [e2] pos) (tK a d G (.bl (decide (i = j)))) :=
  (pe_cmpR op_eq h1 h2 hm).imp fun σ H Q ⟨hs, hd, hG, q⟩ => ⟨hs, hd, hG, hs, hd, hG, rfl, by
    have e : decide (V.int i = V.int j) = decide (i = j) := by simp
    rw [e]
    exact q⟩
theorem kx_one {op} {v : V} (h : PE X e (tK a d G v)) : PE X (.BoolOp op [e] pos) (tK a d G v) := pe_one h
theorem kx_and {b1 b2 : Bool} {rest : List Expr} (h1 : PE X e (tK a d G (.bl b1))) (h2 : PE X (.BoolOp .And (e1 :: rest) pos) (tK a d G (.bl b2))) : PE X (.BoolOp .And (e :: e1 :: rest) pos) (tK a d G (.bl (b1 && b2))) :=
  (pe_and h1 h2).imp fun σ H Q ⟨hs, hd, hG, q⟩ => by
    refine ⟨hs, hd, hG, b1, rfl, ?_⟩
    cases b1 with
    | true => exact ⟨hs, hd, hG, q⟩
    | false => exact q
theorem kx_body {n : Str} {p q q1 q2 q3 : Pos} {e3 : Expr} {v1 v2 : V} {b3 : Bool} (hN : X.N.Nodup) (hi : X.N[1]? = some n) (hx : Loc X.env.scope n) (h1 : PE X e1 (tK a d (fun _ => True) v1)) (h2 : PE X e2 (tK a d (fun σ => σ[1]? = some (some v1)) v2)) (h3 : PE X e3 (tK a d (fun σ => σ[1]? = some (some v2)) (.bl b3))) (hb3 : b3 = true)
    (s1 : swapsWith e1 (some (.Name n p)) q1.line X.env = pure false := by rfl) (s2 : swapsWith e2 (some (.Name n q)) q2.line X.env = pure false := by rfl) (hf : X.fn n = true ∨ X.env.scope.names.lookup n = some .local := by first | exact .inl rfl | exact .inr rfl) :
    PSs X [.Assign [.Name n p] e1 q1, .Assign [.Name n q] e2 q2, .Return (some e3) q3] (tAl a d) :=
  (pss_cons (ps_set hN hi hx h1 s1 hf) (pss_cons (ps_set hN hi hx h2 s2 hf) (pss_one (ps_ret h3)))).imp fun D σ H ⟨hs, hl, hd, q⟩ => by
    have n0 : ∀ (σ : L2.St) (v : Option V), (σ.set 1 v)[0]? = σ[0]? := fun σ v => List.getElem?_set_ne (show (1 : Nat) ≠ 0 by omega)
    have n1 : ∀ (σ : L2.St) (v : Option V), 1 < σ.length → (σ.set 1 v)[1]? = some v := fun σ v h => List.getElem?_set_self h
    refine ⟨hs, hd, trivial, ⟨by rw [n0]; exact hs, hd, n1 _ _ hl, ?_⟩⟩
    subst hb3
    exact ⟨by rw [n0, n0]; exact hs, hd, n1 _ _ (by rw [List.length_set]; exact hl), q⟩
end
def CalEs (P : Program) (w : World) (K : PySem.W.Frag) (mg : Str → Option Value) (base : Heap) (x : Str) (Cs : List Addr) (k : Nat) : Prop := ∀ C ∈ Cs, CalE P w K mg base x k C
theorem kx_body_at {CX : CXT} {P : Program} {w : World} {K : PySem.W.Frag} {mg : Str → Option Value} {base : Heap} {N : List Str} {x : Str} {sc : Scope} {f : Addr} {cdv : Value} {A : Around} {outer : List PySem.Env} {s : Shared} {H : Hp} {E : XK} {a : Addr} {oe : Obj} {d : Option Addr}
    {n : Str} {p q q1 q2 q3 : Pos} {e1 e2 e3 : Expr} {v1 v2 : V} {b3 : Bool} (hN : N.Nodup)
    (h1 : (a, oe) ∈ (L2H.cxH CX P w K mg base N x sc f cdv A outer s H E (a, oe)).pn → PE (L2H.cxH CX P w K mg base N x sc f cdv A outer s H E (a, oe)) e1 (tK a d (fun _ => True) v1))
    (h2 : (a, oe) ∈ (L2H.cxH CX P w K mg base N x sc f cdv A outer s H E (a, oe)).pn → PE (L2H.cxH CX P w K mg base N x sc f cdv A outer s H E (a, oe)) e2 (tK a d (fun σ => σ[1]? = some (some v1)) v2))
    (h3 : (a, oe) ∈ (L2H.cxH CX P w K mg base N x sc f cdv A outer s H E (a, oe)).pn → PE (L2H.cxH CX P w K mg base N x sc f cdv A outer s H E (a, oe)) e3 (tK a d (fun σ => σ[1]? = some (some v2)) (.bl b3))) (hb3 : b3 = true)
    (hi : N[1]? = some n := by rfl) (hx : Loc (L2H.cxH CX P w K mg base N x sc f cdv A outer s H E (a, oe)).env.scope n := by first | exact Or.inl rfl | exact Or.inr rfl)
    (s1 : swapsWith e1 (some (.Name n p)) q1.line (L2H.cxH CX P w K mg base N x sc f cdv A outer s H E (a, oe)).env = pure false := by rfl) (s2 : swapsWith e2 (some (.Name n q)) q2.line (L2H.cxH CX P w K mg base N x sc f cdv A outer s H E (a, oe)).env = pure false := by rfl) (hf : (L2H.cxH CX P w K mg base N x sc f cdv A outer s H E (a, oe)).fn n = true ∨ (L2H.cxH CX P w K mg base N x sc f cdv A outer s H E (a, oe)).env.scope.names.lookup n = some .local := by first | exact .inl rfl | exact .inr rfl) :
    PSs (L2H.cxH CX P w K mg base N x sc f cdv A outer s H E (a, oe)) [.Assign [.Name n p] e1 q1, .Assign [.Name n q] e2 q2, .Return (some e3) q3] (tAl a d) :=
  have hp : (a, oe) ∈ (L2H.cxH CX P w K mg base N x sc f cdv A outer s H E (a, oe)).pn := List.mem_cons_self
  kx_body hN hi hx (h1 hp) (h2 hp) (h3 hp) hb3 s1 s2 hf
end ML
namespace ML
open PySem PySem.Spec L2 PyProof.Rows
def stD (st : Store) (r : Nat) : Option (List (NestedKey × A)) := match st[r]? with
  | some (.oth (.dct kvs)) => some kvs
  | _ => none
def tupK : NestedKey → Bool
  | .tup _ => true
  | _ => false
theorem stD_eq {st : Store} {r : Nat} {kvs : List (NestedKey × A)} (h : stD st r = some kvs) : st[r]? = some (.oth (.dct kvs)) := by
  unfold stD at h
  split at h
  · cases h
    assumption
  · cases h
section
variable {X : Cx} {pins : List (Addr × Obj)} {σ : L2.St} {H : Hp} {s : Shared} {φ : List Addr} {st : Store}
theorem RS.dct (rs : RS X.K X.w X.mg φ H st) {r : Nat} {a : Addr} {kvs : List (NestedKey × A)} (hp : φ[r]? = some a) (hs : stD st r = some kvs) : RDk X.K φ H a kvs ∨ RDt X.K X.w φ H a kvs := rs.all r a _ hp (stD_eq hs)
theorem RDz.tup {od : Obj} {a : Addr} {kvs : List (NestedKey × A)} {k : NestedKey} (g : RDz X.K X.w φ H od a kvs) (f3 : ∀ kv ∈ kvs, tupK kv.1 = tupK k) : tupK k = true := by
  obtain ⟨xs, vs, h0, h1, h2, h3, h4, h5, h6, h7⟩ := g
  cases kvs with
  | nil => exact absurd rfl h0
  | cons p kvs =>
    cases xs with
    | nil => simp at h4
    | cons x xs =>
      have h8 := (h5 x (by simp)).1
      simp only [List.map_cons, List.cons.injEq] at h4
      have := f3 p (by simp)
      rw [← h4.1] at this
      rw [← this]
      cases e : x.1 with
      | tup l => rfl
      | _ => rw [e] at h8; unfold aOf at h8; cases h8
end
end ML
namespace ML
open PySem PySem.Spec L2 PyProof.Rows
def insA (cls : Str) (x : A) (st : Store) : Option (List (Str × A)) := match x with
  | .ref r => match st[r]? with
    | some (.oth (.ins c fs)) => if c = cls then some fs else none
    | _ => none
  | _ => none
structure CalM (P : Program) (w : World) (K : PySem.W.Frag) (mg : Str → Option Value) (base : Heap) (cls m : Str) (k : Nat) (mf : MF) : Prop where
  ex : ∃ (C f : Addr) (fd : FuncData) (ps : List Str), mg cls = some (.ref C) ∧ L2.Cls K C ∧ Meth K C m f ∧ Binds K fd ps [] ∧ FnOk P w K mg base (L2.CX P w) k f fd ps (spM K w mg mf)
theorem CalM.mono {P : Program} {w : World} {K : PySem.W.Frag} {mg : Str → Option Value} {base : Heap} {cls m : Str} {k j : Nat} {mf : MF} (C : CalM P w K mg base cls m j mf) (h : j ≤ k) : CalM P w K mg base cls m k mf := by
  obtain ⟨A, f, fd, ps, h1, h2, h3, h4, F⟩ := C.ex
  exact ⟨A, f, fd, ps, h1, h2, h3, h4, F.mono h⟩
structure CalI (P : Program) (w : World) (K : PySem.W.Frag) (mg : Str → Option Value) (base : Heap) (cls : Str) (k : Nat) (mf : MF) : Prop where
  ex : ∃ (C f : Addr) (fd : FuncData) (ps : List Str), mg cls = some (.ref C) ∧ Mk K C f ∧ Binds K fd ps [] ∧ FnOk P w K mg base (L2.CX P w) k f fd ps (spM K w mg mf)
theorem CalI.mono {P : Program} {w : World} {K : PySem.W.Frag} {mg : Str → Option Value} {base : Heap} {cls : Str} {k j : Nat} {mf : MF} (C : CalI P w K mg base cls j mf) (h : j ≤ k) : CalI P w K mg base cls k mf := by
  obtain ⟨A, f, fd, ps, h1, h2, h3, F⟩ := C.ex
  exact ⟨A, f, fd, ps, h1, h2, h3, F.mono h⟩
end ML
namespace ML
open PySem PySem.Spec L2 PyProof.Rows
section
variable {K : PySem.W.Frag} {w : World} {mg : Str → Option Value} {φ φ' : List Addr} {H H' : Hp} {st : Store} {σ : L2.St} {ρ : Env}
theorem StT.up {p : Addr} {o : HO} (hp : p ∈ φ) {a : Addr} {xs : List V} (h : StT K φ H a xs) : StT K φ (upd H p o) a xs := by
  rcases h with ⟨⟨q, hd, h⟩, n⟩ | h
  · have ne : a ≠ p := fun z => n (z ▸ hp)
    exact .inl ⟨⟨q, hd, by rw [upd_ne ne]; exact h⟩, n⟩
  · exact .inr h
theorem StL.up {p : Addr} {o : HO} (hp : p ∈ φ) {a : Addr} {xs : List V} (h : StL K φ H a xs) : StL K φ (upd H p o) a xs := by
  rcases h with ⟨⟨q, h⟩, n⟩ | h
  · have ne : a ≠ p := fun z => n (z ▸ hp)
    exact .inl ⟨⟨q, by rw [upd_ne ne]; exact h⟩, n⟩
  · exact .inr h
mutual
theorem RV.up {p : Addr} {o : HO} (hp : p ∈ φ) : ∀ {v : V} {d : A}, RV K φ H v d → RV K φ (upd H p o) v d
  | _, _, .non => .non
  | _, _, .bl b => .bl b
  | _, _, .int i => .int i
  | _, _, .str x => .str x
  | _, _, .tup h q => .tup (h.up hp) (RVs.up hp q)
  | _, _, .scr h q => .scr (h.up hp) (RVs.up hp q)
  | _, _, .ref h => .ref h
theorem RVs.up {p : Addr} {o : HO} (hp : p ∈ φ) : ∀ {vs : List V} {ds : List A}, RVs K φ H vs ds → RVs K φ (upd H p o) vs ds
  | _, _, .nil => .nil
  | _, _, .cons h q => .cons (RV.up hp h) (RVs.up hp q)
end
theorem RE.up {p : Addr} {o : HO} (hp : p ∈ φ) (r : RE K φ H σ ρ) : RE K φ (upd H p o) σ ρ := ⟨r.len, fun i d h => by
  obtain ⟨v, h1, h2⟩ := r.all i d h
  exact ⟨v, h1, RV.up hp h2⟩⟩
end
end ML
namespace ML
open PySem PySem.Spec L2 PyProof.Rows
section
variable {K : PySem.W.Frag} {φ : List Addr} {H : Hp} {P : Program} {w : World} {h : Heap}
def Kq (F : List Addr) (h h' : Heap) : Prop := ∀ b o, h.get? b = some o → ∃ sl, h'.get? b = some { o with slots := sl } ∧ (b ∉ F → h'.get? b = some o)
theorem Kq.refl {F : List Addr} (h : Heap) : Kq F h h := fun b o e => ⟨o.slots, e, fun _ => e⟩
theorem Kq.trans {F : List Addr} {h h' h2 : Heap} (a : Kq F h h') (b : Kq F h' h2) : Kq F h h2 := fun c o e => by
  obtain ⟨sl, e1, e2⟩ := a c o e
  obtain ⟨sl', e3, _⟩ := b c _ e1
  refine ⟨sl', e3, fun n => ?_⟩
  obtain ⟨_, _, e5⟩ := b c o (e2 n)
  exact e5 n
theorem Kq.of {F : List Addr} {h h' : Heap} (k : ∀ b o, h.get? b = some o → h'.get? b = some o) : Kq F h h' := fun b o e => ⟨o.slots, k b o e, fun _ => k b o e⟩
end
section
open PySem.W
def MixOk (kz : List PyData) : Prop := ∀ x ∈ kz, ∀ y ∈ kz, ∃ (i j : Int) (r t : List PyData), x = .tuple (.int i :: r) ∧ y = .tuple (.int j :: t) ∧ (i = j → alikeAll r t = true)
def KzOk (kz : List PyData) : Prop := (AllAlike kz ∧ Sortable kz) ∨ MixOk kz
theorem KzOk.self {kz : List PyData} (m : KzOk kz) {x : PyData} (hx : x ∈ kz) : alike x x = true := by
  rcases m with ⟨al, _⟩ | m
  · exact al x hx x hx
  · obtain ⟨i, j, r, t, e1, e2, al⟩ := m x hx x hx
    rw [e1] at e2
    cases e2
    rw [e1]
    have := al rfl
    simpa [alike, alikeAll] using this
theorem KzOk.same {kz : List PyData} {h : Heap} {v : Value} {x y : PyData} {as bs : List Addr} (m : KzOk kz) (hx : x ∈ kz) (hy : y ∈ kz) (rx : Reads h v x as) (ry : Reads h v y bs) : x = y := by
  rcases m with ⟨al, _⟩ | m
  · exact alike_unique x y v as bs (al x hx y hy) rx ry
  · obtain ⟨i, j, r, t, rfl, rfl, al⟩ := m x hx y hy
    refine alike_unique _ _ v as bs ?_ rx ry
    have eij : i = j := by
      cases rx with
      | tuple g1 g2 g3 g4 =>
        cases ry with
        | tuple k1 k2 k3 k4 =>
          rw [g1] at k1
          cases k1
          rw [g3] at k3
          cases k3
          generalize hz : Array.toList _ = zs at g4 k4
          cases g4 with
          | cons p1 p2 =>
            cases k4 with
            | cons q1 q2 =>
              cases p1
              cases q1
              rfl
    have := al eij
    simpa [alike, alikeAll] using this
theorem KzOk.key {kz : List PyData} {h : Heap} {v : Value} {x : PyData} {as : List Addr} (m : KzOk kz) (hx : x ∈ kz) (rx : Reads h v x as) : (dataKind h kz).keyOf v = some (keyToks x) := by
  have has : ∃ y, y ∈ kz ∧ ∃ bs, Reads h v y bs := ⟨x, hx, as, rx⟩
  have at0 : (dataKind h kz).keyOf v = some (keyToks has.choose) := dif_pos has
  obtain ⟨hy, bs, ry⟩ := has.choose_spec
  rw [at0, m.same hy hx ry rx]
end
end ML
namespace ML
open PySem PySem.Spec L2 PyProof.Rows
structure FnG (P : Program) (w : World) (K : PySem.W.Frag) (mg : Str → Option Value) (base : Heap) (k : Nat) (f : Addr) (fd : FuncData) (ps : List Str) (sp : Sp) : Prop where
  len : ∀ vs H Q E, sp vs H Q E → vs.length = ps.length
  run : ∀ (A : Around) (outer : List PySem.Env) (s : Shared) (H : Hp) (args : Args) (us : List Value) (vs : List V) (Q : VK) (E : XK), A.guards = some [] → Room k A → Env0 P w K mg base A outer s H → BindsTo s fd args (ps.zip us) → Vals vs us → sp vs H Q E →
    codeAny (model P w) A (.call (.ref f) args) (CR (L2.CX P w) outer P w H s Q E) s
theorem FnG.imp {P : Program} {w : World} {K : PySem.W.Frag} {mg : Str → Option Value} {base : Heap} {k : Nat} {f : Addr} {fd : FuncData} {ps : List Str} {sp sp' : Sp} (F : FnG P w K mg base k f fd ps sp) (h : ∀ vs H Q E, sp' vs H Q E → sp vs H Q E) : FnG P w K mg base k f fd ps sp' :=
  ⟨fun vs H Q E q => F.len _ _ _ _ (h _ _ _ _ q), fun A outer s H args us vs Q E g hr e0 hb hv q => F.run A outer s H args us vs Q E g hr e0 hb hv (h _ _ _ _ q)⟩
def reprOk (d : PyData) : Prop := d.showable = true ∧ d.hasDict = false ∧ d.depth ≤ 30 ∧ d.shown.length ≤ sizeLine
instance (d : PyData) : Decidable (reprOk d) := by unfold reprOk; infer_instance
end ML
namespace ML
open PySem PySem.Spec L2 PyProof.Rows
section
variable {X : Cx} {pins : List (Addr × Obj)} {σ : L2.St} {H : Hp} {s : Shared} {φ : List Addr}
def entA (kv : NestedKey × A) : A := .tup [aOf kv.1, kv.2]
end
end ML
namespace ML
open PySem PySem.Spec PyProof.Rows L2
section
variable {K : PySem.W.Frag} {w : World} {mg : Str → Option Value} {φ : List Addr} {H : Hp} {st : Store} {σ : L2.St} {ρ : ML.Env} {P : Addr} {ps : Array Value}
theorem notin_push {a : Addr} {o : HO} (hP : H P = some (.tbl ps)) (h : H a = some o) (n : a ∉ φ) (ne : o ≠ .tbl ps) : a ∉ φ ++ [P] := fun z => by
  rcases List.mem_append.mp z with z | z
  · exact n z
  · rw [List.mem_singleton.mp z, hP] at h
    exact ne (Option.some.inj h).symm
theorem StT.push {a : Addr} {xs : List V} (hP : H P = some (.tbl ps)) (h : StT K φ H a xs) : StT K (φ ++ [P]) H a xs := by
  rcases h with ⟨⟨o, hd, h⟩, n⟩ | h
  · exact .inl ⟨⟨o, hd, h⟩, notin_push hP h n (by simp)⟩
  · exact .inr h
theorem StL.push {a : Addr} {xs : List V} (hP : H P = some (.tbl ps)) (h : StL K φ H a xs) : StL K (φ ++ [P]) H a xs := by
  rcases h with ⟨⟨o, h⟩, n⟩ | h
  · exact .inl ⟨⟨o, h⟩, notin_push hP h n (by simp)⟩
  · exact .inr h
theorem get_push {i : Nat} {a : Addr} (h : φ[i]? = some a) : (φ ++ [P])[i]? = some a := by
  rw [List.getElem?_append_left (List.getElem?_eq_some_iff.mp h).1]
  exact h
mutual
theorem RV.push (hP : H P = some (.tbl ps)) : ∀ {v : V} {d : A}, RV K φ H v d → RV K (φ ++ [P]) H v d
  | _, _, .non => .non
  | _, _, .bl b => .bl b
  | _, _, .int i => .int i
  | _, _, .str x => .str x
  | _, _, .tup h q => .tup (h.push hP) (RVs.push hP q)
  | _, _, .scr h q => .scr (h.push hP) (RVs.push hP q)
  | _, _, .ref h => .ref (get_push h)
theorem RVs.push (hP : H P = some (.tbl ps)) : ∀ {vs : List V} {ds : List A}, RVs K φ H vs ds → RVs K (φ ++ [P]) H vs ds
  | _, _, .nil => .nil
  | _, _, .cons h q => .cons (RV.push hP h) (RVs.push hP q)
end
theorem RE.push (hP : H P = some (.tbl ps)) (r : RE K φ H σ ρ) : RE K (φ ++ [P]) H σ ρ := ⟨r.len, fun i d h => by
  obtain ⟨v, h1, h2⟩ := r.all i d h
  exact ⟨v, h1, h2.push hP⟩⟩
theorem RO2.push {a : Addr} (hP : H P = some (.tbl ps)) : ∀ {u : Ob2}, RO2 K w mg φ H a u → RO2 K w mg (φ ++ [P]) H a u
  | .dct _, .inl ⟨ks, h1, h2, h3⟩ => .inl ⟨ks, h1, h2, h3.push hP⟩
  | .dct _, .inr ⟨xs, vs, h0, h1, h2, h3, h4, h5, h6, h7⟩ => .inr ⟨xs, vs, h0, h1, h2, h3, h4, fun x hx => ⟨(h5 x hx).1.push hP, (h5 x hx).2⟩, h6, h7.push hP⟩
  | .frd _, .inl ⟨od, ks, h1, h2, h3⟩ => .inl ⟨od, ks, h1, h2, h3.push hP⟩
  | .frd _, .inr ⟨od, xs, vs, h0, h1, h2, h3, h4, h5, h6, h7⟩ => .inr ⟨od, xs, vs, h0, h1, h2, h3, h4, fun x hx => ⟨(h5 x hx).1.push hP, (h5 x hx).2⟩, h6, h7.push hP⟩
  | .ins _ _, ⟨C, dx, vs, h0, h1, h2, h3, h4⟩ => ⟨C, dx, vs, h0, h1, h2, notin_push hP h2 h3 (by simp), h4.push hP⟩
  | .tab _, ⟨h0, ps', h1, h2, h3⟩ => ⟨h0, ps', h1, h2, fun pos cv hc => by
    obtain ⟨c, z1, z2, z3⟩ := h3 pos cv hc
    exact ⟨c, z1, z2, notin_push hP z2 z3 (LamX.codeO_ne ps)⟩⟩
theorem RS.push {n : Str} (r : RS K w mg φ H st) (hP : H P = some (.tbl #[])) (nP : P ∉ φ) (ht : TabIs K mg n P) : RS K w mg (φ ++ [P]) H (st ++ [.oth (.tab n)]) := by
  refine ⟨by simp [r.len], ?_, fun i a o h1 h2 => ?_⟩
  · rw [List.nodup_append]
    refine ⟨r.nd, by simp, fun a ha b hb z => ?_⟩
    rw [List.mem_singleton.mp hb] at z
    exact nP (z ▸ ha)
  · by_cases hi : i < φ.length
    · rw [List.getElem?_append_left hi] at h1
      rw [List.getElem?_append_left (by rw [← r.len]; exact hi)] at h2
      have h3 := r.all i a o h1 h2
      cases o with
      | lst ds =>
        obtain ⟨xs, q, q2⟩ := h3
        exact ⟨xs, q, q2.push hP⟩
      | oth u => exact RO2.push hP h3
    · have hl : i = φ.length := by
        have := (List.getElem?_eq_some_iff.mp h1).1
        rw [List.length_append, List.length_singleton] at this
        omega
      subst hl
      rw [List.getElem?_append_right (Nat.le_refl _), Nat.sub_self] at h1
      rw [r.len, List.getElem?_append_right (Nat.le_refl _), Nat.sub_self] at h2
      cases h1
      cases h2
      refine ⟨ht, #[], hP, True.intro, fun pos cv hc => ?_⟩
      have z : codeAmong pos [] = some cv := hc
      simp [codeAmong] at z
end
end ML
namespace ML
open PySem PySem.Spec L2 PyProof.Rows
section
variable {P : Program} {w : World} {K : PySem.W.Frag} {mg : Str → Option Value} {base : Heap}
structure GK (K : PySem.W.Frag) (mg : Str → Option Value) (x kw : Str) (st : Stmt) (ps : List Str) : Prop where
  ex : ∃ (f : Addr) (fd : FuncData) (T : Addr), mg x = some (.ref f) ∧ Fun K x x st f fd ∧ KTup K T [] ∧ KBn K fd ps 1 [kw] (fun us ws => us ++ ws) (fun vs zs => vs ++ zs) ∧ Binds K fd ps [.ref T]
structure CalK (P : Program) (w : World) (K : PySem.W.Frag) (mg : Str → Option Value) (base : Heap) (x kw : Str) (k : Nat) (m : MF) : Prop where
  ex : ∃ (f : Addr) (fd : FuncData) (ps : List Str) (T : Addr), mg x = some (.ref f) ∧ PySem.W.keepIn K (.ref f) = true ∧ KTup K T [] ∧ KBn K fd ps 1 [kw] (fun us ws => us ++ ws) (fun vs zs => vs ++ zs) ∧ Binds K fd ps [.ref T] ∧ FnOk P w K mg base (L2.CX P w) k f fd ps (spM K w mg m)
theorem calk_of {x kw : Str} {st : Stmt} {N ps : List Str} {k : Nat} {body : MS} (G : GK K mg x kw st ps) (S : FnScope N ps (defScope st))
    (hb : ∀ (f : Addr) (cdv : Value) (A : Around) (outer : List PySem.Env) (s : Shared) (H : Hp) (E : XK), Room k (A.deeper (PyProof.Rows.envOfC x (defScope st) s.heap.objs.size f cdv)) →
      PSs (cxOf (L2.CX P w) P w K mg base N x (defScope st) f cdv A outer s H E) (defBody st) (tS (cxOf (L2.CX P w) P w K mg base N x (defScope st) f cdv A outer s H E) (fun c d _ H' => E c d H') body)) :
    CalK P w K mg base x kw (k + 1) (mFn N.length ps.length body) := by
  obtain ⟨f, fd, T, h1, F, hT, b1, b2⟩ := G.ex
  exact ⟨f, fd, ps, T, h1, F.kp, hT, b1, b2, fn_ok F S (hb f)⟩
theorem gk_mk {x kw : Str} {st : Stmt} {ps : List Str} {f D T : Addr} {oc : Value} {od : Option Addr} {doc pm : Value} {an : Option Addr} {cdv ct : Value} {osl : Array (Option Value)} {tn : Nat} {ts : Array (Option Value)}
    (hm : mg x = some (.ref f)) (lk : K.lookup f = some ⟨oc, od, .func (PySem.W.fnOf x x (defArgs st) (defBody st) (defScope st) .none (.ref D) doc pm an cdv ct), osl⟩) (hc : PySem.W.codeIn K cdv x = true) (hk : PySem.W.keepIn K (.ref f) = true)
    (hD : PySem.W.nsIn K D kw = some (some (.ref T))) (hT : K.lookup T = some ⟨.type "tuple", none, .seq #[] tn, ts⟩) (hn : ps.length = 2)
    (h0 : ∀ (D : Addr) (doc pm : Value) (an : Option Addr) (cdv ct : Value) (us ks : List Value), us.length = 1 → ks.length = 1 →
      KwChain D ([kw].zip ks) (bindArgs (PySem.W.fnOf x x (defArgs st) (defBody st) (defScope st) .none (.ref D) doc pm an cdv ct) ⟨us, []⟩) (ps.zip (us ++ ks)))
    (h1 : ∀ (doc pm : Value) (an : Option Addr) (D : Addr) (cdv ct u w : Value), bindArgs (PySem.W.fnOf x x (defArgs st) (defBody st) (defScope st) .none (.ref D) doc pm an cdv ct) ⟨[u], [(kw, w)]⟩ = pure (ps.zip [u, w])) : GK K mg x kw st ps := by
  have FD : FunD K x x (defArgs st) (defBody st) (defScope st) [] [(kw, V.ref T)] f (PySem.W.fnOf x x (defArgs st) (defBody st) (defScope st) .none (.ref D) doc pm an cdv ct) := ⟨⟨_, _, _, _, _, _, _, _, _, _, rfl, lk, hc, .inl ⟨rfl, rfl⟩, .inr ⟨D, rfl, fun q hq => by
    rw [List.mem_singleton.mp hq]
    exact ⟨_, hD, rfl⟩⟩⟩, hk⟩
  obtain ⟨ds, rv, b⟩ := FD.binds0 (ps := ps) 1 (by simp) (by rw [hn]; rfl) (fun D doc pm an cdv ct us ks q1 q2 => h0 D doc pm an cdv ct us ks q1 q2)
  obtain ⟨u, rfl, ru⟩ := vals1 rv
  have ru : u = Value.ref T := ru
  subst ru
  refine ⟨f, _, T, hm, ⟨⟨_, _, _, _, _, _, _, _, _, rfl, lk, hc⟩, hk⟩, ⟨_, _, _, hT, rfl, rfl, rfl, by simp, .nil⟩, ⟨fun s us ws X l1 l2 => ?_, fun r1 r2 => r1.append r2⟩, b⟩
  match us, ws, l1, l2 with
  | [u], [w], _, _ => exact .of_eq (h1 _ _ _ _ _ _ _ _)
end
section
variable {X : Cx} {W : WX} {x kw : Str} {m : MF} {k : Nat} {e b : Expr} {p pos kpos : Pos} {ma mb : MX}
theorem me_callK1 (C : CalK X.prog X.w X.K X.mg X.base x kw k m) (hr : Room k X.A) (tk : Takes X W) (ha : PE X e (tE X W ma)) (hkw : PE X b (tE X W mb)) (hg : Gl X x := by rfl)
    (hall : (backToKw pos (keywordEach [⟨some kw, b, kpos⟩] X.env)).all (·.1.isSome) = true := by rfl) (hks : (backToKw pos (keywordEach [⟨some kw, b, kpos⟩] X.env)).filterMap (·.1) = [kw] := by rfl)
    (hdb : (x == ("__debug__" : Str)) = false := by decide) (he : starEach [e] X.env = (false, eval e X.env) :: starEach [] X.env := by rfl)
    (hpl : ((backTo pos (starEach [e] X.env)).any (·.1) || (backToKw pos (keywordEach [⟨some kw, b, kpos⟩] X.env)).any (·.1.isNone)) = false := by rfl) :
    PE X (.Call (.Name x p) [e] [⟨some kw, b, kpos⟩] pos) (tE X W (mCall m (mCons ma (mCons mb mNil)))) := by
  obtain ⟨f, fd, ps, T, hm, hk, hT, hb1, hb, F⟩ := C.ex
  refine ⟨fun pins s σ H Q I ⟨φ, ρ, st, rs, re, h⟩ => ?_⟩
  refine wpAny_Call_Name_kw (ld_glob I hg hm ?_ hdb)
  have e1 : mCall m (mCons ma (mCons mb mNil)) ρ st = (ma ρ st).bind fun y st1 => (mb ρ st1).bind fun z st2 => m [y, z] st2 := by
    unfold mCall mCons mNil
    cases q : ma ρ st with
    | ok y st1 =>
      show R.bind (R.bind (R.bind (mb ρ st1) _) _) _ = R.bind (mb ρ st1) _
      cases mb ρ st1 <;> rfl
    | er e st1 => rfl
    | bad => rfl
  rw [e1] at h
  have h1 : tCons (tE X W ma) tNil σ H (fun vs H1 => ∃ v, vs = [v] ∧ tE X W mb σ H1 fun z H2 => spM X.K X.w X.mg m [v, z] H2 Q (WE W σ)) :=
    ⟨φ, ρ, st, rs, re, h.seq fun φ1 y v H1 st1 e1 rs1 rv1 h1 => ⟨v, rfl, φ1, ρ, st1, rs1, re.ext e1, h1.seq fun φ2 z v2 H2 st2 e2 rs2 rv2 h2 => ⟨φ2, [y, z], st2, rs2, .cons (rv1.ext e2) (.cons rv2 .nil), h2⟩⟩⟩
  refine PySem.W.callWith_KW (h₀ := X.base) I.ok.mod.kin hk hall (thn ((pa_cons ha pa_nil he).run pos pins s σ H _ I h1) fun us s1 ⟨vs, H1, I1, r, v, ev, q⟩ => ?_) hpl he
  subst ev
  have h2 : tCons (tE X W mb) tNil σ H1 (fun zs H2 => ∃ z, zs = [z] ∧ spM X.K X.w X.mg m [v, z] H2 Q (WE W σ)) := by
    obtain ⟨φ1, ρ1, st1, rs1, re1, h2⟩ := q
    exact ⟨φ1, ρ1, st1, rs1, re1, h2.imp fun z H2 q2 => ⟨z, rfl, q2⟩⟩
  refine thn ((pk_cons (nm := some kw) (kpos := kpos) hkw pk_nil).run pos pins s1 σ H1 _ I1 h2) fun ws s2 ⟨zs, H2, I2, rz, z, ez, q2⟩ => ⟨I2.kIn, ?_⟩
  subst ez
  rw [hks]
  have r2 := hb1.rel r rz
  refine wpAny_call (codeAny_mono (F.run X.A X.stack s2 H2 ⟨us, [kw].zip ws⟩ (us ++ ws) ([v] ++ [z]) Q (WE W σ) hr I2.env0 (hb1.to s2 us ws I2.kIn r.length.symm rz.length.symm) r2 q2) fun r s' hq => ?_)
  cases r with
  | error er => exact passAt tk σ pins H2 s2 er s' I2 hq
  | ok fl =>
    cases fl with
    | ret u => exact I2.after hq
    | next => exact False.elim hq
    | brk => exact False.elim hq
    | cont => exact False.elim hq
def blsOf : List A → Option (List Bool)
  | [] => some []
  | .bl b :: r => (blsOf r).map (b :: ·)
  | _ => none
theorem blsOf_eq : ∀ {ds : List A} {ns : List Bool}, blsOf ds = some ns → ds = ns.map A.bl
  | [], _, h => by cases h; rfl
  | .bl i :: r, ns, h => by
    simp only [blsOf] at h
    cases e : blsOf r with
    | none => rw [e] at h; cases h
    | some ms =>
      rw [e] at h
      cases h
      rw [List.map_cons, blsOf_eq e]
  | .non :: _, _, h => by cases h
  | .int _ :: _, _, h => by cases h
  | .str _ :: _, _, h => by cases h
  | .tup _ :: _, _, h => by cases h
  | .scr _ :: _, _, h => by cases h
  | .ref _ :: _, _, h => by cases h
theorem blsOf_map : ∀ ns : List Bool, blsOf (ns.map A.bl) = some ns
  | [] => rfl
  | n :: r => by rw [List.map_cons, blsOf, blsOf_map r]; rfl
def allA : List A → Store → R A
  | [x], st => match (itemsL x st).bind blsOf with
    | some ns => .ok (.bl (ns.all id)) st
    | none => .bad
  | _, _ => .bad
theorem RVs.bools {K : PySem.W.Frag} {φ : List Addr} {H : Hp} : ∀ {vs : List V} {ns : List Bool}, RVs K φ H vs (ns.map A.bl) → vs = ns.map V.bl
  | [], [], _ => rfl
  | [], _ :: _, h => by cases h
  | _ :: _, [], h => by cases h
  | v :: vs, n :: ns, h => by
    cases h with
    | cons h q =>
      cases h
      rw [RVs.bools q, List.map_cons]
theorem cs_all : CaS X (rAll X.K) allA := fun W φ H st vs as Q rs rv h => by
  unfold allA at h
  split at h
  · rename_i x
    obtain ⟨v, rfl, r⟩ := one_rv rv
    cases e : itemsL x st with
    | none => rw [e] at h; exact h.elim
    | some ds =>
      rw [e] at h
      simp only [Option.bind_some] at h
      cases e2 : blsOf ds with
      | none => rw [e2] at h; exact h.elim
      | some ns =>
        rw [e2] at h
        obtain ⟨p, xs, rfl, hq, hs⟩ := itemsL_ok rs r e
        rw [blsOf_eq e2] at hs
        rw [hs.bools] at hq
        exact ⟨p, ns, rfl, hq, h.ok rs (.bl _)⟩
  · exact h.elim
end
end ML
namespace ML
open PySem L2
def R.wp {α : Type} (r : R α) (Q : α → Store → Prop) : Prop := match r with
  | .ok a st => Q a st
  | _ => False
def SR.wp (r : SR) (N B C : Env → Store → Prop) (Rt : A → Store → Prop) : Prop := match r with
  | .nx ρ st => N ρ st
  | .bk ρ st => B ρ st
  | .ct ρ st => C ρ st
  | .rt a st => Rt a st
  | .er _ _ _ => False
  | .bad => False
abbrev NoS : Env → Store → Prop := fun _ _ => False
section
variable {α β : Type} {Q : A → Store → Prop} {QB : Bool → Store → Prop} {ρ : Env} {st : Store} {N B C : Env → Store → Prop} {Rt : A → Store → Prop}
theorem R.wp.ex {r : R α} {Q : α → Store → Prop} (h : r.wp Q) : ∃ a st, r = .ok a st ∧ Q a st := by
  cases r with
  | ok a st => exact ⟨a, st, rfl, h⟩
  | er e st => exact h.elim
  | bad => exact h.elim
theorem R.wp.imp {r : R α} {Q Q' : α → Store → Prop} (h : r.wp Q) (k : ∀ a st, Q a st → Q' a st) : r.wp Q' := by
  cases r with
  | ok a st => exact k _ _ h
  | er e st => exact h.elim
  | bad => exact h.elim
theorem SR.wp.imp {r : SR} {N' B' C' : Env → Store → Prop} {Rt' : A → Store → Prop} (h : r.wp N B C Rt) (k1 : ∀ ρ st, N ρ st → N' ρ st) (k2 : ∀ ρ st, B ρ st → B' ρ st) (k3 : ∀ ρ st, C ρ st → C' ρ st) (k4 : ∀ a st, Rt a st → Rt' a st) : r.wp N' B' C' Rt' := by
  cases r with
  | nx ρ st => exact k1 _ _ h
  | bk ρ st => exact k2 _ _ h
  | ct ρ st => exact k3 _ _ h
  | rt a st => exact k4 _ _ h
  | er e ρ st => exact h.elim
  | bad => exact h.elim
@[simp] theorem wp_ok {a : α} {Q : α → Store → Prop} : (R.ok a st).wp Q ↔ Q a st := Iff.rfl
@[simp] theorem wp_bad {Q : α → Store → Prop} : (R.bad : R α).wp Q ↔ False := Iff.rfl
theorem wp_bind {r : R α} {f : α → Store → R β} {Q : β → Store → Prop} : (r.bind f).wp Q ↔ r.wp fun a st => (f a st).wp Q := by
  cases r <;> rfl
theorem wp_toS {r : R α} {f : α → Store → SR} : (r.toS ρ f).wp N B C Rt ↔ r.wp fun a st => (f a st).wp N B C Rt := by
  cases r <;> rfl
theorem wp_if {c : Prop} [Decidable c] {r r' : R α} {Q : α → Store → Prop} : (if c then r else r').wp Q ↔ if c then r.wp Q else r'.wp Q := by split <;> rfl
theorem sp_if {c : Prop} [Decidable c] {r r' : SR} : (if c then r else r').wp N B C Rt ↔ if c then r.wp N B C Rt else r'.wp N B C Rt := by split <;> rfl
theorem sp_nx : (SR.nx ρ st).wp N B C Rt ↔ N ρ st := Iff.rfl
@[simp] theorem sp_seq {m1 m2 : MS} : (mSeq m1 m2 ρ st).wp N B C Rt ↔ (m1 ρ st).wp (fun ρ st => (m2 ρ st).wp N B C Rt) B C Rt := by
  unfold mSeq
  cases m1 ρ st <;> rfl
theorem seq_cut {m1 m2 : MS} (I : Env → Store → Prop) (h1 : (m1 ρ st).wp I (fun _ _ => False) (fun _ _ => False) (fun _ _ => False)) (h2 : ∀ ρ st, I ρ st → (m2 ρ st).wp N B C Rt) : (mSeq m1 m2 ρ st).wp N B C Rt := by
  rw [sp_seq]
  exact h1.imp h2 (fun _ _ h => h.elim) (fun _ _ h => h.elim) (fun _ _ h => h.elim)
theorem seq_cutR {m1 m2 : MS} (I : Env → Store → Prop) (h1 : (m1 ρ st).wp I (fun _ _ => False) (fun _ _ => False) Rt) (h2 : ∀ ρ st, I ρ st → (m2 ρ st).wp N B C Rt) : (mSeq m1 m2 ρ st).wp N B C Rt := by
  rw [sp_seq]
  exact h1.imp h2 (fun _ _ h => h.elim) (fun _ _ h => h.elim) (fun _ _ h => h)
@[simp] theorem wp_fn {n k : Nat} {body : MS} {as : List A} : (mFn n k body as st).wp Q ↔ as.length = k ∧ (body (as.map some ++ List.replicate (n - k) none) st).wp (fun _ st => Q .non st) NoS NoS Q := by
  unfold mFn
  by_cases h : as.length = k
  · rw [if_pos h]
    cases body (as.map some ++ List.replicate (n - k) none) st <;> simp [R.wp, SR.wp, h, NoS]
  · rw [if_neg h]
    simp [R.wp, h]
@[simp] theorem wp_var {i : Nat} : (mVar i ρ st).wp Q ↔ ∃ a, ρ[i]? = some (some a) ∧ Q a st := by
  unfold mVar
  cases e : ρ[i]? with
  | none => simp [R.wp]
  | some o => cases o <;> simp [R.wp]
@[simp] theorem wp_c {a : A} : (mC a ρ st).wp Q ↔ Q a st := Iff.rfl
@[simp] theorem wp_bin {g : A → A → Store → R A} {ma mb : MX} : (mBin g ma mb ρ st).wp Q ↔ (ma ρ st).wp fun x st1 => (mb ρ st1).wp fun y st2 => (g x y st2).wp Q := by
  unfold mBin
  rw [wp_bind]
  simp only [wp_bind]
@[simp] theorem wp_un {g : A → Store → R A} {ma : MX} : (mUn g ma ρ st).wp Q ↔ (ma ρ st).wp fun x st1 => (g x st1).wp Q := by
  unfold mUn
  rw [wp_bind]
@[simp] theorem wp_tru {ma : MX} : (mTru ma ρ st).wp QB ↔ (ma ρ st).wp fun x st1 => (truA x st1).wp QB := by
  unfold mTru
  rw [wp_bind]
@[simp] theorem wp_gb {ma : MX} : (mGB ma ρ st).wp QB ↔ (ma ρ st).wp fun x st1 => (getB x st1).wp QB := by
  unfold mGB
  rw [wp_bind]
@[simp] theorem wp_and {ma mb : MT} : (mAnd ma mb ρ st).wp QB ↔ (ma ρ st).wp fun x st1 => if x = true then (mb ρ st1).wp QB else QB false st1 := by
  unfold mAnd
  simp only [wp_bind, wp_if, wp_ok]
@[simp] theorem wp_or {ma mb : MT} : (mOr ma mb ρ st).wp QB ↔ (ma ρ st).wp fun x st1 => if x = true then QB true st1 else (mb ρ st1).wp QB := by
  unfold mOr
  simp only [wp_bind, wp_if, wp_ok]
@[simp] theorem wp_not {ma : MT} : (mNot ma ρ st).wp QB ↔ (ma ρ st).wp fun x st1 => QB (!x) st1 := by
  unfold mNot
  simp only [wp_bind, wp_ok]
@[simp] theorem wp_andV {ma mb : MX} : (mAndV ma mb ρ st).wp Q ↔ (ma ρ st).wp fun x st1 => (getB x st1).wp fun k st2 => if k = true then (mb ρ st2).wp Q else Q (.bl false) st2 := by
  unfold mAndV
  simp only [wp_bind, wp_if, wp_ok]
variable {QA : List A → Store → Prop}
@[simp] theorem wp_nil : (mNil ρ st).wp QA ↔ QA [] st := Iff.rfl
@[simp] theorem wp_cons {ma : MX} {mr : MA} : (mCons ma mr ρ st).wp QA ↔ (ma ρ st).wp fun x st1 => (mr ρ st1).wp fun xs st2 => QA (x :: xs) st2 := by
  unfold mCons
  simp only [wp_bind, wp_ok]
@[simp] theorem wp_tup {ms : MA} : (mTup ms ρ st).wp Q ↔ (ms ρ st).wp fun xs st1 => xs.length ≤ sizeLine ∧ Q (.tup xs) st1 := by
  unfold mTup
  simp only [wp_bind, wp_if, wp_ok, wp_bad]
  have : ∀ (xs : List A) (st1 : Store), (if xs.length ≤ sizeLine then Q (.tup xs) st1 else False) ↔ (xs.length ≤ sizeLine ∧ Q (.tup xs) st1) := fun xs st1 => by
    by_cases h : xs.length ≤ sizeLine <;> simp [h]
  simp only [this]
@[simp] theorem wp_lst {ms : MA} : (mLst ms ρ st).wp Q ↔ (ms ρ st).wp fun xs st1 => xs.length ≤ sizeLine ∧ Q (.ref st1.length) (st1 ++ [.lst xs]) := by
  unfold mLst
  simp only [wp_bind, wp_if, wp_ok, wp_bad]
  have : ∀ (xs : List A) (st1 : Store), (if xs.length ≤ sizeLine then Q (.ref st1.length) (st1 ++ [.lst xs]) else False) ↔ (xs.length ≤ sizeLine ∧ Q (.ref st1.length) (st1 ++ [.lst xs])) := fun xs st1 => by
    by_cases h : xs.length ≤ sizeLine <;> simp [h]
  simp only [this]
@[simp] theorem wp_ca {g : List A → Store → R A} {ms : MA} : (mCa g ms ρ st).wp Q ↔ (ms ρ st).wp fun xs st1 => (g xs st1).wp Q := by
  unfold mCa
  rw [wp_bind]
@[simp] theorem wp_call {m : MF} {ms : MA} : (mCall m ms ρ st).wp Q ↔ (ms ρ st).wp fun xs st1 => (m xs st1).wp Q := by
  unfold mCall
  rw [wp_bind]
variable {QO : Option Int → Store → Prop}
@[simp] theorem wp_noPart : (mNoPart ρ st).wp QO ↔ QO none st := Iff.rfl
@[simp] theorem wp_part {m : MX} : (mPart m ρ st).wp QO ↔ (m ρ st).wp fun x st1 => (getI x st1).wp fun i st2 => QO (some i) st2 := by
  unfold mPart
  simp only [wp_bind, wp_ok]
@[simp] theorem wp_sl {ma : MX} {ml mh : MO} : (mSl ma ml mh ρ st).wp Q ↔ (ma ρ st).wp fun x st1 => (ml ρ st1).wp fun lo st2 => (mh ρ st2).wp fun hi st3 => (slA x lo hi st3).wp Q := by
  unfold mSl
  simp only [wp_bind]
@[simp] theorem wp_bm {g : A → List A → Store → R A} {mo : MX} {ms : MA} : (mBm g mo ms ρ st).wp Q ↔ (mo ρ st).wp fun x st1 => isL x st1 = true ∧ (ms ρ st1).wp fun xs st2 => (g x xs st2).wp Q := by
  unfold mBm
  simp only [wp_bind, wp_if, wp_bad]
  have : ∀ (x : A) (st1 : Store), (if isL x st1 = true then (ms ρ st1).wp fun xs st2 => (g x xs st2).wp Q else False) ↔ (isL x st1 = true ∧ (ms ρ st1).wp fun xs st2 => (g x xs st2).wp Q) := fun x st1 => by
    by_cases h : isL x st1 = true <;> simp [h]
  simp only [this]
@[simp] theorem sp_set {i : Nat} {ma : MX} : (mSet i ma ρ st).wp N B C Rt ↔ (ma ρ st).wp fun a st1 => N (ρ.set i (some a)) st1 := by
  unfold mSet
  rw [wp_toS]
  rfl
@[simp] theorem sp_asg {tg : Tg} {ma : MX} : (mAsg tg ma ρ st).wp N B C Rt ↔ (ma ρ st).wp fun a st1 => ∃ ρ', asgT tg a ρ st1 = some ρ' ∧ N ρ' st1 := by
  unfold mAsg
  cases ma ρ st with
  | ok a st1 =>
    show SR.wp (match asgT tg a ρ st1 with
      | some ρ' => .nx ρ' st1
      | none => .bad) N B C Rt ↔ ∃ ρ', asgT tg a ρ st1 = some ρ' ∧ N ρ' st1
    cases asgT tg a ρ st1 <;> simp [SR.wp]
  | _ => rfl
@[simp] theorem sp_expr {ma : MX} : (mExpr ma ρ st).wp N B C Rt ↔ (ma ρ st).wp fun _ st1 => N ρ st1 := by
  unfold mExpr
  rw [wp_toS]
  rfl
@[simp] theorem sp_ret {ma : MX} : (mRet ma ρ st).wp N B C Rt ↔ (ma ρ st).wp Rt := by
  unfold mRet
  rw [wp_toS]
  rfl
@[simp] theorem sp_next : (mNext ρ st).wp N B C Rt ↔ N ρ st := Iff.rfl
@[simp] theorem sp_ifs {c : MT} {m1 m2 : MS} : (mIfS c m1 m2 ρ st).wp N B C Rt ↔ (c ρ st).wp fun b st1 => if b = true then (m1 ρ st1).wp N B C Rt else (m2 ρ st1).wp N B C Rt := by
  unfold mIfS
  rw [wp_toS]
  simp only [sp_if]
@[simp] theorem sp_put {mo mi ma : MX} : (mPut mo mi ma ρ st).wp N B C Rt ↔ (ma ρ st).wp fun d st1 => (mo ρ st1).wp fun o st2 => (mi ρ st2).wp fun i st3 => ∃ st4, setA o i d st3 = some st4 ∧ N ρ st4 := by
  unfold mPut
  cases ma ρ st with
  | ok d st1 =>
    show ((mo ρ st1).toS ρ _).wp N B C Rt ↔ (mo ρ st1).wp _
    cases mo ρ st1 with
    | ok o st2 =>
      show ((mi ρ st2).toS ρ _).wp N B C Rt ↔ (mi ρ st2).wp _
      cases mi ρ st2 with
      | ok i st3 =>
        show SR.wp (match setA o i d st3 with
          | some st4 => .nx ρ st4
          | none => .bad) N B C Rt ↔ ∃ st4, setA o i d st3 = some st4 ∧ N ρ st4
        cases setA o i d st3 <;> simp [SR.wp]
      | _ => rfl
    | _ => rfl
  | _ => rfl
@[simp] theorem sp_aug {i : Nat} {g : A → A → Store → R A} {ma : MX} : (mAug i g ma ρ st).wp N B C Rt ↔ (mVar i ρ st).wp fun x st0 => (ma ρ st0).wp fun y st1 => (g x y st1).wp fun z st2 => N (ρ.set i (some z)) st2 := by
  simp only [mAug, wp_toS, sp_nx]
@[simp] theorem sp_for {ms : Env → Store → R Src} {tg : Tg} {body : MS} : (mFor ms tg body ρ st).wp N B C Rt ↔ (ms ρ st).wp fun s st1 => (loopF s tg body (s.size st1 + 1) 0 ρ st1).wp N B C Rt := by
  unfold mFor
  rw [wp_toS]
@[simp] theorem wp_rng {ms : MA} {QS : Src → Store → Prop} : (mRng ms ρ st).wp QS ↔ (ms ρ st).wp fun xs st1 => (rngA xs st1).wp QS := by
  unfold mRng
  rw [wp_bind]
@[simp] theorem wp_src {ma : MX} {QS : Src → Store → Prop} : (mSrc ma ρ st).wp QS ↔ (ma ρ st).wp fun x st1 => (srcA x st1).wp QS := by
  unfold mSrc
  rw [wp_bind]
theorem loop_wp {s : Src} {tg : Tg} {body : MS} (n : Nat) (it : Nat → A) (I : Nat → Env → Store → Prop) (hat : ∀ i ρ st, I i ρ st → (i < n → s.at i st = some (some (it i))) ∧ (¬ i < n → s.at i st = some none))
    (hs : ∀ i ρ st, i < n → I i ρ st → ∃ ρ1, asgT tg (it i) ρ st = some ρ1 ∧ (body ρ1 st).wp (I (i + 1)) N (I (i + 1)) Rt) (hd : ∀ ρ st, I n ρ st → N ρ st) :
    ∀ (k i : Nat) (ρ : Env) (st : Store), i + k = n + 1 → i ≤ n → I i ρ st → (loopF s tg body k i ρ st).wp N B C Rt
  | 0, i, ρ, st, hk, hi, h => by omega
  | k + 1, i, ρ, st, hk, hle, h => by
    unfold loopF
    by_cases hi : i < n
    · rw [(hat i ρ st h).1 hi]
      obtain ⟨ρ1, e, hb⟩ := hs i ρ st hi h
      simp only [e]
      cases q : body ρ1 st with
      | nx ρ2 st2 => rw [q] at hb; exact loop_wp n it I hat hs hd k (i + 1) ρ2 st2 (by omega) (by omega) hb
      | ct ρ2 st2 => rw [q] at hb; exact loop_wp n it I hat hs hd k (i + 1) ρ2 st2 (by omega) (by omega) hb
      | bk ρ2 st2 => rw [q] at hb; exact hb
      | rt a st2 => rw [q] at hb; exact hb
      | er e ρ2 st2 => rw [q] at hb; exact hb.elim
      | bad => rw [q] at hb; exact hb.elim
    · rw [(hat i ρ st h).2 hi]
      have : i = n := by omega
      subst this
      exact hd ρ st h
theorem for_rng {tg : Tg} {body : MS} {lo : Int} {n : Nat} (I : Nat → Env → Store → Prop) (h0 : I 0 ρ st)
    (hs : ∀ i ρ st, i < n → I i ρ st → ∃ ρ1, asgT tg (.int (lo + (i : Nat))) ρ st = some ρ1 ∧ (body ρ1 st).wp (I (i + 1)) N (I (i + 1)) Rt) (hd : ∀ ρ st, I n ρ st → N ρ st) :
    (loopF (.rng lo n) tg body (Src.size (.rng lo n) st + 1) 0 ρ st).wp N B C Rt :=
  loop_wp n (fun i => .int (lo + (i : Nat))) I (fun i ρ st _ => ⟨fun h => by simp [Src.at, h], fun h => by simp [Src.at, h]⟩) hs hd _ _ _ _ (by simp [Src.size]) (Nat.zero_le _) h0
theorem for_vals {tg : Tg} {body : MS} {xs : List A} (I : Nat → Env → Store → Prop) (h0 : I 0 ρ st)
    (hs : ∀ i x ρ st, xs[i]? = some x → I i ρ st → ∃ ρ1, asgT tg x ρ st = some ρ1 ∧ (body ρ1 st).wp (I (i + 1)) N (I (i + 1)) Rt) (hd : ∀ ρ st, I xs.length ρ st → N ρ st) :
    (loopF (.vals xs) tg body (Src.size (.vals xs) st + 1) 0 ρ st).wp N B C Rt :=
  loop_wp xs.length (fun i => xs.getD i .non) I (fun i ρ st _ => ⟨fun h => by simp [Src.at, h], fun h => by simp [Src.at]; omega⟩) (fun i ρ st h q => hs i _ ρ st (by simp [h]) q) hd _ _ _ _ (by simp [Src.size]) (Nat.zero_le _) h0
theorem for_zipv {tg : Tg} {body : MS} {xs ys : List A} (I : Nat → Env → Store → Prop) (hl : ys.length ≤ xs.length) (h0 : I 0 ρ st)
    (hs : ∀ i x y ρ st, xs[i]? = some x → ys[i]? = some y → I i ρ st → ∃ ρ1, asgT tg (.tup [x, y]) ρ st = some ρ1 ∧ (body ρ1 st).wp (I (i + 1)) N (I (i + 1)) Rt) (hd : ∀ ρ st, I ys.length ρ st → N ρ st) :
    ∀ k, ys.length + 1 ≤ k → (loopF (.zipv xs ys) tg body k 0 ρ st).wp N B C Rt := fun k hk => by
  have key : ∀ (k i : Nat) (ρ : Env) (st : Store), ys.length + 1 ≤ i + k → i ≤ ys.length → I i ρ st → (loopF (.zipv xs ys) tg body k i ρ st).wp N B C Rt := by
    intro k
    induction k with
    | zero => intro i ρ st h1 h2; omega
    | succ k ih =>
      intro i ρ st h1 h2 h
      unfold loopF
      by_cases hi : i < ys.length
      · have e1 : xs[i]? = some xs[i] := List.getElem?_eq_getElem (by omega)
        have e2 : ys[i]? = some ys[i] := List.getElem?_eq_getElem hi
        have e3 : Src.at (.zipv xs ys) i st = some (some (.tup [xs[i], ys[i]])) := by simp only [Src.at, e1, e2]
        rw [e3]
        obtain ⟨ρ1, e, hb⟩ := hs i _ _ ρ st e1 e2 h
        simp only [e]
        cases q : body ρ1 st with
        | nx ρ2 st2 => rw [q] at hb; exact ih (i + 1) ρ2 st2 (by omega) (by omega) hb
        | ct ρ2 st2 => rw [q] at hb; exact ih (i + 1) ρ2 st2 (by omega) (by omega) hb
        | bk ρ2 st2 => rw [q] at hb; exact hb
        | rt a st2 => rw [q] at hb; exact hb
        | er e ρ2 st2 => rw [q] at hb; exact hb.elim
        | bad => rw [q] at hb; exact hb.elim
      · have e2 : ys[i]? = none := List.getElem?_eq_none (by omega)
        have e3 : Src.at (.zipv xs ys) i st = some none := by
          simp only [Src.at, e2]
          cases xs[i]? <;> rfl
        rw [e3]
        have : i = ys.length := by omega
        subst this
        exact hd ρ st h
  exact key k 0 ρ st (by omega) (Nat.zero_le _) h0
@[simp] theorem wp_yes : (mYes ρ st).wp QB ↔ QB true st := Iff.rfl
@[simp] theorem wipeA_nil {ρ : Env} : wipeA ρ [] = ρ := rfl
@[simp] theorem wipeA_cons {ρ : Env} {i : Nat} {l : List Nat} : wipeA ρ (i :: l) = (wipeA ρ l).set i none := rfl
@[simp] theorem wp_lc {mi : Env → Store → R Src} {tg : Tg} {own : List Nat} {tt : MT} {elt : MX} : (mLc mi tg own tt elt ρ st).wp Q ↔ (mi ρ st).wp fun s st1 => (loopC s tg own tt elt (wipeA ρ own) (s.size st1 + 1) 0 st1 []).wp fun xs st2 => Q (.ref st2.length) (st2 ++ [.lst xs]) := by
  simp only [mLc, wp_bind, wp_ok]
theorem lc_wp {s : Src} {tg : Tg} {own : List Nat} {tt : MT} {elt : MX} {ρ0 : Env} {QL : List A → Store → Prop} (n : Nat) (it : Nat → A) (I : Nat → Store → List A → Prop) (hat : ∀ i st acc, I i st acc → (i < n → s.at i st = some (some (it i))) ∧ (¬ i < n → s.at i st = some none))
    (hs : ∀ i st acc, i < n → I i st acc → ∃ ρ1, asgT tg (it i) ρ0 st = some ρ1 ∧ (tt ρ1 st).wp fun b st1 => if b = true then (elt ρ1 st1).wp fun y st2 => acc.length < sizeLine ∧ I (i + 1) st2 (acc ++ [y]) else I (i + 1) st1 acc)
    (hd : ∀ st acc, I n st acc → QL acc st) : ∀ (k i : Nat) (st : Store) (acc : List A), i + k = n + 1 → i ≤ n → I i st acc → (loopC s tg own tt elt ρ0 k i st acc).wp QL
  | 0, i, st, acc, hk, hi, h => by omega
  | k + 1, i, st, acc, hk, hle, h => by
    unfold loopC
    by_cases hi : i < n
    · rw [(hat i st acc h).1 hi]
      obtain ⟨ρ1, e, hb⟩ := hs i st acc hi h
      simp only [e]
      obtain ⟨b, st1, e1, hb⟩ := R.wp.ex hb
      simp only [e1]
      cases b with
      | false =>
        simp only [Bool.false_eq_true, if_false] at hb ⊢
        exact lc_wp n it I hat hs hd k (i + 1) st1 acc (by omega) (by omega) hb
      | true =>
        simp only [if_true] at hb ⊢
        obtain ⟨y, st2, e2, hz, hb⟩ := R.wp.ex hb
        simp only [e2, if_pos hz]
        exact lc_wp n it I hat hs hd k (i + 1) st2 (acc ++ [y]) (by omega) (by omega) hb
    · rw [(hat i st acc h).2 hi]
      have : i = n := by omega
      subst this
      exact hd st acc h
theorem lc_rng {tg : Tg} {own : List Nat} {tt : MT} {elt : MX} {ρ0 : Env} {lo : Int} {n : Nat} {QL : List A → Store → Prop} (I : Nat → Store → List A → Prop) (h0 : I 0 st [])
    (hs : ∀ i st acc, i < n → I i st acc → ∃ ρ1, asgT tg (.int (lo + (i : Nat))) ρ0 st = some ρ1 ∧ (tt ρ1 st).wp fun b st1 => if b = true then (elt ρ1 st1).wp fun y st2 => acc.length < sizeLine ∧ I (i + 1) st2 (acc ++ [y]) else I (i + 1) st1 acc)
    (hd : ∀ st acc, I n st acc → QL acc st) : (loopC (.rng lo n) tg own tt elt ρ0 (Src.size (.rng lo n) st + 1) 0 st []).wp QL :=
  lc_wp n (fun i => .int (lo + (i : Nat))) I (fun i st acc _ => ⟨fun h => by simp [Src.at, h], fun h => by simp [Src.at, h]⟩) hs hd _ _ _ _ (by simp [Src.size]) (Nat.zero_le _) h0
theorem lc_vals {tg : Tg} {own : List Nat} {tt : MT} {elt : MX} {ρ0 : Env} {xs : List A} {QL : List A → Store → Prop} (I : Nat → Store → List A → Prop) (h0 : I 0 st [])
    (hs : ∀ i x st acc, xs[i]? = some x → I i st acc → ∃ ρ1, asgT tg x ρ0 st = some ρ1 ∧ (tt ρ1 st).wp fun b st1 => if b = true then (elt ρ1 st1).wp fun y st2 => acc.length < sizeLine ∧ I (i + 1) st2 (acc ++ [y]) else I (i + 1) st1 acc)
    (hd : ∀ st acc, I xs.length st acc → QL acc st) : (loopC (.vals xs) tg own tt elt ρ0 (Src.size (.vals xs) st + 1) 0 st []).wp QL :=
  lc_wp xs.length (fun i => xs.getD i .non) I (fun i st acc _ => ⟨fun h => by simp [Src.at, h], fun h => by simp [Src.at]; omega⟩) (fun i st acc h q => hs i _ st acc (by simp [h]) q) hd _ _ _ _ (by simp [Src.size]) (Nat.zero_le _) h0
theorem lc_lst {tg : Tg} {own : List Nat} {tt : MT} {elt : MX} {ρ0 : Env} {xs : List A} {r : Nat} {QL : List A → Store → Prop} (I : Nat → Store → List A → Prop) (hx : stL st r = some xs) (h0 : I 0 st []) (hl : ∀ i st acc, I i st acc → stL st r = some xs)
    (hs : ∀ i x st acc, xs[i]? = some x → I i st acc → ∃ ρ1, asgT tg x ρ0 st = some ρ1 ∧ (tt ρ1 st).wp fun b st1 => if b = true then (elt ρ1 st1).wp fun y st2 => acc.length < sizeLine ∧ I (i + 1) st2 (acc ++ [y]) else I (i + 1) st1 acc)
    (hd : ∀ st acc, I xs.length st acc → QL acc st) : (loopC (.lst r) tg own tt elt ρ0 (Src.size (.lst r) st + 1) 0 st []).wp QL :=
  lc_wp xs.length (fun i => xs.getD i .non) I (fun i st acc q => ⟨fun h => by simp [Src.at, hl i st acc q, h], fun h => by simp [Src.at, hl i st acc q]; omega⟩) (fun i st acc h q => hs i _ st acc (by simp [h]) q) hd _ _ _ _ (by simp [Src.size, hx]) (Nat.zero_le _) h0
end
def Grown (st st' : Store) : Prop := ∃ g, st' = st ++ g
theorem Grown.refl (st : Store) : Grown st st := ⟨[], by simp⟩
theorem Grown.trans {a b c : Store} (h : Grown a b) (k : Grown b c) : Grown a c := by
  obtain ⟨g, rfl⟩ := h
  obtain ⟨g', rfl⟩ := k
  exact ⟨g ++ g', by simp⟩
theorem Grown.one (st : Store) (o : Ob) : Grown st (st ++ [o]) := ⟨[o], rfl⟩
theorem Grown.get {st st' : Store} (h : Grown st st') {i : Nat} {o : Ob} (e : st[i]? = some o) : st'[i]? = some o := by
  obtain ⟨g, rfl⟩ := h
  rw [List.getElem?_append_left (List.getElem?_eq_some_iff.mp e).1]
  exact e
theorem Grown.stL {st st' : Store} (h : Grown st st') {i : Nat} {xs : List A} (e : ML.stL st i = some xs) : ML.stL st' i = some xs := by
  unfold ML.stL
  rw [h.get (stL_eq e)]
theorem stL_of {st : Store} {i : Nat} {xs : List A} (e : st[i]? = some (.lst xs)) : stL st i = some xs := by
  unfold stL
  rw [e]
@[simp] theorem stL_new {st : Store} {xs : List A} : stL (st ++ [.lst xs]) st.length = some xs := stL_of (by simp)
section
variable {Q : A → Store → Prop} {QB : Bool → Store → Prop} {QI : Int → Store → Prop} {QS : Src → Store → Prop} {st : Store} {i j k : Int} {x y : Str} {xs ys : List A} {r q : Nat} {b c : Bool} {a d : A}
theorem w_if {p : Prop} [Decidable p] {α : Type} {v : α} {Q : α → Store → Prop} : (if p then R.ok v st else R.bad).wp Q ↔ p ∧ Q v st := by
  by_cases h : p <;> simp [h, R.wp]
@[simp] theorem w_add : (addA (.int i) (.int j) st).wp Q ↔ Q (.int (i + j)) st := Iff.rfl
@[simp] theorem w_addS : (addA (.str x) (.str y) st).wp Q ↔ x.length + y.length ≤ sizeLine ∧ Q (.str (x ++ y)) st := w_if
@[simp] theorem w_addT : (addA (.tup xs) (.tup ys) st).wp Q ↔ xs.length + ys.length ≤ sizeLine ∧ Q (.tup (xs ++ ys)) st := w_if
@[simp] theorem w_addL : (addA (.ref r) (.ref q) st).wp Q ↔ ∃ xs, stL st r = some xs ∧ ∃ ys, stL st q = some ys ∧ xs.length + ys.length ≤ sizeLine ∧ Q (.ref st.length) (st ++ [.lst (xs ++ ys)]) := by
  simp only [addA, stL]
  cases st[r]? with
  | none => simp [R.wp]
  | some o =>
    cases o with
    | oth u => simp [R.wp]
    | lst xs =>
      cases st[q]? with
      | none => simp [R.wp]
      | some o2 =>
        cases o2 with
        | oth u => simp [R.wp]
        | lst ys => simp [w_if]
@[simp] theorem w_sub : (subA (.int i) (.int j) st).wp Q ↔ Q (.int (i - j)) st := Iff.rfl
@[simp] theorem w_mul : (mulA (.int i) (.int j) st).wp Q ↔ CMulA i j ∧ Q (.int (i * j)) st := w_if
@[simp] theorem w_mulL : (mulA (.ref r) (.int k) st).wp Q ↔ ∃ xs, stL st r = some xs ∧ (-(2 ^ 63) ≤ k ∧ k < 2 ^ 63 ∧ xs.length * k.toNat ≤ sizeLine) ∧ Q (.ref st.length) (st ++ [.lst (List.replicate k.toNat xs).flatten]) := by
  simp only [mulA, stL]
  cases st[r]? with
  | none => simp [R.wp]
  | some o =>
    cases o with
    | oth u => simp [R.wp]
    | lst xs => simp only [w_if, Option.some.injEq, exists_eq_left']
@[simp] theorem w_mulT : (mulA (.tup xs) (.int k) st).wp Q ↔ (0 ≤ k ∧ k ≤ 1000000 ∧ xs.length * k.toNat ≤ sizeLine) ∧ Q (.tup (List.replicate k.toNat xs).flatten) st := w_if
@[simp] theorem w_fdiv : (fdivA (.int i) (.int j) st).wp Q ↔ (0 < j ∧ j.natAbs.log2 < 9000) ∧ Q (.int (i / j)) st := w_if
@[simp] theorem w_mod : (modA (.int i) (.int j) st).wp Q ↔ 0 < j ∧ Q (.int (i % j)) st := w_if
@[simp] theorem w_pow : (powA (.int i) (.int j) st).wp Q ↔ (0 ≤ j ∧ j ≤ 1000000 ∧ i.natAbs < 2 ^ 64) ∧ Q (.int (i ^ j.toNat)) st := w_if
@[simp] theorem w_neg : (negA (.int i) st).wp Q ↔ Q (.int (-i)) st := Iff.rfl
@[simp] theorem w_lt : (ltA (.int i) (.int j) st).wp Q ↔ Q (.bl (decide (i < j))) st := Iff.rfl
@[simp] theorem w_gt : (gtA (.int i) (.int j) st).wp Q ↔ Q (.bl (decide (j < i))) st := Iff.rfl
@[simp] theorem w_le : (leA (.int i) (.int j) st).wp Q ↔ Q (.bl (decide (i ≤ j))) st := Iff.rfl
@[simp] theorem w_ge : (geA (.int i) (.int j) st).wp Q ↔ Q (.bl (decide (j ≤ i))) st := Iff.rfl
@[simp] theorem w_ltS : (ltA (.str x) (.str y) st).wp Q ↔ Q (.bl (decide (x.cps.toList < y.cps.toList))) st := Iff.rfl
@[simp] theorem w_gtS : (gtA (.str x) (.str y) st).wp Q ↔ Q (.bl (decide (y.cps.toList < x.cps.toList))) st := Iff.rfl
@[simp] theorem w_eq : (eqA (.int i) (.int j) st).wp Q ↔ Q (.bl (decide (i = j))) st := Iff.rfl
@[simp] theorem w_eqS : (eqA (.str x) (.str y) st).wp Q ↔ Q (.bl (decide (x = y))) st := Iff.rfl
@[simp] theorem w_eqB : (eqA (.bl b) (.bl c) st).wp Q ↔ Q (.bl (decide (b = c))) st := Iff.rfl
@[simp] theorem w_eqN : (eqA .non .non st).wp Q ↔ Q (.bl true) st := Iff.rfl
@[simp] theorem w_eqIS : (eqA (.int i) (.str y) st).wp Q ↔ Q (.bl false) st := Iff.rfl
@[simp] theorem w_eqSI : (eqA (.str x) (.int j) st).wp Q ↔ Q (.bl false) st := Iff.rfl
@[simp] theorem w_ne : (neA (.int i) (.int j) st).wp Q ↔ Q (.bl (!decide (i = j))) st := Iff.rfl
@[simp] theorem w_neS : (neA (.str x) (.str y) st).wp Q ↔ Q (.bl (!decide (x = y))) st := Iff.rfl
@[simp] theorem w_neB : (neA (.bl b) (.bl c) st).wp Q ↔ Q (.bl (!decide (b = c))) st := Iff.rfl
@[simp] theorem w_isN : (isNA a .non st).wp Q ↔ Q (.bl (isNonA a)) st := by cases a <;> rfl
@[simp] theorem isNon_non : isNonA .non = true := rfl
@[simp] theorem isNon_int : isNonA (.int i) = false := rfl
@[simp] theorem isNon_str : isNonA (.str x) = false := rfl
@[simp] theorem isNon_tup : isNonA (.tup xs) = false := rfl
@[simp] theorem isNon_bl : isNonA (.bl b) = false := rfl
@[simp] theorem isNon_ref : isNonA (.ref r) = false := rfl
@[simp] theorem w_truN : (truA .non st).wp QB ↔ QB false st := Iff.rfl
@[simp] theorem w_truB : (truA (.bl b) st).wp QB ↔ QB b st := Iff.rfl
@[simp] theorem w_truI : (truA (.int i) st).wp QB ↔ QB (i != 0) st := Iff.rfl
@[simp] theorem w_truS : (truA (.str x) st).wp QB ↔ x.length ≤ sizeLine ∧ QB ((x.length : Int) != 0) st := w_if
@[simp] theorem w_truT : (truA (.tup xs) st).wp QB ↔ QB (!xs.isEmpty) st := Iff.rfl
@[simp] theorem w_truL : (truA (.ref r) st).wp QB ↔ ∃ xs, stL st r = some xs ∧ QB (!xs.isEmpty) st := by
  simp only [truA, stL]
  cases st[r]? with
  | none => simp [R.wp]
  | some o =>
    cases o with
    | oth u => simp [R.wp]
    | lst xs => simp [R.wp]
@[simp] theorem w_getB : (getB (.bl b) st).wp QB ↔ QB b st := Iff.rfl
@[simp] theorem w_getI : (getI (.int i) st).wp QI ↔ QI i st := Iff.rfl
@[simp] theorem w_ixT : (ixA (.tup xs) (.int i) st).wp Q ↔ ∃ d, atI xs i = some d ∧ Q d st := by
  simp only [ixA]
  cases atI xs i <;> simp [R.wp]
@[simp] theorem w_ixC : (ixA (.scr xs) (.int i) st).wp Q ↔ ∃ d, atI xs i = some d ∧ Q d st := by
  simp only [ixA]
  cases atI xs i <;> simp [R.wp]
@[simp] theorem w_ixL : (ixA (.ref r) (.int i) st).wp Q ↔ ∃ xs, stL st r = some xs ∧ ∃ d, atI xs i = some d ∧ Q d st := by
  simp only [ixA, stL]
  cases st[r]? with
  | none => simp [R.wp]
  | some o =>
    cases o with
    | oth u => simp [R.wp]
    | lst xs =>
      simp only [Option.some.injEq, exists_eq_left']
      cases atI xs i <;> simp [R.wp]
@[simp] theorem w_ixS : (ixA (.str x) (.int i) st).wp Q ↔ x.length ≤ sizeLine ∧ ∃ c, atI x.cps.toList i = some c ∧ Q (.str ⟨#[c]⟩) st := by
  simp only [ixA]
  by_cases h : x.length ≤ sizeLine
  · rw [if_pos h]
    cases atI x.cps.toList i <;> simp [R.wp, h]
  · rw [if_neg h]
    simp [R.wp, h]
@[simp] theorem w_abs : (absA [.int i] st).wp Q ↔ Q (.int (if i < 0 then -i else i)) st := Iff.rfl
@[simp] theorem w_int : (intA [.int i] st).wp Q ↔ Q (.int i) st := Iff.rfl
@[simp] theorem w_intB : (intA [.bl b] st).wp Q ↔ Q (.int (if b then 1 else 0)) st := Iff.rfl
@[simp] theorem w_max2 : (maxA [.int i, .int j] st).wp Q ↔ Q (.int (if j > i then j else i)) st := Iff.rfl
@[simp] theorem w_min2 : (minA [.int i, .int j] st).wp Q ↔ Q (.int (if j < i then j else i)) st := Iff.rfl
@[simp] theorem w_lenS : (lenA [.str x] st).wp Q ↔ x.length ≤ sizeLine ∧ Q (.int (x.length : Nat)) st := w_if
@[simp] theorem w_lenT : (lenA [.tup xs] st).wp Q ↔ Q (.int (xs.length : Nat)) st := Iff.rfl
@[simp] theorem w_lenC : (lenA [.scr xs] st).wp Q ↔ Q (.int (xs.length : Nat)) st := Iff.rfl
theorem itemsL_ref : itemsL (.ref r) st = stL st r := rfl
theorem itemsQ_ref : itemsQ (.ref r) st = stL st r := rfl
@[simp] theorem w_lenL : (lenA [.ref r] st).wp Q ↔ ∃ xs, stL st r = some xs ∧ Q (.int (xs.length : Nat)) st := by
  simp only [lenA]
  simp only [itemsQ_ref]
  cases stL st r <;> simp [R.wp]
@[simp] theorem w_listT : (listA [.tup xs] st).wp Q ↔ Q (.ref st.length) (st ++ [.lst xs]) := Iff.rfl
@[simp] theorem w_listC : (listA [.scr xs] st).wp Q ↔ Q (.ref st.length) (st ++ [.lst xs]) := Iff.rfl
@[simp] theorem w_listL : (listA [.ref r] st).wp Q ↔ ∃ xs, stL st r = some xs ∧ Q (.ref st.length) (st ++ [.lst xs]) := by
  simp only [listA]
  simp only [itemsQ_ref]
  cases stL st r <;> simp [R.wp]
@[simp] theorem w_tupT : (tupleA [.tup xs] st).wp Q ↔ Q (.tup xs) st := Iff.rfl
@[simp] theorem w_tupC : (tupleA [.scr xs] st).wp Q ↔ Q (.tup xs) st := Iff.rfl
@[simp] theorem w_tupL : (tupleA [.ref r] st).wp Q ↔ ∃ xs, stL st r = some xs ∧ Q (.tup xs) st := by
  simp only [tupleA]
  simp only [itemsL_ref]
  cases stL st r <;> simp [R.wp]
@[simp] theorem w_sumL : (sumA [.ref r] st).wp Q ↔ ∃ xs, stL st r = some xs ∧ ∃ ns, intsOf xs = some ns ∧ Q (.int ns.sum) st := by
  simp only [sumA]
  simp only [itemsL_ref]
  cases stL st r with
  | none => simp [R.wp]
  | some xs =>
    simp only [Option.bind_some, Option.some.injEq, exists_eq_left']
    cases intsOf xs <;> simp [R.wp]
@[simp] theorem w_isi {T : Ty} (h : isTy T a st = some b) : (isiA T a st).wp Q ↔ Q (.bl b) st := by
  unfold isiA
  rw [h]
  exact Iff.rfl
@[simp] theorem ty_tt : isTy .tup (.tup xs) st = some true := rfl
@[simp] theorem ty_ti : isTy .tup (.int i) st = some false := rfl
@[simp] theorem ty_ts : isTy .tup (.str x) st = some false := rfl
@[simp] theorem ty_tn : isTy .tup .non st = some false := rfl
@[simp] theorem ty_tb : isTy .tup (.bl b) st = some false := rfl
@[simp] theorem ty_st : isTy .str (.tup xs) st = some false := rfl
@[simp] theorem ty_si : isTy .str (.int i) st = some false := rfl
@[simp] theorem ty_ss : isTy .str (.str x) st = some true := rfl
@[simp] theorem ty_sn : isTy .str .non st = some false := rfl
@[simp] theorem ty_sb : isTy .str (.bl b) st = some false := rfl
@[simp] theorem ty_it : isTy .int (.tup xs) st = some false := rfl
@[simp] theorem ty_ii : isTy .int (.int i) st = some true := rfl
@[simp] theorem ty_is : isTy .int (.str x) st = some false := rfl
@[simp] theorem ty_in : isTy .int .non st = some false := rfl
@[simp] theorem ty_ib : isTy .int (.bl b) st = some true := rfl
@[simp] theorem ty_bt : isTy .bool (.tup xs) st = some false := rfl
@[simp] theorem ty_bi : isTy .bool (.int i) st = some false := rfl
@[simp] theorem ty_bs : isTy .bool (.str x) st = some false := rfl
@[simp] theorem ty_bn : isTy .bool .non st = some false := rfl
@[simp] theorem ty_bb : isTy .bool (.bl b) st = some true := rfl
@[simp] theorem isL_ref : isL (.ref r) st = (stL st r).isSome := by
  simp only [isL, stL]
  cases st[r]? with
  | none => rfl
  | some o => cases o <;> rfl
@[simp] theorem w_extendT {ys : List A} : (extendA (.ref r) [.tup ys] st).wp Q ↔ ∃ xs, stL st r = some xs ∧ xs.length + ys.length ≤ sizeLine ∧ Q .non (st.set r (.lst (xs ++ ys))) := by
  simp only [extendA, stL]
  cases st[r]? with
  | none => simp [R.wp]
  | some o =>
    cases o with
    | oth u => simp [R.wp]
    | lst xs => simp only [w_if, Option.some.injEq, exists_eq_left']
@[simp] theorem w_append : (appendA (.ref r) [a] st).wp Q ↔ ∃ xs, stL st r = some xs ∧ xs.length < sizeLine ∧ Q .non (st.set r (.lst (xs ++ [a]))) := by
  simp only [appendA, stL]
  cases st[r]? with
  | none => simp [R.wp]
  | some o =>
    cases o with
    | oth u => simp [R.wp]
    | lst xs => simp only [w_if, Option.some.injEq, exists_eq_left']
@[simp] theorem w_rng1 : (rngA [.int j] st).wp QS ↔ (-(2 ^ 62) ≤ j ∧ j < 2 ^ 62) ∧ QS (.rng 0 j.toNat) st := w_if
@[simp] theorem w_rng2 : (rngA [.int i, .int j] st).wp QS ↔ (-(2 ^ 62) ≤ i ∧ i < 2 ^ 62 ∧ -(2 ^ 62) ≤ j ∧ j < 2 ^ 62) ∧ QS (.rng i (j - i).toNat) st := w_if
@[simp] theorem w_srcT : (srcA (.tup xs) st).wp QS ↔ QS (.vals xs) st := Iff.rfl
@[simp] theorem w_srcC : (srcA (.scr xs) st).wp QS ↔ QS (.vals xs) st := Iff.rfl
@[simp] theorem w_srcS : (srcA (.str x) st).wp QS ↔ QS (.chars x) st := Iff.rfl
@[simp] theorem w_srcL : (srcA (.ref r) st).wp QS ↔ (stL st r).isSome = true ∧ QS (.lst r) st := by
  simp only [srcA, stL]
  cases st[r]? with
  | none => simp [R.wp]
  | some o =>
    cases o with
    | oth u => simp [R.wp]
    | lst xs => simp [R.wp]
@[simp] theorem w_slT {lo hi : Option Int} : (slA (.tup xs) lo hi st).wp Q ↔ Q (.tup (cutA xs lo hi)) st := Iff.rfl
@[simp] theorem w_slL {lo hi : Option Int} : (slA (.ref r) lo hi st).wp Q ↔ ∃ xs, stL st r = some xs ∧ Q (.ref st.length) (st ++ [.lst (cutA xs lo hi)]) := by
  simp only [slA, stL]
  cases st[r]? with
  | none => simp [R.wp]
  | some o =>
    cases o with
    | oth u => simp [R.wp]
    | lst xs => simp [R.wp]
@[simp] theorem w_slS {lo hi : Option Int} : (slA (.str x) lo hi st).wp Q ↔ x.length ≤ sizeLine ∧ Q (.str (L2.cutS x lo hi)) st := w_if
@[simp] theorem ex_setA {N : Store → Prop} : (∃ st4, setA (.ref r) (.int k) d st = some st4 ∧ N st4) ↔ ∃ xs, stL st r = some xs ∧ ∃ j, L2.ixN xs.length k = some j ∧ N (st.set r (.lst (xs.set j d))) := by
  simp only [setA, stL]
  cases st[r]? with
  | none => simp
  | some o =>
    cases o with
    | oth u => simp
    | lst xs =>
      simp only [Option.some.injEq, exists_eq_left']
      cases L2.ixN xs.length k <;> simp
@[simp] theorem stL_set_some {st : Store} {r : Nat} {ys : List A} (h : (stL st r).isSome = true) : stL (st.set r (.lst ys)) r = some ys := by
  obtain ⟨xs, e⟩ := Option.isSome_iff_exists.mp h
  have := (List.getElem?_eq_some_iff.mp (stL_eq e)).1
  unfold stL
  rw [List.getElem?_set_self this]
theorem stL_set_self {st : Store} {r : Nat} {xs ys : List A} (h : stL st r = some xs) : stL (st.set r (.lst ys)) r = some ys := by
  have := (List.getElem?_eq_some_iff.mp (stL_eq h)).1
  unfold stL
  rw [List.getElem?_set_self this]
@[simp] theorem stL_set_ne {st : Store} {r q : Nat} {ys : List A} (h : r ≠ q) : stL (st.set r (.lst ys)) q = stL st q := by
  unfold stL
  rw [List.getElem?_set_ne h]
@[simp] theorem stL_pre {st g : Store} {r : Nat} (h : (stL st r).isSome = true) : stL (st ++ g) r = stL st r := by
  obtain ⟨xs, e⟩ := Option.isSome_iff_exists.mp h
  have e' := stL_eq e
  rw [e]
  exact stL_of (by rw [List.getElem?_append_left (List.getElem?_eq_some_iff.mp e').1, e'])
@[simp] theorem stL_end {st g : Store} : stL (st ++ g) st.length = stL g 0 := by
  unfold stL
  rw [List.getElem?_append_right (Nat.le_refl _), Nat.sub_self]
@[simp] theorem stL_end1 {st g : Store} {k : Nat} : stL (st ++ g) (st.length + k) = stL g k := by
  unfold stL
  rw [List.getElem?_append_right (Nat.le_add_right _ _), Nat.add_sub_cancel_left]
@[simp] theorem stL_end2 {st g : Store} {k m : Nat} : stL (st ++ g) (st.length + k + m) = stL g (k + m) := by
  rw [Nat.add_assoc]
  exact stL_end1
@[simp] theorem stL_z {xs : List A} {g : Store} : stL (.lst xs :: g) 0 = some xs := rfl
@[simp] theorem stL_s {o : Ob} {g : Store} {k : Nat} : stL (o :: g) (k + 1) = stL g k := by
  unfold stL
  rw [List.getElem?_cons_succ]
end
@[simp] theorem ixN_nn {n : Nat} {i : Int} (h : 0 ≤ i) : ixN n i = if i < n then some i.toNat else none := by
  unfold ixN
  rw [if_pos h]
@[simp] theorem atI_nn {α : Type} {xs : List α} {i : Int} (h : 0 ≤ i) : atI xs i = xs[i.toNat]? := by
  unfold atI
  rw [ixN_nn h]
  by_cases c : i < xs.length
  · rw [if_pos c]
    rfl
  · rw [if_neg c]
    exact (List.getElem?_eq_none (by omega)).symm
theorem ex_eq {α : Type} {p : α → Prop} {v : α} : (∃ a, v = a ∧ p a) ↔ p v := exists_eq_left'
@[simp] theorem cut_to {α : Type} {xs : List α} {j : Int} (h : 0 ≤ j) : cutA xs none (some j) = xs.take j.toNat := by
  unfold cutA HT.sIx
  have : ¬ j < 0 := by omega
  simp only [this, if_false, Nat.sub_zero, List.drop_zero]
  by_cases c : j.toNat ≤ xs.length
  · rw [Nat.min_eq_left c]
  · rw [Nat.min_eq_right (by omega), List.take_of_length_le (Nat.le_refl _), List.take_of_length_le (by omega)]
@[simp] theorem cut_from {α : Type} {xs : List α} {i : Int} (h : 0 ≤ i) : cutA xs (some i) none = xs.drop i.toNat := by
  unfold cutA HT.sIx
  have : ¬ i < 0 := by omega
  simp only [this, if_false]
  rw [List.take_of_length_le (by rw [List.length_drop]; exact Nat.le_refl _)]
  by_cases c : i.toNat ≤ xs.length
  · rw [Nat.min_eq_left c]
  · rw [Nat.min_eq_right (by omega), List.drop_of_length_le (Nat.le_refl _), List.drop_of_length_le (by omega)]
@[simp] theorem cut_mid {α : Type} {xs : List α} {i j : Int} (h : 0 ≤ i) (h2 : 0 ≤ j) : cutA xs (some i) (some j) = (xs.take j.toNat).drop i.toNat := by
  unfold cutA HT.sIx
  have q1 : ¬ i < 0 := by omega
  have q2 : ¬ j < 0 := by omega
  simp only [q1, q2, if_false]
  refine List.ext_getElem? fun k => ?_
  simp only [List.getElem?_take, List.getElem?_drop]
  by_cases c : k < min j.toNat xs.length - min i.toNat xs.length
  · have e : min i.toNat xs.length = i.toNat := by omega
    rw [if_pos c, e, if_pos (by omega)]
  · rw [if_neg c]
    by_cases d : i.toNat + k < j.toNat
    · rw [if_pos d, List.getElem?_eq_none (by omega)]
    · rw [if_neg d]
@[simp] theorem cut_all' {α : Type} {xs : List α} : cutA xs none none = xs := by
  unfold cutA HT.sIx
  simp
@[simp] theorem size_eq : sizeLine = 16777216 := PySem.sizeLine_eq
end ML
namespace Law
open PySem L2 ML
def m_law_tape : MF := mFn 3 1 (mSeq (mSet 1 (mC (.int 7)))
    (mSeq (mFor (mSrc (mVar 0)) (.one 2) (mSet 1 (mBin modA (mCa intA (mCons (mBin addA (mBin mulA (mVar 1) (mC (.int 31))) (mCa absA (mCons (mCa intA (mCons (mVar 2) mNil)) mNil))) mNil)) (mC (.int 2147483647)))))
    (mRet (mLst (mCons (mCa listA (mCons (mVar 0) mNil)) (mCons (mC (.int 0)) (mCons (mC (.int 0)) (mCons (mVar 1) mNil))))))))
def m_law_draw : MF := mFn 4 2 (mSeq (mIfS (mGB (mBin eqA (mBin ixA (mVar 0) (mC (.int 2))) (mC (.int 0)))) (mSeq (mSet 2 (mBin ixA (mVar 0) (mC (.int 1))))
    (mSeq (mSet 3 (mC (.int 0)))
    (mSeq (mIfS (mGB (mBin ltA (mVar 2) (mCa lenA (mCons (mBin ixA (mVar 0) (mC (.int 0))) mNil)))) (mSet 3 (mCa absA (mCons (mCa intA (mCons (mBin ixA (mBin ixA (mVar 0) (mC (.int 0))) (mVar 2)) mNil)) mNil))) (mSeq (mPut (mVar 0) (mC (.int 3)) (mBin modA (mCa intA (mCons (mBin addA (mBin addA (mBin mulA (mBin ixA (mVar 0) (mC (.int 3))) (mC (.int 48271))) (mVar 2)) (mC (.int 1))) mNil)) (mC (.int 2147483647))))
    (mSet 3 (mBin ixA (mVar 0) (mC (.int 3))))))
    (mSeq (mPut (mVar 0) (mC (.int 1)) (mBin addA (mVar 2) (mC (.int 1))))
    (mSeq (mIfS (mGB (mBin ltA (mVar 3) (mBin powA (mC (.int 10)) (mC (.int 18))))) (mSeq (mSet 3 (mBin modA (mCa intA (mCons (mBin addA (mBin addA (mBin mulA (mVar 3) (mC (.int 48271))) (mBin mulA (mVar 2) (mC (.int 69621)))) (mC (.int 5))) mNil)) (mC (.int 2147483647))))
    (mSeq (mSet 3 (mBin modA (mCa intA (mCons (mBin mulA (mVar 3) (mC (.int 69621))) mNil)) (mC (.int 2147483629))))
    (mRet (mBin modA (mCa intA (mCons (mVar 3) mNil)) (mCa maxA (mCons (mVar 1) (mCons (mC (.int 1)) mNil))))))) mNext)
    (mPut (mVar 0) (mC (.int 2)) (mVar 3))))))) mNext)
    (mSeq (mSet 3 (mBin ixA (mVar 0) (mC (.int 2))))
    (mSeq (mPut (mVar 0) (mC (.int 2)) (mBin fdivA (mVar 3) (mCa maxA (mCons (mVar 1) (mCons (mC (.int 2)) mNil)))))
    (mRet (mBin modA (mCa intA (mCons (mVar 3) mNil)) (mCa maxA (mCons (mVar 1) (mCons (mC (.int 1)) mNil))))))))
structure TpOk (st : Store) : Prop where
  ex : ∃ (ns : List Int) (p r t : Int), 0 ≤ p ∧ st[0]? = some (.lst (ns.map .int)) ∧ st[1]? = some (.lst [.ref 0, .int p, .int r, .int t])
structure Kp (st st' : Store) : Prop where
  len : st.length ≤ st'.length
  get : ∀ i, 1 < i → i < st.length → st'[i]? = st[i]?
theorem Kp.refl (st : Store) : Kp st st := ⟨Nat.le_refl _, fun _ _ _ => rfl⟩
theorem Kp.trans {a b c : Store} (h : Kp a b) (k : Kp b c) : Kp a c := ⟨Nat.le_trans h.len k.len, fun i h1 h2 => by rw [k.get i h1 (Nat.lt_of_lt_of_le h2 h.len), h.get i h1 h2]⟩
theorem Kp.grown {a b : Store} (h : Grown a b) : Kp a b := by
  obtain ⟨g, rfl⟩ := h
  exact ⟨by simp, fun i _ h => List.getElem?_append_left h⟩
theorem Kp.lst {a b : Store} (h : Kp a b) {i : Nat} {o : Ob} (hi : 1 < i) (e : a[i]? = some o) : b[i]? = some o := by
  rw [h.get i hi (List.getElem?_eq_some_iff.mp e).1]
  exact e
theorem Kp.stL {a b : Store} (h : Kp a b) {i : Nat} {xs : List A} (hi : 1 < i) (e : ML.stL a i = some xs) : ML.stL b i = some xs := stL_of (h.lst hi (stL_eq e))
theorem TpOk.grown {a b : Store} (t : TpOk a) (h : Grown a b) : TpOk b := by
  obtain ⟨ns, p, r, q, h0, h1, h2⟩ := t.ex
  exact ⟨ns, p, r, q, h0, h.get h1, h.get h2⟩
theorem TpOk.len {a : Store} (t : TpOk a) : 2 ≤ a.length := by
  obtain ⟨ns, p, r, q, h0, h1, h2⟩ := t.ex
  exact (List.getElem?_eq_some_iff.mp h2).1
theorem tape_set {st : Store} {ns : List Int} {p r q : Int} (h0 : 0 ≤ p) (h1 : st[0]? = some (.lst (ns.map .int))) (h2 : st[1]?.isSome = true) : TpOk (st.set 1 (.lst [.ref 0, .int p, .int r, .int q])) := by
  obtain ⟨o, e⟩ := Option.isSome_iff_exists.mp h2
  refine ⟨ns, p, r, q, h0, ?_, ?_⟩
  · rw [List.getElem?_set_ne (by decide)]
    exact h1
  · rw [List.getElem?_set_self (List.getElem?_eq_some_iff.mp e).1]
theorem kp_set {st : Store} {o : Ob} : Kp st (st.set 1 o) := ⟨by simp, fun i h _ => by rw [List.getElem?_set_ne (by omega)]⟩
theorem max_pos {many : Int} : 0 < (if many < 1 then 1 else many) := by split <;> omega
theorem max_pos2 {many : Int} : 0 < (if many < 2 then 2 else many) := by split <;> omega
theorem max_eq {many : Int} : (if many < 1 then 1 else many) = max many 1 := by
  split <;> omega
theorem max_log {many : Int} (h : many.natAbs < 2 ^ 200) : (if many < 2 then 2 else many).natAbs.log2 < 9000 := by
  split
  · decide
  · exact Nat.lt_of_lt_of_le (PySem.Flt.log2_lt_of (by decide) h) (by decide)
theorem small64 {i : Int} (h : -1000000000000000000 ≤ i) (h2 : i ≤ 1000000000000000000) : -(2 ^ 64) < i ∧ i < 2 ^ 64 := by omega
theorem cmul_r {i j : Int} (h : -1000000000000000000 ≤ j) (h2 : j ≤ 1000000000000000000) : CMulA i j := .inl (.inr (small64 h h2))
theorem cmul_l {i j : Int} (h : -1000000000000000000 ≤ i) (h2 : i ≤ 1000000000000000000) : CMulA i j := .inl (.inl (small64 h h2))
theorem draw_wp {st : Store} {many : Int} {Q : A → Store → Prop} (t : TpOk st) (hm : many.natAbs < 2 ^ 200) (k : ∀ (n : Int) st', 0 ≤ n → n < max many 1 → TpOk st' → Kp st st' → st'.length = st.length → Q (.int n) st') : (m_law_draw [.ref 1, .int many] st).wp Q := by
  obtain ⟨ns, p, r, q, h0, h1, h2⟩ := t.ex
  have g1 := stL_of h1
  have g2 := stL_of h2
  have hs : st[1]?.isSome = true := by rw [h2]; rfl
  have fin : ∀ (n r' p' q' : Int) st', 0 ≤ p' → st' = st.set 1 (.lst [.ref 0, .int p', .int r', .int q']) → Q (.int (n % (if many < 1 then 1 else many))) st' := fun n r' p' q' st' hp e => by
    subst e
    refine k _ _ (Int.emod_nonneg _ (by have := max_pos (many := many); omega)) ?_ (tape_set hp h1 hs) kp_set (by simp)
    rw [← max_eq]
    exact Int.emod_lt_of_pos _ max_pos
  have c1 : CMulA p 69621 := cmul_r (by decide) (by decide)
  have c2 : CMulA q 48271 := cmul_r (by decide) (by decide)
  have c3 : ∀ i, CMulA i 48271 := fun i => cmul_r (by decide) (by decide)
  have c4 : ∀ i, CMulA i 69621 := fun i => cmul_r (by decide) (by decide)
  by_cases hr : r = 0
  · by_cases hp : p < ns.length
    · have hpn : p.toNat < ns.length := by omega
      simp only [m_law_draw] 
      simp [g1, g2, hr, hp, h0, hpn, max_pos, max_pos2, max_log hm, c3, c4]
      split <;> split <;> exact fin _ _ (p + 1) _ _ (by omega) rfl
    · simp only [m_law_draw] 
      simp [g1, g2, hr, hp, h0, max_pos, max_pos2, max_log hm, c3, c4]
      split <;> exact fin _ _ (p + 1) _ _ (by omega) rfl
  · simp only [m_law_draw] 
    simp [g1, g2, hr, max_pos, max_pos2, max_log hm]
    exact fin _ _ _ _ _ h0 rfl
theorem tape_wp {ns : List Int} {Q : A → Store → Prop} (k : ∀ st, TpOk st → st.length = 2 → Q (.ref 1) st) : (m_law_tape [.scr (ns.map .int)] []).wp Q := by
  simp only [m_law_tape]
  simp
  refine for_vals (fun i ρ st => st = [] ∧ ∃ t v, ρ = [some (.scr (ns.map .int)), some (.int t), v]) ⟨rfl, 7, none, rfl⟩ ?_ ?_
  · rintro i x ρ st hx ⟨rfl, t, v, rfl⟩
    rw [List.getElem?_map] at hx
    cases e : ns[i]? with
    | none => rw [e] at hx; cases hx
    | some n =>
      rw [e] at hx
      cases hx
      refine ⟨_, rfl, ?_⟩
      simp
      exact cmul_r (by decide) (by decide)
  · rintro ρ st ⟨rfl, t, v, rfl⟩
    simp
    exact k _ ⟨ns, 0, 0, t, by decide, rfl, rfl⟩ rfl
mutual
/-- no list, no instance in it -/
def plainA : A → Bool
  | .tup xs => plainAs xs
  | .scr _ => false
  | .ref _ => false
  | _ => true
def plainAs : List A → Bool
  | [] => true
  | x :: xs => plainA x && plainAs xs
end
mutual
def depA : A → Nat
  | .tup xs => depAs xs + 1
  | _ => 0
def depAs : List A → Nat
  | [] => 0
  | x :: xs => max (depA x) (depAs xs)
end
theorem plain_get : ∀ {xs : List A} {i : Nat} {x : A}, plainAs xs = true → xs[i]? = some x → plainA x = true
  | [], _, _, _, h => by simp at h
  | y :: ys, 0, x, hp, h => by
    simp at h
    subst h
    simp only [plainAs, Bool.and_eq_true] at hp
    exact hp.1
  | y :: ys, i + 1, x, hp, h => by
    simp only [plainAs, Bool.and_eq_true] at hp
    exact plain_get (i := i) hp.2 (by simpa using h)
theorem dep_get : ∀ {xs : List A} {i : Nat} {x : A}, xs[i]? = some x → depA x ≤ depAs xs
  | [], _, _, h => by simp at h
  | y :: ys, 0, x, h => by
    simp at h
    subst h
    simp only [depAs]
    omega
  | y :: ys, i + 1, x, h => by
    have := dep_get (xs := ys) (i := i) (x := x) (by simpa using h)
    simp only [depAs]
    omega
def m_law_alike : Nat → MF
  | 0 => fun _ _ => .bad
  | n + 1 => mFn 3 2 (mSeq (mIfS (mTru (mUn (isiA .tup) (mVar 1))) (mSeq (mIfS (mOr (mNot (mTru (mUn (isiA .tup) (mVar 0)))) (mGB (mBin neA (mCa lenA (mCons (mVar 0) mNil)) (mCa lenA (mCons (mVar 1) mNil))))) (mRet (mC (.bl false))) mNext)
    (mSeq (mFor (mRng (mCons (mCa lenA (mCons (mVar 1) mNil)) mNil)) (.one 2) (mIfS (mNot (mTru (mCall (m_law_alike n) (mCons (mBin ixA (mVar 0) (mVar 2)) (mCons (mBin ixA (mVar 1) (mVar 2)) mNil))))) (mRet (mC (.bl false))) mNext))
    (mRet (mC (.bl true))))) mNext)
    (mSeq (mIfS (mGB (mBin isNA (mVar 1) (mC .non))) (mRet (mBin isNA (mVar 0) (mC .non))) mNext)
    (mSeq (mIfS (mTru (mUn (isiA .str) (mVar 1))) (mRet (mAndV (mUn (isiA .str) (mVar 0)) (mBin eqA (mVar 0) (mVar 1)))) mNext)
    (mSeq (mIfS (mGB (mBin neA (mUn (isiA .bool) (mVar 0)) (mUn (isiA .bool) (mVar 1)))) (mRet (mC (.bl false))) mNext)
    (mRet (mAndV (mUn (isiA .int) (mVar 0)) (mBin eqA (mVar 0) (mVar 1))))))))
mutual
def fewA : A → Bool
  | .tup xs => decide (xs.length ≤ 16777216) && fewAs xs
  | _ => true
def fewAs : List A → Bool
  | [] => true
  | x :: xs => fewA x && fewAs xs
end
theorem few_get : ∀ {xs : List A} {i : Nat} {x : A}, fewAs xs = true → xs[i]? = some x → fewA x = true
  | [], _, _, _, h => by simp at h
  | y :: ys, 0, x, hp, h => by
    simp at h
    subst h
    simp only [fewAs, Bool.and_eq_true] at hp
    exact hp.1
  | y :: ys, i + 1, x, hp, h => by
    simp only [fewAs, Bool.and_eq_true] at hp
    exact few_get (i := i) hp.2 (by simpa using h)
theorem alike_wp : ∀ (n : Nat) {a : A} {st : Store} {Q : A → Store → Prop}, plainA a = true → fewA a = true → depA a < n → Q (.bl true) st → (m_law_alike n [a, a] st).wp Q
  | 0, a, st, Q, _, _, h, _ => by omega
  | n + 1, a, st, Q, hp, hf, hd, hq => by
    cases a with
    | tup xs =>
      simp only [plainA] at hp
      simp only [fewA, Bool.and_eq_true, decide_eq_true_eq] at hf
      simp only [depA] at hd
      simp [m_law_alike]
      refine ⟨by omega, ?_⟩
      refine for_rng (fun i ρ st' => st' = st ∧ ∃ v, ρ = [some (.tup xs), some (.tup xs), v]) ⟨rfl, none, rfl⟩ ?_ ?_
      · rintro i ρ st' hi ⟨rfl, v, rfl⟩
        refine ⟨_, rfl, ?_⟩
        have e : xs[i]? = some xs[i] := List.getElem?_eq_getElem hi
        simp [e]
        have := dep_get e
        refine alike_wp n (plain_get hp e) (few_get hf.2 e) (by omega) ?_
        simp
      · rintro ρ st' ⟨rfl, v, rfl⟩
        simpa using hq
    | scr xs => cases hp
    | ref r => cases hp
    | non => simpa [m_law_alike] using hq
    | bl b => simpa [m_law_alike] using hq
    | int i => simpa [m_law_alike] using hq
    | str x => simpa [m_law_alike] using hq
mutual
def cleanA : A → Bool
  | .non => true
  | .int _ => true
  | .str x => PySem.PyData.strOk x
  | .tup xs => cleanAs xs
  | _ => false
def cleanAs : List A → Bool
  | [] => true
  | x :: xs => cleanA x && cleanAs xs
end
end Law
namespace Law
open PySem L2 ML
def m_law_sign : MF := mFn 2 1 (mSeq (mSet 1 (mC (.str " !\"#$&'()*+,-./0123456789:;<=>?@ABCDEFGHIJKLMNOPQRSTUVWXYZ[\\]^_`")))
    (mSeq (mSet 1 (mBin addA (mVar 1) (mC (.str "abcdefghijklmnopqrstuvwxyz{|}~"))))
    (mRet (mBin ixA (mVar 1) (mCall m_law_draw (mCons (mVar 0) (mCons (mC (.int 94)) mNil)))))))
def m_law_word : MF := mFn 3 1 (mSeq (mSet 1 (mBin ixA (mLst (mCons (mC (.str "")) (mCons (mC (.str "")) (mCons (mC (.str "to")) (mCons (mC (.str "abcdefghij0123456")) mNil))))) (mCall m_law_draw (mCons (mVar 0) (mCons (mC (.int 4)) mNil)))))
    (mSeq (mFor (mRng (mCons (mCall m_law_draw (mCons (mVar 0) (mCons (mC (.int 4)) mNil))) mNil)) (.one 2) (mSet 1 (mBin addA (mVar 1) (mCall m_law_sign (mCons (mVar 0) mNil)))))
    (mRet (mVar 1))))
def m_law_scalar : MF := mFn 3 1 (mSeq (mSet 1 (mCall m_law_draw (mCons (mVar 0) (mCons (mC (.int 7)) mNil))))
    (mSeq (mIfS (mGB (mBin eqA (mVar 1) (mC (.int 0)))) (mRet (mCall m_law_word (mCons (mVar 0) mNil))) mNext)
    (mSeq (mIfS (mGB (mBin eqA (mVar 1) (mC (.int 1)))) (mSeq (mSet 2 (mLst (mCons (mC (.int 0)) (mCons (mC (.int 1)) (mCons (mC (.int 65535)) (mCons (mC (.int 65536)) (mCons (mC (.int 65537)) (mCons (mC (.int 4294967295)) (mCons (mC (.int 4294967296)) (mCons (mC (.int 281474976710656)) (mCons (mBin subA (mBin powA (mC (.int 10)) (mC (.int 15))) (mC (.int 1))) (mCons (mBin powA (mC (.int 10)) (mC (.int 15))) mNil))))))))))))
    (mRet (mBin mulA (mBin ixA (mVar 2) (mCall m_law_draw (mCons (mVar 0) (mCons (mC (.int 10)) mNil)))) (mBin subA (mC (.int 1)) (mBin mulA (mC (.int 2)) (mCall m_law_draw (mCons (mVar 0) (mCons (mC (.int 2)) mNil)))))))) mNext)
    (mSeq (mIfS (mGB (mBin eqA (mVar 1) (mC (.int 2)))) (mRet (mBin mulA (mBin subA (mCall m_law_draw (mCons (mVar 0) (mCons (mC (.int 2000001)) mNil))) (mC (.int 1000000))) (mBin ixA (mLst (mCons (mC (.int 1)) (mCons (mC (.int 65536)) (mCons (mC (.int 1000000000)) mNil)))) (mCall m_law_draw (mCons (mVar 0) (mCons (mC (.int 3)) mNil)))))) mNext)
    (mSeq (mIfS (mGB (mBin eqA (mVar 1) (mC (.int 3)))) (mRet (mBin subA (mCall m_law_draw (mCons (mVar 0) (mCons (mBin addA (mBin mulA (mC (.int 2)) (mBin powA (mC (.int 10)) (mC (.int 15)))) (mC (.int 1))) mNil))) (mBin powA (mC (.int 10)) (mC (.int 15))))) mNext)
    (mRet (mCall m_law_draw (mCons (mVar 0) (mCons (mC (.int 9)) mNil)))))))))
def m_law_element : MF := mFn 2 1 (mSeq (mSet 1 (mCall m_law_scalar (mCons (mVar 0) mNil)))
    (mSeq (mIfS (mGB (mBin eqA (mCall m_law_draw (mCons (mVar 0) (mCons (mC (.int 4)) mNil))) (mC (.int 0)))) (mRet (mTup (mCons (mVar 1) (mCons (mCall m_law_scalar (mCons (mVar 0) mNil)) mNil)))) mNext)
    (mRet (mVar 1))))
structure SStr (x : Str) : Prop where
  len : x.length ≤ 20
  ch : ∀ (c : Nat), c ∈ x.cps.toList → 32 ≤ c ∧ c < 127
def Sca (a : A) : Prop := (∃ x, a = .str x ∧ SStr x) ∨ ∃ i : Int, a = .int i ∧ -1000000000000000 ≤ i ∧ i ≤ 1000000000000000
def El (a : A) : Prop := Sca a ∨ ∃ x y, a = .tup [x, y] ∧ Sca x ∧ Sca y
def signL : List Nat := [32,33,34,35,36,38,39,40,41,42,43,44,45,46,47,48,49,50,51,52,53,54,55,56,57,58,59,60,61,62,63,64,65,66,67,68,69,70,71,72,73,74,75,76,77,78,79,80,81,82,83,84,85,86,87,88,89,90,91,92,93,94,95,96,97,98,99,100,101,102,103,104,105,106,107,108,109,110,111,112,113,114,115,116,117,118,119,120,121,122,123,124,125,126]
theorem sign_eq : ((Str.ofString " !\"#$&'()*+,-./0123456789:;<=>?@ABCDEFGHIJKLMNOPQRSTUVWXYZ[\\]^_`") ++ (Str.ofString "abcdefghijklmnopqrstuvwxyz{|}~") : Str) = ⟨signL.toArray⟩ := by decide +kernel
theorem sign_wp {st : Store} {Q : A → Store → Prop} (t : TpOk st) (k : ∀ (c : Nat) st', 32 ≤ c → c < 127 → TpOk st' → Kp st st' → st'.length = st.length → Q (.str ⟨#[c]⟩) st') : (m_law_sign [.ref 1] st).wp Q := by
  simp only [m_law_sign]
  simp only [wp_fn, sp_seq, sp_set, wp_c, wp_bin, wp_var, sp_ret, wp_call, wp_cons, wp_nil, w_addS, List.map_cons, List.map_nil, List.set_cons_succ, List.set_cons_zero, List.getElem?_cons_succ, List.getElem?_cons_zero, Option.some.injEq, ex_eq, List.length_cons, List.length_nil, List.cons_append, List.nil_append, List.replicate]
  refine ⟨trivial, by decide +kernel, ?_⟩
  rw [sign_eq]
  refine draw_wp t (by decide) fun n st1 na nb t1 k1 l1 => ?_
  rw [w_ixS]
  refine ⟨by decide +kernel, ?_⟩
  have hn : n.toNat < signL.length := by
    have : signL.length = 94 := by decide +kernel
    omega
  have hs : ∀ c ∈ signL, 32 ≤ c ∧ c < 127 := by decide +kernel
  refine ⟨signL[n.toNat], ?_, ?_⟩
  · rw [atI_nn na]
    exact List.getElem?_eq_getElem hn
  · obtain ⟨h1, h2⟩ := hs _ (List.getElem_mem hn)
    exact k _ _ h1 h2 t1 k1 l1
def WdI (st0 : Store) (i : Nat) (ρ : ML.Env) (st : Store) : Prop := ∃ (x : Str) (v : Option A), x.length ≤ 17 + i ∧ (∀ (c : Nat), c ∈ x.cps.toList → 32 ≤ c ∧ c < 127) ∧ TpOk st ∧ Kp st0 st ∧ ρ = [some (.ref 1), some (.str x), v]
theorem word_wp {st : Store} {Q : A → Store → Prop} (t : TpOk st) (k : ∀ (x : Str) st', SStr x → TpOk st' → Kp st st' → Q (.str x) st') : (m_law_word [.ref 1] st).wp Q := by
  simp only [m_law_word]
  simp only [wp_fn, List.map_cons, List.map_nil, List.length_cons, List.length_nil, List.cons_append, List.nil_append, List.replicate]
  refine ⟨trivial, ?_⟩
  refine seq_cut (WdI st 0) ?_ ?_
  · simp only [sp_set, wp_bin, wp_lst, wp_cons, wp_c, wp_nil, wp_call, wp_var, List.getElem?_cons_zero, Option.some.injEq, ex_eq]
    refine ⟨by simp [sizeLine], ?_⟩
    have g : Grown st (st ++ [.lst [.str "", .str "", .str "to", .str "abcdefghij0123456"]]) := ⟨_, rfl⟩
    refine draw_wp (t.grown g) (by decide) fun n st1 na nb t1 k1 l1 => ?_
    have hl : stL (st ++ [.lst [.str "", .str "", .str "to", .str "abcdefghij0123456"]]) st.length = some [.str "", .str "", .str "to", .str "abcdefghij0123456"] := by simp
    have h2 := t.len
    have h1 := k1.stL (by omega) hl
    rw [w_ixL]
    have hk := (Kp.grown g).trans k1
    have hn : n = 0 ∨ n = 1 ∨ n = 2 ∨ n = 3 := by omega
    have e0 : (Str.ofString "").length ≤ 17 + 0 ∧ ∀ (c : Nat), c ∈ (Str.ofString "").cps.toList → 32 ≤ c ∧ c < 127 := by decide +kernel
    have e1 : (Str.ofString "to").length ≤ 17 + 0 ∧ ∀ (c : Nat), c ∈ (Str.ofString "to").cps.toList → 32 ≤ c ∧ c < 127 := by decide +kernel
    have e2 : (Str.ofString "abcdefghij0123456").length ≤ 17 + 0 ∧ ∀ (c : Nat), c ∈ (Str.ofString "abcdefghij0123456").cps.toList → 32 ≤ c ∧ c < 127 := by decide +kernel
    refine ⟨_, h1, ?_⟩
    rcases hn with rfl | rfl | rfl | rfl
    · exact ⟨_, rfl, _, _, e0.1, e0.2, t1, hk, rfl⟩
    · exact ⟨_, rfl, _, _, e0.1, e0.2, t1, hk, rfl⟩
    · exact ⟨_, rfl, _, _, e1.1, e1.2, t1, hk, rfl⟩
    · exact ⟨_, rfl, _, _, e2.1, e2.2, t1, hk, rfl⟩
  rintro ρ st1 ⟨x, v, hx, hc, t1, k1, rfl⟩
  refine seq_cut (WdI st 3) ?_ ?_
  · simp only [sp_for, wp_rng, wp_cons, wp_nil, wp_call, wp_var, wp_c, List.getElem?_cons_zero, Option.some.injEq, ex_eq]
    refine draw_wp t1 (by decide) fun n st2 na nb t2 k2 l2 => ?_
    rw [w_rng1]
    refine ⟨by omega, ?_⟩
    refine for_rng (WdI st) ⟨x, v, hx, hc, t2, k1.trans k2, rfl⟩ ?_ ?_
    · rintro i ρ st3 hi ⟨x, v, hx, hc, t3, k3, rfl⟩
      refine ⟨_, rfl, ?_⟩
      simp only [sp_set, wp_bin, wp_var, wp_call, wp_cons, wp_nil, List.set_cons_succ, List.set_cons_zero, List.getElem?_cons_succ, List.getElem?_cons_zero, Option.some.injEq, ex_eq]
      refine sign_wp t3 fun c st4 ca cb t4 k4 _ => ?_
      rw [w_addS]
      have hz : Str.length ⟨#[c]⟩ = 1 := rfl
      refine ⟨by rw [hz]; simp only [sizeLine]; omega, _, _, ?_, ?_, t4, k3.trans k4, rfl⟩
      · show (x.cps ++ #[c]).size ≤ _
        have : x.cps.size ≤ 17 + i := hx
        simp
        omega
      · intro d hd
        have : d ∈ (x.cps ++ #[c]).toList := hd
        simp at this
        rcases this with h | rfl
        · exact hc d (by simpa using h)
        · exact ⟨ca, cb⟩
    · rintro ρ st3 ⟨x, v, hx, hc, t3, k3, rfl⟩
      exact ⟨x, v, by omega, hc, t3, k3, rfl⟩
  rintro ρ st2 ⟨x, v, hx, hc, t2, k2, rfl⟩
  simp
  exact k x st2 ⟨by omega, hc⟩ t2 k2
theorem pow15 : (10 : Int) ^ 15 = 1000000000000000 := by decide +kernel
def edgeL : List Int := [0, 1, 65535, 65536, 65537, 4294967295, 4294967296, 281474976710656, 999999999999999, 1000000000000000]
theorem scalar_wp {st : Store} {Q : A → Store → Prop} (t : TpOk st) (k : ∀ (a : A) st', Sca a → TpOk st' → Kp st st' → Q a st') : (m_law_scalar [.ref 1] st).wp Q := by
  have ki : ∀ (i : Int) st', -1000000000000000 ≤ i → i ≤ 1000000000000000 → TpOk st' → Kp st st' → Q (.int i) st' := fun i st' h1 h2 t' k' => k _ _ (.inr ⟨i, rfl, h1, h2⟩) t' k'
  simp only [m_law_scalar]
  simp only [wp_fn, List.map_cons, List.map_nil, List.length_cons, List.length_nil, List.cons_append, List.nil_append, List.replicate, sp_seq, sp_set, wp_call, wp_cons, wp_nil, wp_var, wp_c, List.getElem?_cons_zero, Option.some.injEq, ex_eq, List.set_cons_succ, List.set_cons_zero]
  refine ⟨trivial, ?_⟩
  refine draw_wp t (by decide) fun c st1 ca cb t1 k1 l1 => ?_
  simp only [sp_ifs, wp_gb, wp_bin, wp_var, wp_c, List.getElem?_cons_succ, List.getElem?_cons_zero, Option.some.injEq, ex_eq, w_eq, w_getB, decide_eq_true_eq]
  split
  · simp only [sp_ret, wp_call, wp_cons, wp_nil, wp_var, List.getElem?_cons_zero, Option.some.injEq, ex_eq]
    exact word_wp t1 fun x st2 hx t2 k2 => k _ _ (.inl ⟨x, rfl, hx⟩) t2 (k1.trans k2)
  simp only [sp_next, sp_ifs, wp_gb, wp_bin, wp_var, wp_c, List.getElem?_cons_succ, List.getElem?_cons_zero, Option.some.injEq, ex_eq, w_eq, w_getB, decide_eq_true_eq]
  split
  · have g : Grown st1 (st1 ++ [.lst (edgeL.map .int)]) := ⟨_, rfl⟩
    have hl : stL (st1 ++ [.lst (edgeL.map .int)]) st1.length = some (edgeL.map .int) := by simp
    simp [pow15, -List.getD_eq_getElem?_getD]
    refine draw_wp (t1.grown g) (by decide) fun n st2 na nb t2 k2 l2 => ?_
    have h2 := k2.stL (by have := t1.len; omega) hl
    have hk := k1.trans ((Kp.grown g).trans k2)
    rw [w_ixL]
    refine ⟨_, h2, ?_⟩
    have hn : n.toNat < edgeL.length := by
      have : edgeL.length = 10 := rfl
      omega
    have he : ∀ z ∈ edgeL, 0 ≤ z ∧ z ≤ 1000000000000000 := by decide +kernel
    refine ⟨.int edgeL[n.toNat], ?_, ?_⟩
    · rw [atI_nn na, List.getElem?_map, List.getElem?_eq_getElem hn]
      rfl
    obtain ⟨z1, z2⟩ := he _ (List.getElem_mem hn)
    generalize edgeL[n.toNat] = z at *
    refine draw_wp t2 (by decide) fun m st3 ma mb t3 k3 l3 => ?_
    simp
    refine ⟨cmul_l (by decide) (by decide), cmul_l (by omega) (by omega), ?_⟩
    have hm : m = 0 ∨ m = 1 := by omega
    rcases hm with rfl | rfl
    · exact ki _ _ (by omega) (by omega) t3 (hk.trans k3)
    · exact ki _ _ (by omega) (by omega) t3 (hk.trans k3)
  split
  · simp only [sp_ret, wp_bin, wp_call, wp_cons, wp_nil, wp_var, wp_c, wp_lst, List.getElem?_cons_zero, Option.some.injEq, ex_eq]
    refine draw_wp t1 (by decide) fun n st2 na nb t2 k2 l2 => ?_
    rw [w_sub]
    have g : Grown st2 (st2 ++ [.lst [.int 1, .int 65536, .int 1000000000]]) := ⟨_, rfl⟩
    have hl : stL (st2 ++ [.lst [.int 1, .int 65536, .int 1000000000]]) st2.length = some [.int 1, .int 65536, .int 1000000000] := by simp
    refine ⟨by simp [sizeLine], ?_⟩
    refine draw_wp (t2.grown g) (by decide) fun m st3 ma mb t3 k3 l3 => ?_
    have h3 := k3.stL (by have := t2.len; omega) hl
    have hk := k1.trans (k2.trans ((Kp.grown g).trans k3))
    rw [w_ixL]
    have hn : m = 0 ∨ m = 1 ∨ m = 2 := by omega
    refine ⟨_, h3, ?_⟩
    rcases hn with rfl | rfl | rfl
    · refine ⟨_, rfl, ?_⟩
      rw [w_mul]
      exact ⟨cmul_r (by decide) (by decide), ki _ _ (by omega) (by omega) t3 hk⟩
    · refine ⟨_, rfl, ?_⟩
      rw [w_mul]
      exact ⟨cmul_r (by decide) (by decide), ki _ _ (by omega) (by omega) t3 hk⟩
    · refine ⟨_, rfl, ?_⟩
      rw [w_mul]
      exact ⟨cmul_r (by decide) (by decide), ki _ _ (by omega) (by omega) t3 hk⟩
  split
  · simp [pow15]
    refine ⟨cmul_l (by decide) (by decide), ?_⟩
    refine draw_wp t1 (by decide) fun n st2 na nb t2 k2 l2 => ?_
    simp
    exact ki _ _ (by omega) (by omega) t2 (k1.trans k2)
  simp
  exact draw_wp t1 (by decide) fun n st2 na nb t2 k2 l2 => ki _ _ (by omega) (by omega) t2 (k1.trans k2)
theorem element_wp {st : Store} {Q : A → Store → Prop} (t : TpOk st) (k : ∀ (a : A) st', El a → TpOk st' → Kp st st' → Q a st') : (m_law_element [.ref 1] st).wp Q := by
  simp only [m_law_element]
  simp
  refine scalar_wp t fun a st1 ha t1 k1 => ?_
  refine draw_wp t1 (by decide) fun n st2 na nb t2 k2 l2 => ?_
  simp
  split
  · refine scalar_wp t2 fun b st3 hb t3 k3 => ?_
    exact k _ _ (.inr ⟨a, b, rfl, ha, hb⟩) t3 ((k1.trans k2).trans k3)
  · exact k _ _ (.inl ha) t2 (k1.trans k2)
end Law
namespace Law
open PySem L2 ML
def digs (n : Nat) : Nat → List Int
  | 0 => []
  | i + 1 => ((n / 65536 ^ i % 65536 : Nat) : Int) :: digs n i
theorem digs_len (n i : Nat) : (digs n i).length = i := by
  induction i with
  | zero => rfl
  | succ i ih => simp [digs, ih]
theorem digs_lt (n i : Nat) : ∀ z ∈ digs n i, 0 ≤ z ∧ z < 65536 := by
  induction i with
  | zero => intro z hz; simp [digs] at hz
  | succ i ih =>
    intro z hz
    simp only [digs, List.mem_cons] at hz
    rcases hz with rfl | hz
    · omega
    · exact ih z hz
def scaCode : A → List Int
  | .str x => 3 :: (x.length : Int) :: x.cps.toList.map fun (c : Nat) => (c : Int)
  | .int i => (if i < 0 then 2 else 1) :: digs i.natAbs 4
  | _ => []
def elCode : A → List Int
  | .tup [x, y] => 4 :: (scaCode x ++ scaCode y)
  | .str x => scaCode (.str x)
  | .int i => scaCode (.int i)
  | _ => []
theorem sca_len {a : A} (h : Sca a) : (scaCode a).length ≤ 22 := by
  rcases h with ⟨x, rfl, hx⟩ | ⟨i, rfl, _, _⟩
  · have := hx.len
    have e : x.cps.size = x.length := rfl
    simp [scaCode]
    omega
  · simp [scaCode, digs_len]
theorem el_len {a : A} (h : El a) : (elCode a).length ≤ 45 := by
  rcases h with h | ⟨x, y, rfl, hx, hy⟩
  · have := sca_len h
    rcases h with ⟨x, rfl, hx⟩ | ⟨i, rfl, _, _⟩
    · simp only [elCode]; omega
    · simp only [elCode]; omega
  · have := sca_len hx
    have := sca_len hy
    simp [elCode]
    omega
theorem sca_el {a : A} (h : Sca a) : elCode a = scaCode a := by
  rcases h with ⟨x, rfl, hx⟩ | ⟨i, rfl, _, _⟩ <;> rfl
theorem digs4 (n : Nat) : digs n 4 = [((n / 281474976710656 % 65536 : Nat) : Int), ((n / 4294967296 % 65536 : Nat) : Int), ((n / 65536 % 65536 : Nat) : Int), ((n % 65536 : Nat) : Int)] := by
  simp [digs]
end Law
namespace Law
open PySem L2 ML
inductive Nd where
  | leaf (e : A) | run (b : Nd) (t : Nat) | blk (cs : List Nd)
mutual
def ndA : Nd → A
  | .leaf e => .tup [.str "leaf", e]
  | .run b t => .tup [.str "run", ndA b, .int (t : Int)]
  | .blk cs => .tup [.str "block", .tup (ndAs cs)]
def ndAs : List Nd → List A
  | [] => []
  | c :: cs => ndA c :: ndAs cs
end
mutual
def okN : Nd → Prop
  | .leaf e => El e
  | .run b t => okN b ∧ 2 ≤ t ∧ t ≤ 2000
  | .blk cs => 1 ≤ cs.length ∧ cs.length ≤ 100 ∧ okNs cs
def okNs : List Nd → Prop
  | [] => True
  | c :: cs => okN c ∧ okNs cs
end
mutual
def szN : Nd → Nat
  | .leaf _ => 1
  | .run b t => szN b * t
  | .blk cs => szNs cs
def szNs : List Nd → Nat
  | [] => 0
  | c :: cs => szN c + szNs cs
end
mutual
def dpN : Nd → Nat
  | .leaf _ => 1
  | .run b _ => dpN b + 1
  | .blk cs => dpNs cs + 1
def dpNs : List Nd → Nat
  | [] => 0
  | c :: cs => max (dpN c) (dpNs cs)
end
theorem okNs_iff : ∀ cs : List Nd, okNs cs ↔ ∀ c ∈ cs, okN c
  | [] => by simp [okNs]
  | c :: cs => by simp [okNs, okNs_iff cs]
theorem dpNs_le : ∀ {cs : List Nd} {d : Nat}, (∀ c ∈ cs, dpN c ≤ d) → dpNs cs ≤ d
  | [], d, h => by simp [dpNs]
  | c :: cs, d, h => by
    have h1 := h c (by simp)
    have h2 := dpNs_le (cs := cs) (d := d) fun x hx => h x (by simp [hx])
    simp only [dpNs]
    omega
def isRun : Nd → Bool
  | .run _ _ => true
  | _ => false
end Law
namespace Law
open PySem L2 ML
mutual
def codeN : Nd → List Int
  | .leaf e => elCode e
  | .run b t => 5 :: (digs t 2 ++ codeN b)
  | .blk cs => 6 :: (cs.length : Int) :: codesN cs
def codesN : List Nd → List Int
  | [] => []
  | c :: cs => codeN c ++ codesN cs
end
mutual
theorem szN_pos : ∀ nd : Nd, okN nd → 1 ≤ szN nd
  | .leaf _, _ => by simp only [szN]; omega
  | .run b t, h => by
    simp only [okN] at h
    have := szN_pos b h.1
    simp only [szN]
    exact Nat.mul_pos this (by omega)
  | .blk cs, h => by
    simp only [okN] at h
    have := szNs_pos cs h.2.2
    simp only [szN]
    omega
theorem szNs_pos : ∀ cs : List Nd, okNs cs → cs.length ≤ szNs cs
  | [], _ => by simp
  | c :: cs, h => by
    simp only [okNs] at h
    have := szN_pos c h.1
    have := szNs_pos cs h.2
    simp only [szNs, List.length_cons]
    omega
end
mutual
theorem codeN_len : ∀ nd : Nd, okN nd → (codeN nd).length ≤ (45 + 3 * dpN nd) * szN nd
  | .leaf e, h => by
    simp only [okN] at h
    have := el_len h
    simp only [codeN, szN, dpN]
    omega
  | .run b t, h => by
    simp only [okN] at h
    have h1 := codeN_len b h.1
    have h2 := szN_pos b h.1
    have h3 : (45 + 3 * dpN b) * szN b + 3 ≤ (45 + 3 * (dpN b + 1)) * szN b := by
      have : (45 + 3 * (dpN b + 1)) * szN b = (45 + 3 * dpN b) * szN b + 3 * szN b := by rw [← Nat.add_mul]; congr 1
      omega
    have h4 : (45 + 3 * (dpN b + 1)) * szN b ≤ (45 + 3 * (dpN b + 1)) * szN b * t := Nat.le_mul_of_pos_right _ (by omega)
    simp only [codeN, szN, dpN, List.length_cons, List.length_append, digs_len]
    rw [← Nat.mul_assoc]
    omega
  | .blk cs, h => by
    simp only [okN] at h
    have h1 := codesN_len cs h.2.2 (dpNs cs) (Nat.le_refl _)
    have h2 := szNs_pos cs h.2.2
    simp only [codeN, szN, dpN, List.length_cons]
    have : (45 + 3 * (dpNs cs + 1)) * szNs cs = (45 + 3 * dpNs cs) * szNs cs + 3 * szNs cs := by rw [← Nat.add_mul]; congr 1
    omega
theorem codesN_len : ∀ cs : List Nd, okNs cs → ∀ d, dpNs cs ≤ d → (codesN cs).length ≤ (45 + 3 * d) * szNs cs
  | [], _, d, _ => by simp [codesN]
  | c :: cs, h, d, hd => by
    simp only [okNs] at h
    simp only [dpNs] at hd
    have h1 := codeN_len c h.1
    have h2 := codesN_len cs h.2 d (by omega)
    have h3 : (45 + 3 * dpN c) * szN c ≤ (45 + 3 * d) * szN c := Nat.mul_le_mul_right _ (by omega)
    simp only [codesN, szNs, List.length_append, Nat.mul_add]
    omega
end
@[simp] theorem leaf_run : ((Str.ofString "leaf") = (Str.ofString "run")) ↔ False := by
  constructor
  · intro h; revert h; decide +kernel
  · exact False.elim
@[simp] theorem run_leaf : ((Str.ofString "run") = (Str.ofString "leaf")) ↔ False := by
  constructor
  · intro h; revert h; decide +kernel
  · exact False.elim
@[simp] theorem block_leaf : ((Str.ofString "block") = (Str.ofString "leaf")) ↔ False := by
  constructor
  · intro h; revert h; decide +kernel
  · exact False.elim
@[simp] theorem block_run : ((Str.ofString "block") = (Str.ofString "run")) ↔ False := by
  constructor
  · intro h; revert h; decide +kernel
  · exact False.elim
end Law
namespace Law
open PySem L2 ML
structure Cmp (d : Nat) (a : A) : Prop where
  cl : cleanA a = true
  fw : fewA a = true
  dp : depA a ≤ d
theorem Cmp.mono {d e : Nat} {a : A} (h : Cmp d a) (k : d ≤ e) : Cmp e a := ⟨h.cl, h.fw, Nat.le_trans h.dp k⟩
theorem cmps {d : Nat} : ∀ {xs : List A}, (∀ x ∈ xs, Cmp d x) → cleanAs xs = true ∧ fewAs xs = true ∧ depAs xs ≤ d
  | [], _ => ⟨rfl, rfl, by simp [depAs]⟩
  | x :: xs, h => by
    have h1 := h x (by simp)
    obtain ⟨a1, a2, a3⟩ := cmps (xs := xs) (d := d) fun y hy => h y (by simp [hy])
    simp only [cleanAs, fewAs, depAs, h1.cl, h1.fw, a1, a2, Bool.and_self, true_and]
    have := h1.dp
    omega
theorem Cmp.tup {d : Nat} {xs : List A} (h : ∀ x ∈ xs, Cmp d x) (hl : xs.length ≤ 1000000) : Cmp (d + 1) (.tup xs) := by
  obtain ⟨a1, a2, a3⟩ := cmps h
  refine ⟨a1, ?_, ?_⟩
  · simp only [fewA, a2, Bool.and_true]
    simp
    omega
  · simp only [depA]
    omega
theorem intsOf_map : ∀ ns : List Int, intsOf (ns.map A.int) = some ns
  | [] => rfl
  | n :: ns => by simp only [List.map_cons, intsOf, intsOf_map ns, Option.map_some]
theorem w_sumI {r : Nat} {ns : List Int} {st : Store} {Q : A → Store → Prop} (hr : stL st r = some (ns.map A.int)) (k : Q (.int ns.sum) st) : (sumA [.ref r] st).wp Q := by
  rw [w_sumL]
  exact ⟨_, hr, ns, intsOf_map ns, k⟩
end Law
namespace Law
open PySem L2 ML
def com : List Int → List Int → Prop
  | [], _ => True
  | _, [] => True
  | x :: xs, y :: ys => x = y ∧ com xs ys
theorem com_nil (l : List Int) : com l [] := by cases l <;> trivial
theorem com_app : ∀ {a b u v : List Int}, a.length = b.length → com (a ++ u) (b ++ v) → a = b ∧ com u v
  | [], [], u, v, _, h => ⟨rfl, h⟩
  | x :: xs, y :: ys, u, v, hl, h => by
    obtain ⟨h1, h2⟩ := h
    obtain ⟨h3, h4⟩ := com_app (a := xs) (b := ys) (by simpa using hl) h2
    exact ⟨by rw [h1, h3], h4⟩
theorem digs_inj {n m : Nat} (hn : n < 18446744073709551616) (hm : m < 18446744073709551616) (h : digs n 4 = digs m 4) : n = m := by
  rw [digs4, digs4] at h
  simp only [List.cons.injEq, Int.natCast_inj, and_true] at h
  omega
theorem str_inj {x y : Str} (h : (x.cps.toList.map fun (c : Nat) => (c : Int)) = y.cps.toList.map fun (c : Nat) => (c : Int)) : x = y := by
  have h2 : x.cps.toList = y.cps.toList := (List.map_inj_right (fun a b e => Int.ofNat_inj.mp e)).mp h
  cases x with
  | mk xc =>
    cases y with
    | mk yc =>
      simp only [Str.mk.injEq]
      exact Array.toList_inj.mp h2
theorem sca_com {x y : A} (hx : Sca x) (hy : Sca y) {u v : List Int} (h : com (scaCode x ++ u) (scaCode y ++ v)) : x = y ∧ com u v := by
  rcases hx with ⟨x, rfl, hx⟩ | ⟨i, rfl, h1, h2⟩
  · rcases hy with ⟨y, rfl, hy⟩ | ⟨j, rfl, h3, h4⟩
    · simp only [scaCode, List.cons_append] at h
      obtain ⟨_, h1, h2⟩ := h
      have hl : x.cps.size = y.cps.size := by
        have : (x.length : Int) = (y.length : Int) := h1
        simp only [Str.length] at this
        omega
      obtain ⟨h3, h4⟩ := com_app (by simp [hl]) h2
      exact ⟨by rw [str_inj h3], h4⟩
    · simp only [scaCode, List.cons_append] at h
      obtain ⟨h0, _⟩ := h
      split at h0 <;> omega
  · rcases hy with ⟨y, rfl, hy⟩ | ⟨j, rfl, h3, h4⟩
    · simp only [scaCode, List.cons_append] at h
      obtain ⟨h0, _⟩ := h
      split at h0 <;> omega
    · simp only [scaCode, List.cons_append] at h
      obtain ⟨h0, h5⟩ := h
      obtain ⟨h6, h7⟩ := com_app (by rw [digs_len, digs_len]) h5
      have h8 := digs_inj (by omega) (by omega) h6
      refine ⟨?_, h7⟩
      have : i = j := by
        split at h0 <;> split at h0 <;> omega
      rw [this]
theorem sca_tag {x : A} (h : Sca x) : ∃ t r, scaCode x = t :: r ∧ (t = 1 ∨ t = 2 ∨ t = 3) ∧ 1 ≤ r.length := by
  rcases h with ⟨x, rfl, hx⟩ | ⟨i, rfl, h1, h2⟩
  · exact ⟨3, _, rfl, by omega, by simp⟩
  · exact ⟨_, _, rfl, by split <;> omega, by rw [digs_len]; omega⟩
theorem el_com {a b : A} (ha : El a) (hb : El b) {u v : List Int} (h : com (elCode a ++ u) (elCode b ++ v)) : a = b ∧ com u v := by
  rcases ha with ha | ⟨x, y, rfl, hx, hy⟩
  · rcases hb with hb | ⟨x', y', rfl, hx', hy'⟩
    · rw [sca_el ha, sca_el hb] at h
      exact sca_com ha hb h
    · rw [sca_el ha] at h
      obtain ⟨t, r, e, ht, _⟩ := sca_tag ha
      rw [e] at h
      simp only [elCode, List.cons_append] at h
      obtain ⟨h0, _⟩ := h
      omega
  · rcases hb with hb | ⟨x', y', rfl, hx', hy'⟩
    · rw [sca_el hb] at h
      obtain ⟨t, r, e, ht, _⟩ := sca_tag hb
      rw [e] at h
      simp only [elCode, List.cons_append] at h
      obtain ⟨h0, _⟩ := h
      omega
    · simp only [elCode, List.cons_append, List.append_assoc] at h
      obtain ⟨_, h⟩ := h
      obtain ⟨e1, h⟩ := sca_com hx hx' h
      obtain ⟨e2, h⟩ := sca_com hy hy' h
      exact ⟨by rw [e1, e2], h⟩
def Small (l : List Int) : Prop := ∀ z ∈ l, 0 ≤ z ∧ z ≤ 65535
theorem small_app {l m : List Int} (h : Small l) (k : Small m) : Small (l ++ m) := fun z hz => by
  rcases List.mem_append.mp hz with q | q
  · exact h z q
  · exact k z q
theorem small_cons {x : Int} {l : List Int} (h : 0 ≤ x ∧ x ≤ 65535) (k : Small l) : Small (x :: l) := fun z hz => by
  rcases List.mem_cons.mp hz with rfl | q
  · exact h
  · exact k z q
theorem small_digs (n i : Nat) : Small (digs n i) := fun z hz => by
  have := digs_lt n i z hz
  omega
theorem small_sca {x : A} (h : Sca x) : Small (scaCode x) := by
  rcases h with ⟨x, rfl, hx⟩ | ⟨i, rfl, h1, h2⟩
  · have := hx.len
    refine small_cons (by omega) (small_cons (by omega) fun z hz => ?_)
    obtain ⟨c, hc, rfl⟩ := List.mem_map.mp hz
    have := hx.ch c hc
    omega
  · exact small_cons (by split <;> omega) (small_digs _ _)
theorem small_el {x : A} (h : El x) : Small (elCode x) := by
  rcases h with h | ⟨x, y, rfl, hx, hy⟩
  · rw [sca_el h]
    exact small_sca h
  · exact small_cons (by omega) (small_app (small_sca hx) (small_sca hy))
theorem el_tag {x : A} (h : El x) : ∃ t r, elCode x = t :: r ∧ 1 ≤ t ∧ t ≤ 4 ∧ 1 ≤ r.length := by
  rcases h with h | ⟨x, y, rfl, hx, hy⟩
  · rw [sca_el h]
    obtain ⟨t, r, e, ht, hr⟩ := sca_tag h
    exact ⟨t, r, e, by omega, by omega, hr⟩
  · obtain ⟨t, r, e, ht, hr⟩ := sca_tag hx
    exact ⟨4, _, rfl, by omega, by omega, by rw [e]; simp⟩
end Law
namespace Law
open PySem L2 ML
def isPk (cs : List Int) (j : Nat) : Prop := cs.getD (j - 1) 0 < cs.getD j 0 ∧ cs.getD (j + 1) 0 < cs.getD j 0
instance (cs : List Int) (j : Nat) : Decidable (isPk cs j) := by unfold isPk; infer_instance
def pks (cs : List Int) (m : Nat) : List Nat := ((List.range m).filter fun t => decide (isPk cs (t + 2))).map (· + 2)
def startsL (cs : List Int) : List Nat := if cs = [] then [] else 0 :: pks cs (cs.length - 3)
end Law
namespace Law
open PySem L2 ML
theorem small_codes : (∀ nd : Nd, okN nd → Small (codeN nd)) ∧ True := by
  refine ⟨fun nd h => ?_, trivial⟩
  refine Nd.rec (motive_1 := fun nd => okN nd → Small (codeN nd)) (motive_2 := fun cs => okNs cs → Small (codesN cs)) ?_ ?_ ?_ ?_ ?_ nd h
  · intro e h
    simp only [okN] at h
    simpa only [codeN] using small_el h
  · intro b t ih h
    simp only [okN] at h
    simp only [codeN]
    exact small_cons (by omega) (small_app (small_digs _ _) (ih h.1))
  · intro cs ih h
    simp only [okN] at h
    simp only [codeN]
    exact small_cons (by omega) (small_cons (by omega) (ih h.2.2))
  · intro _ z hz
    simp [codesN] at hz
  · intro c cs h1 h2 h
    simp only [okNs] at h
    simp only [codesN]
    exact small_app (h1 h.1) (h2 h.2)
theorem nd_tag {nd : Nd} (h : okN nd) : ∃ t r, codeN nd = t :: r ∧ 1 ≤ t ∧ t ≤ 6 ∧ 1 ≤ r.length := by
  cases nd with
  | leaf e =>
    simp only [okN] at h
    obtain ⟨t, r, e1, a, b, c⟩ := el_tag h
    exact ⟨t, r, by simpa only [codeN] using e1, a, by omega, c⟩
  | run b t => exact ⟨5, _, by simp only [codeN]; rfl, by omega, by omega, by simp [digs_len]; omega⟩
  | blk cs => exact ⟨6, _, by simp only [codeN]; rfl, by omega, by omega, by simp⟩
mutual
theorem nd_com : ∀ (a b : Nd), okN a → okN b → ∀ u v, com (codeN a ++ u) (codeN b ++ v) → a = b ∧ com u v
  | .leaf e, .leaf e', ha, hb, u, v, h => by
    simp only [okN] at ha hb
    simp only [codeN] at h
    obtain ⟨h1, h2⟩ := el_com ha hb h
    exact ⟨by rw [h1], h2⟩
  | .leaf e, .run b t, ha, hb, u, v, h => by
    simp only [okN] at ha
    obtain ⟨t, r, e1, a1, a2, a3⟩ := el_tag ha
    simp only [codeN, e1, List.cons_append] at h
    have := h.1
    omega
  | .leaf e, .blk cs, ha, hb, u, v, h => by
    simp only [okN] at ha
    obtain ⟨t, r, e1, a1, a2, a3⟩ := el_tag ha
    simp only [codeN, e1, List.cons_append] at h
    have := h.1
    omega
  | .run b t, .leaf e, ha, hb, u, v, h => by
    simp only [okN] at hb
    obtain ⟨t, r, e1, a1, a2, a3⟩ := el_tag hb
    simp only [codeN, e1, List.cons_append] at h
    have := h.1
    omega
  | .run b t, .run b' t', ha, hb, u, v, h => by
    simp only [okN] at ha hb
    simp only [codeN, List.cons_append, List.append_assoc] at h
    obtain ⟨h1, h2⟩ := com_app (by rw [digs_len, digs_len]) h.2
    obtain ⟨h3, h4⟩ := nd_com b b' ha.1 hb.1 u v h2
    have ht : t = t' := by
      simp only [digs, List.cons.injEq, Int.natCast_inj, and_true] at h1
      omega
    exact ⟨by rw [h3, ht], h4⟩
  | .run b t, .blk cs, ha, hb, u, v, h => by
    simp only [codeN, List.cons_append] at h
    have := h.1
    omega
  | .blk cs, .leaf e, ha, hb, u, v, h => by
    simp only [okN] at hb
    obtain ⟨t, r, e1, a1, a2, a3⟩ := el_tag hb
    simp only [codeN, e1, List.cons_append] at h
    have := h.1
    omega
  | .blk cs, .run b t, ha, hb, u, v, h => by
    simp only [codeN, List.cons_append] at h
    have := h.1
    omega
  | .blk cs, .blk ds, ha, hb, u, v, h => by
    simp only [okN] at ha hb
    simp only [codeN, List.cons_append] at h
    obtain ⟨_, h1, h2⟩ := h
    obtain ⟨h3, h4⟩ := nds_com cs ds (by omega) ha.2.2 hb.2.2 u v h2
    exact ⟨by rw [h3], h4⟩
theorem nds_com : ∀ (as bs : List Nd), as.length = bs.length → okNs as → okNs bs → ∀ u v, com (codesN as ++ u) (codesN bs ++ v) → as = bs ∧ com u v
  | [], [], _, _, _, u, v, h => ⟨rfl, h⟩
  | [], _ :: _, hl, _, _, u, v, h => by simp at hl
  | _ :: _, [], hl, _, _, u, v, h => by simp at hl
  | a :: as, b :: bs, hl, ha, hb, u, v, h => by
    simp only [okNs] at ha hb
    simp only [codesN, List.append_assoc] at h
    obtain ⟨h1, h2⟩ := nd_com a b ha.1 hb.1 _ _ h
    obtain ⟨h3, h4⟩ := nds_com as bs (by simpa using hl) ha.2 hb.2 u v h2
    exact ⟨by rw [h1, h3], h4⟩
end
structure It1 (nd : Nd) : Prop where
  ok : okN nd
  sz : szN nd ≤ 2000
  dp : dpN nd ≤ 28
theorem It1.len {nd : Nd} (h : It1 nd) : (codeN nd).length ≤ 300000 := by
  have := codeN_len nd h.ok
  have h1 := h.sz
  have h2 := h.dp
  have h3 : (45 + 3 * dpN nd) * szN nd ≤ 129 * 2000 := Nat.mul_le_mul (by omega) h1
  omega
structure Row (xs : List Nd) : Prop where
  it : ∀ c ∈ xs, It1 c
  ap : ∀ (i : Nat) a b, xs[i]? = some a → xs[i + 1]? = some b → a ≠ b
@[simp] theorem w_iadd {i j : Int} {st : Store} {Q : A → Store → Prop} : (iaddA (.int i) (.int j) st).wp Q ↔ Q (.int (i + j)) st := Iff.rfl
def fd : List Int → List Int → Nat
  | x :: xs, y :: ys => if x = y then fd xs ys + 1 else 0
  | _, _ => 0
theorem fd_nil (m : List Int) : fd [] m = 0 := by cases m <;> rfl
theorem fd_at : ∀ {l m : List Int}, ¬ com l m → ∃ x y, l[fd l m]? = some x ∧ m[fd l m]? = some y ∧ x ≠ y
  | [], m, h => absurd (by cases m <;> trivial) h
  | x :: xs, [], h => absurd (com_nil _) h
  | x :: xs, y :: ys, h => by
    by_cases e : x = y
    · have h2 : ¬ com xs ys := fun z => h ⟨e, z⟩
      obtain ⟨a, b, h3, h4, h5⟩ := fd_at h2
      refine ⟨a, b, ?_, ?_, h5⟩
      · simp only [fd, if_pos e]
        simpa using h3
      · simp only [fd, if_pos e]
        simpa using h4
    · exact ⟨x, y, by simp only [fd, if_neg e]; rfl, by simp only [fd, if_neg e]; rfl, e⟩
def coinV (b c : List Int) : Int := 65536 * (fd b c : Nat) + c.getD (fd b c) 0
def Bef (b c : List Int) : Prop := b = [] ∨ ¬ com b c
theorem bef_in {b c : List Int} (h : Bef b c) (hc : c ≠ []) : fd b c < c.length := by
  rcases h with rfl | h
  · rw [fd_nil]
    exact List.length_pos_iff.mpr hc
  · obtain ⟨x, y, _, h2, _⟩ := fd_at h
    exact (List.getElem?_eq_some_iff.mp h2).1
def bef (xs : List Nd) : Nat → List Int
  | 0 => []
  | i + 1 => (xs[i]?.map codeN).getD []
def cod (xs : List Nd) (i : Nat) : List Int := (xs[i]?.map codeN).getD []
theorem cod_some {xs : List Nd} {i : Nat} {c : Nd} (h : xs[i]? = some c) : cod xs i = codeN c := by simp [cod, h]
theorem nd_ne {nd : Nd} (h : okN nd) : codeN nd ≠ [] := by
  obtain ⟨t, r, e, _⟩ := nd_tag h
  rw [e]
  simp
theorem row_bef {xs : List Nd} (h : Row xs) {i : Nat} {c : Nd} (hi : xs[i]? = some c) : Bef (bef xs i) (codeN c) := by
  cases i with
  | zero => exact .inl rfl
  | succ i =>
    have hlt := (List.getElem?_eq_some_iff.mp hi).1
    have e : xs[i]? = some xs[i] := List.getElem?_eq_getElem (by omega)
    refine .inr ?_
    simp only [bef, e, Option.map_some, Option.getD_some]
    intro z
    have := (nd_com xs[i] c (h.it _ (List.getElem_mem _)).ok (h.it _ (List.mem_of_getElem? hi)).ok [] [] (by simpa using z)).1
    exact h.ap i _ _ e hi this
theorem coins_ne {xs : List Nd} (h : Row xs) {i : Nat} (hi : i + 1 < xs.length) : coinV (bef xs i) (cod xs i) ≠ coinV (bef xs (i + 1)) (cod xs (i + 1)) := by
  have e0 : xs[i]? = some xs[i] := List.getElem?_eq_getElem (by omega)
  have e1 : xs[i + 1]? = some xs[i + 1] := List.getElem?_eq_getElem hi
  have i0 := h.it _ (List.getElem_mem (show i < xs.length by omega))
  have i1 := h.it _ (List.getElem_mem hi)
  have b0 := row_bef h e0
  have b1 := row_bef h e1
  rw [cod_some e0, cod_some e1]
  have eb : bef xs (i + 1) = codeN xs[i] := by simp [bef, e0]
  rw [eb] at b1 ⊢
  have hn : ¬ com (codeN xs[i]) (codeN xs[i + 1]) := by
    rcases b1 with z | z
    · exact absurd z (nd_ne i0.ok)
    · exact z
  obtain ⟨x, y, f1, f2, f3⟩ := fd_at hn
  have p0 := bef_in b0 (nd_ne i0.ok)
  generalize fd (bef xs i) (codeN xs[i]) = p at *
  have s0 := small_codes.1 _ i0.ok
  have s1 := small_codes.1 _ i1.ok
  have g0 : (codeN xs[i])[fd (bef xs i) (codeN xs[i])]? = (codeN xs[i])[fd (bef xs i) (codeN xs[i])]? := rfl
  intro z
  unfold coinV at z
  have hq := bef_in b0 (nd_ne i0.ok)
  have u1 : ∃ u, (codeN xs[i]).getD (fd (bef xs i) (codeN xs[i])) 0 = u ∧ 0 ≤ u ∧ u ≤ 65535 := ⟨_, rfl, by
    rw [List.getD_eq_getElem?_getD, List.getElem?_eq_getElem hq]
    exact s0 _ (List.getElem_mem hq)⟩
  have u2 : (codeN xs[i + 1]).getD (fd (codeN xs[i]) (codeN xs[i + 1])) 0 = y := by rw [List.getD_eq_getElem?_getD, f2]; rfl
  have u3 := s1 y (List.mem_of_getElem? f2)
  obtain ⟨u, hu, hu1, hu2⟩ := u1
  rw [hu, u2] at z
  have hp : fd (bef xs i) (codeN xs[i]) = fd (codeN xs[i]) (codeN xs[i + 1]) := by omega
  have hy : u = y := by omega
  rw [hp, List.getD_eq_getElem?_getD, f1] at hu
  exact f3 (by simpa [hy] using hu)
end Law
namespace Law
open PySem L2 ML
theorem xor_parts (a b : Nat) : a ^^^ b = 2 * ((a / 2) ^^^ (b / 2)) + (if a % 2 = b % 2 then 0 else 1) := by
  refine Nat.eq_of_testBit_eq fun i => ?_
  cases i with
  | zero =>
    rw [Nat.testBit_xor, Nat.testBit_zero, Nat.testBit_zero, Nat.testBit_zero]
    rcases Nat.mod_two_eq_zero_or_one a with h | h <;> rcases Nat.mod_two_eq_zero_or_one b with h' | h' <;> simp [h, h']
  | succ i =>
    rw [Nat.testBit_xor, Nat.testBit_succ, Nat.testBit_succ, Nat.testBit_succ]
    have h3 : (2 * ((a / 2) ^^^ (b / 2)) + (if a % 2 = b % 2 then 0 else 1)) / 2 = (a / 2) ^^^ (b / 2) := by split <;> omega
    rw [h3, Nat.testBit_xor]
structure Low (a b p : Nat) : Prop where
  below : a % 2 ^ p = b % 2 ^ p
  at_ : a / 2 ^ p % 2 ≠ b / 2 ^ p % 2
  xor : ∃ k, a ^^^ b = 2 ^ p * (2 * k + 1)
theorem low_ex : ∀ (f a b : Nat), a < 2 ^ f → b < 2 ^ f → a ≠ b → ∃ p, p < f ∧ Low a b p
  | 0, a, b, ha, hb, h => by simp at ha hb; omega
  | f + 1, a, b, ha, hb, h => by
    have hx := xor_parts a b
    by_cases c : a % 2 = b % 2
    · rw [Nat.pow_succ] at ha hb
      obtain ⟨p, hp, l⟩ := low_ex f (a / 2) (b / 2) (by omega) (by omega) (by omega)
      refine ⟨p + 1, by omega, ?_, ?_, ?_⟩
      · have := l.below
        rw [Nat.pow_succ, Nat.mul_comm, Nat.mod_mul, Nat.mod_mul, this, c]
      · have := l.at_
        rw [Nat.pow_succ, Nat.mul_comm, ← Nat.div_div_eq_div_mul, ← Nat.div_div_eq_div_mul]
        exact this
      · obtain ⟨k, hk⟩ := l.xor
        refine ⟨k, ?_⟩
        rw [hx, if_pos c, hk, Nat.pow_succ]
        simp only [Nat.add_zero]
        ac_rfl
    · refine ⟨0, by omega, by simp [Nat.mod_one], by simpa using c, (a / 2) ^^^ (b / 2), ?_⟩
      rw [hx, if_neg c]
      simp
theorem low_one {a b p q : Nat} (h : Low a b p) (k : Low a b q) : p = q := by
  have key : ∀ {p q}, Low a b p → Low a b q → ¬ p < q := fun {p q} h k l => by
    apply h.at_
    have hb := k.below
    have e : ∀ x : Nat, x % 2 ^ q / 2 ^ p % 2 = x / 2 ^ p % 2 := fun x => by
      have h2 : 2 ^ q = 2 ^ p * (2 * 2 ^ (q - p - 1)) := by
        rw [← Nat.pow_succ', ← Nat.pow_add]
        congr 1
        omega
      rw [h2, Nat.mod_mul_right_div_self, Nat.mod_mul_right_mod]
    rw [← e a, ← e b, hb]
  rcases Nat.lt_trichotomy p q with l | l | l
  · exact absurd l (key h k)
  · exact l
  · exact absurd l (key k h)
def mixV (b p : Nat) : Int := 2 * (p : Int) + ((b / 2 ^ p % 2 : Nat) : Int)
theorem mixV_ne {a b c p q : Nat} (l : Low a b p) (k : Low b c q) : mixV b p ≠ mixV c q := fun h => by
  unfold mixV at h
  have h1 : b / 2 ^ p % 2 < 2 := Nat.mod_lt _ (by decide)
  have h2 : c / 2 ^ q % 2 < 2 := Nat.mod_lt _ (by decide)
  have e : p = q := by omega
  subst e
  exact k.at_ (by omega)
open Classical in
noncomputable def lowP (a b : Nat) : Nat := if h : ∃ p, Low a b p then h.choose else 0
noncomputable def mixN (a b : Nat) : Nat := 2 * lowP a b + b / 2 ^ lowP a b % 2
theorem low_of {a b : Nat} (h : a ≠ b) : Low a b (lowP a b) := by
  obtain ⟨p, _, l⟩ := low_ex (a + b) a b (Nat.lt_of_lt_of_le Nat.lt_two_pow_self (Nat.pow_le_pow_right (by decide) (Nat.le_add_right a b))) (Nat.lt_of_lt_of_le Nat.lt_two_pow_self (Nat.pow_le_pow_right (by decide) (Nat.le_add_left b a))) h
  have hx : ∃ p, Low a b p := ⟨p, l⟩
  unfold lowP
  rw [dif_pos hx]
  exact hx.choose_spec
theorem mixV_N {a b : Nat} : mixV b (lowP a b) = ((mixN a b : Nat) : Int) := by
  unfold mixV mixN
  omega
theorem mixN_lt {a b f : Nat} (h : a ≠ b) (ha : a < 2 ^ f) (hb : b < 2 ^ f) : mixN a b < 2 * f := by
  obtain ⟨p, hp, l⟩ := low_ex f a b ha hb h
  have e := low_one l (low_of h)
  subst e
  unfold mixN
  have := Nat.mod_lt (b / 2 ^ lowP a b) (show 0 < 2 by decide)
  omega
theorem mixN_ne {a b c : Nat} (h : a ≠ b) (k : b ≠ c) : mixN a b ≠ mixN b c := fun e => by
  apply mixV_ne (low_of h) (low_of k)
  rw [mixV_N, mixV_N, e]
theorem mixN_first {a b : Nat} (h : a ≠ b) : a % 2 ≠ mixN a b := fun e => by
  have l := low_of h
  unfold mixN at e
  have h1 := Nat.mod_lt a (show 0 < 2 by decide)
  have h2 := Nat.mod_lt (b / 2 ^ lowP a b) (show 0 < 2 by decide)
  have z : lowP a b = 0 := by omega
  rw [z] at l e
  have := l.at_
  simp at this e
  omega
def Apart (ns : List Nat) : Prop := ∀ i, i + 1 < ns.length → ns.getD i 0 ≠ ns.getD (i + 1) 0
noncomputable def roundL (ns : List Nat) : List Nat := (ns.take 1).map (· % 2) ++ (List.range (ns.length - 1)).map fun i => mixN (ns.getD i 0) (ns.getD (i + 1) 0)
theorem round_len (ns : List Nat) : (roundL ns).length = ns.length := by
  unfold roundL
  cases ns <;> simp
theorem round_zero {ns : List Nat} (h : 0 < ns.length) : (roundL ns).getD 0 0 = ns.getD 0 0 % 2 := by
  cases ns with
  | nil => simp at h
  | cons x r => simp [roundL]
theorem round_succ {ns : List Nat} {i : Nat} (h : i + 1 < ns.length) : (roundL ns).getD (i + 1) 0 = mixN (ns.getD i 0) (ns.getD (i + 1) 0) := by
  cases ns with
  | nil => simp at h
  | cons x r =>
    simp only [List.length_cons] at h
    have hi : i < r.length := by omega
    simp [roundL, List.getElem?_append, hi]
theorem round_apart {ns : List Nat} (h : Apart ns) : Apart (roundL ns) := fun i hi => by
  rw [round_len] at hi
  rw [round_succ hi]
  cases i with
  | zero =>
    rw [round_zero (by omega)]
    exact mixN_first (h 0 hi)
  | succ i =>
    rw [round_succ (by omega)]
    exact mixN_ne (h i (by omega)) (h (i + 1) hi)
theorem round_lt {ns : List Nat} {f : Nat} (hf : 1 ≤ f) (h : Apart ns) (hl : ∀ i, i < ns.length → ns.getD i 0 < 2 ^ f) : ∀ i, i < (roundL ns).length → (roundL ns).getD i 0 < 2 * f := fun i hi => by
  rw [round_len] at hi
  cases i with
  | zero =>
    rw [round_zero hi]
    have := Nat.mod_lt (ns.getD 0 0) (show 0 < 2 by decide)
    omega
  | succ i =>
    rw [round_succ hi]
    exact mixN_lt (h i hi) (hl i (by omega)) (hl (i + 1) hi)
end Law
namespace Law
open PySem L2 ML
theorem coin_in {xs : List Nd} (h : Row xs) {i : Nat} (hi : i < xs.length) : 0 ≤ coinV (bef xs i) (cod xs i) ∧ coinV (bef xs i) (cod xs i) < 34359738368 := by
  have e0 : xs[i]? = some xs[i] := List.getElem?_eq_getElem hi
  have i0 := h.it _ (List.getElem_mem hi)
  rw [cod_some e0]
  have hq := bef_in (row_bef h e0) (nd_ne i0.ok)
  have hs := small_codes.1 _ i0.ok _ (List.getElem_mem hq)
  have hl := i0.len
  unfold coinV
  rw [List.getD_eq_getElem?_getD, List.getElem?_eq_getElem hq]
  simp only [Option.getD_some]
  omega
def coinsT (xs : List Nd) : List Nat := (List.range xs.length).map fun i => (coinV (bef xs i) (cod xs i)).toNat
theorem coinsT_len (xs : List Nd) : (coinsT xs).length = xs.length := by simp [coinsT]
theorem coinsT_get {xs : List Nd} {i : Nat} (h : i < xs.length) : (coinsT xs).getD i 0 = (coinV (bef xs i) (cod xs i)).toNat := by
  rw [List.getD_eq_getElem?_getD]
  simp [coinsT, h]
theorem coinsT_apart {xs : List Nd} (h : Row xs) : Apart (coinsT xs) := fun i hi => by
  rw [coinsT_len] at hi
  rw [coinsT_get (by omega), coinsT_get hi]
  have a := (coin_in h (show i < xs.length by omega)).1
  have b := (coin_in h hi).1
  have c := coins_ne h hi
  omega
theorem coinsT_lt {xs : List Nd} (h : Row xs) : ∀ j, j < (coinsT xs).length → (coinsT xs).getD j 0 < 2 ^ 35 := fun j hj => by
  rw [coinsT_len] at hj
  rw [coinsT_get hj]
  have := coin_in h hj
  omega
noncomputable def rnd (ns : List Nat) : Nat → List Nat
  | 0 => ns
  | i + 1 => roundL (rnd ns i)
theorem rnd_len (ns : List Nat) : ∀ i, (rnd ns i).length = ns.length
  | 0 => rfl
  | i + 1 => by rw [rnd, round_len, rnd_len ns i]
theorem rnd_apart {ns : List Nat} (h : Apart ns) : ∀ i, Apart (rnd ns i)
  | 0 => h
  | i + 1 => round_apart (rnd_apart h i)
noncomputable def colN (xs : List Nd) : List Nat := rnd (coinsT xs) 4
theorem col_len (xs : List Nd) : (colN xs).length = xs.length := by rw [colN, rnd_len, coinsT_len]
theorem col_lt {xs : List Nd} (h : Row xs) : ∀ j, j < (colN xs).length → (colN xs).getD j 0 < 6 := by
  have a0 := coinsT_apart h
  have b1 := round_lt (f := 35) (by decide) a0 (coinsT_lt h)
  have a1 := round_apart a0
  have b2 := round_lt (f := 7) (by decide) a1 fun j hj => Nat.lt_of_lt_of_le (b1 j hj) (by decide)
  have a2 := round_apart a1
  have b3 := round_lt (f := 4) (by decide) a2 fun j hj => Nat.lt_of_lt_of_le (b2 j hj) (by decide)
  have a3 := round_apart a2
  have b4 := round_lt (f := 3) (by decide) a3 fun j hj => Nat.lt_of_lt_of_le (b3 j hj) (by decide)
  exact b4
theorem col_apart {xs : List Nd} (h : Row xs) : Apart (colN xs) := rnd_apart (coinsT_apart h) 4
end Law
namespace Law
open PySem L2 ML
def cpd : Nd → Nd
  | .run b _ => b
  | .leaf e => .leaf e
  | .blk cs => .blk cs
def cps : Nd → Nat
  | .run _ t => t
  | _ => 1
def Gd (m : Nat) (c : Nd) : Prop := ∃ n : Int, 0 ≤ n ∧ n < 1000000 ∧ (c = .leaf (.int n) ∨ ∃ t, 2 ≤ t ∧ t ≤ m + 1 ∧ c = .run (.leaf (.int n)) t)
theorem Gd.mono {m k : Nat} {c : Nd} (h : Gd m c) (hk : m ≤ k) : Gd k c := by
  obtain ⟨n, h0, h1, h2⟩ := h
  refine ⟨n, h0, h1, ?_⟩
  rcases h2 with rfl | ⟨t, t1, t2, rfl⟩
  · exact .inl rfl
  · exact .inr ⟨t, t1, by omega, rfl⟩
theorem el_int {n : Int} (h0 : 0 ≤ n) (h1 : n < 1000000) : El (.int n) := .inl (.inr ⟨n, rfl, by omega, by omega⟩)
theorem Gd.it {m : Nat} {c : Nd} (h : Gd m c) (hm : m ≤ 300) : It1 c := by
  obtain ⟨n, h0, h1, h2⟩ := h
  have he := el_int h0 h1
  rcases h2 with rfl | ⟨t, t1, t2, rfl⟩
  · exact ⟨by simpa only [okN] using he, by simp only [szN]; omega, by simp only [dpN]; omega⟩
  · exact ⟨by simp only [okN]; exact ⟨he, t1, by omega⟩, by simp only [szN]; omega, by simp only [dpN]; omega⟩
structure GRow (m : Nat) (xs : List Nd) : Prop where
  gd : ∀ c ∈ xs, Gd m c
  ap : ∀ (i : Nat) a b, xs[i]? = some a → xs[i + 1]? = some b → cpd a ≠ cpd b
theorem GRow.row {m : Nat} {xs : List Nd} (h : GRow m xs) (hm : m ≤ 300) : Row xs := ⟨fun c hc => (h.gd c hc).it hm, fun i a b h1 h2 e => h.ap i a b h1 h2 (by rw [e])⟩
end Law
namespace Law
open PySem L2 ML
theorem rnd_loc : ∀ (n : Nat) (ns ms : List Nat) (i k : Nat), (∀ t, t ≤ n → ns.getD (i - t) 0 = ms.getD (k - t) 0) → n ≤ i → n ≤ k → i < ns.length → k < ms.length → (rnd ns n).getD i 0 = (rnd ms n).getD k 0
  | 0, ns, ms, i, k, h, _, _, _, _ => h 0 (by omega)
  | n + 1, ns, ms, i, k, h, hi, hk, hn, hm => by
    obtain ⟨i', rfl⟩ : ∃ i', i = i' + 1 := ⟨i - 1, by omega⟩
    obtain ⟨k', rfl⟩ : ∃ k', k = k' + 1 := ⟨k - 1, by omega⟩
    have a := rnd_loc n ns ms (i' + 1) (k' + 1) (fun t ht => h t (by omega)) (by omega) (by omega) hn hm
    have b := rnd_loc n ns ms i' k' (fun t ht => by
      have := h (t + 1) (by omega)
      rwa [show i' + 1 - (t + 1) = i' - t by omega, show k' + 1 - (t + 1) = k' - t by omega] at this) (by omega) (by omega) (by omega) (by omega)
    show (roundL (rnd ns n)).getD (i' + 1) 0 = (roundL (rnd ms n)).getD (k' + 1) 0
    rw [round_succ (by rw [rnd_len]; exact hn), round_succ (by rw [rnd_len]; exact hm), a, b]
theorem coin_loc {xs ys : List Nd} {i k : Nat} (hi : 1 ≤ i) (hk : 1 ≤ k) (h0 : xs[i]? = ys[k]?) (h1 : xs[i - 1]? = ys[k - 1]?) : coinV (bef xs i) (cod xs i) = coinV (bef ys k) (cod ys k) := by
  obtain ⟨i', rfl⟩ : ∃ i', i = i' + 1 := ⟨i - 1, by omega⟩
  obtain ⟨k', rfl⟩ : ∃ k', k = k' + 1 := ⟨k - 1, by omega⟩
  simp only [Nat.add_sub_cancel] at h1
  simp only [bef, cod, h0, h1]
theorem col_loc {xs ys : List Nd} {i k : Nat} (hi : 5 ≤ i) (hk : 5 ≤ k) (hx : i < xs.length) (hy : k < ys.length) (h : ∀ t, t ≤ 5 → xs[i - t]? = ys[k - t]?) : (colN xs).getD i 0 = (colN ys).getD k 0 := by
  refine rnd_loc 4 _ _ i k (fun t ht => ?_) (by omega) (by omega) (by rw [coinsT_len]; exact hx) (by rw [coinsT_len]; exact hy)
  rw [coinsT_get (by omega), coinsT_get (by omega)]
  have := coin_loc (xs := xs) (ys := ys) (i := i - t) (k := k - t) (by omega) (by omega) (h t (by omega)) (by
    have := h (t + 1) (by omega)
    rwa [show i - (t + 1) = i - t - 1 by omega, show k - (t + 1) = k - t - 1 by omega] at this)
  rw [this]
end Law
namespace Law
open PySem L2 ML
section
variable {c : Nat → Int} {a b : Nat}
theorem rises (hd : ∀ j, a ≤ j → j < b → c j ≠ c (j + 1)) (hp : ∀ j, a < j → j < b → ¬ (c (j - 1) < c j ∧ c (j + 1) < c j)) {j : Nat} (hj : a ≤ j) (hu : c j < c (j + 1)) :
    ∀ k, j + 1 + k ≤ b → c j + 1 + k ≤ c (j + 1 + k) ∧ c (j + k) < c (j + 1 + k)
  | 0, _ => ⟨by simp; omega, by simpa using hu⟩
  | k + 1, h => by
    obtain ⟨h1, h2⟩ := rises hd hp hj hu k (by omega)
    have h3 := hp (j + 1 + k) (by omega) (by omega)
    have h4 := hd (j + 1 + k) (by omega) (by omega)
    have e : j + 1 + k - 1 = j + k := by omega
    rw [e] at h3
    have e2 : j + 1 + (k + 1) = j + 1 + k + 1 := by omega
    have e3 : j + (k + 1) = j + 1 + k := by omega
    rw [e2, e3]
    have : c (j + 1 + k) < c (j + 1 + k + 1) := by
      by_cases q : c (j + 1 + k + 1) < c (j + 1 + k)
      · exact absurd ⟨h2, q⟩ h3
      · omega
    exact ⟨by push_cast; omega, this⟩
theorem stretch (hab : a ≤ b) (h0 : ∀ j, a ≤ j → j ≤ b → 0 ≤ c j ∧ c j ≤ 5) (hd : ∀ j, a ≤ j → j < b → c j ≠ c (j + 1)) (hp : ∀ j, a < j → j < b → ¬ (c (j - 1) < c j ∧ c (j + 1) < c j)) : b ≤ a + 10 := by
  -- falling up to the first rise
  have key : ∀ m, a + m ≤ b → (∀ j, a ≤ j → j < a + m → c (j + 1) < c j) → c (a + m) + m ≤ c a := by
    intro m
    induction m with
    | zero => intro _ _; simp
    | succ m ih =>
      intro h1 h2
      have := ih (by omega) fun j p q => h2 j p (by omega)
      have h3 := h2 (a + m) (by omega) (by omega)
      have e : a + (m + 1) = a + m + 1 := by omega
      rw [e]
      push_cast
      omega
  by_cases hx : ∃ j, a ≤ j ∧ j < b ∧ c j < c (j + 1)
  · have hm : ∃ m, a + m < b ∧ c (a + m) < c (a + m + 1) ∧ ∀ j, a ≤ j → j < a + m → ¬ c j < c (j + 1) := by
      obtain ⟨j, h1, h2, h3⟩ := hx
      have : ∀ n, ∀ j, j - a ≤ n → a ≤ j → j < b → c j < c (j + 1) → ∃ m, a + m < b ∧ c (a + m) < c (a + m + 1) ∧ ∀ j, a ≤ j → j < a + m → ¬ c j < c (j + 1) := by
        intro n
        induction n with
        | zero =>
          intro j h0 h1 h2 h3
          have : j = a := by omega
          subst this
          exact ⟨0, by omega, h3, fun i p q => by omega⟩
        | succ n ih =>
          intro j h0 h1 h2 h3
          by_cases hy : ∃ i, a ≤ i ∧ i < j ∧ c i < c (i + 1)
          · obtain ⟨i, p, q, r⟩ := hy
            exact ih i (by omega) p (by omega) r
          · refine ⟨j - a, by omega, ?_, fun i p q r => hy ⟨i, p, by omega, r⟩⟩
            have e : a + (j - a) = j := by omega
            rw [e]
            exact h3
      exact this _ j (Nat.le_refl _) h1 h2 h3
    obtain ⟨m, h1, h2, h3⟩ := hm
    have f1 := key m (by omega) fun j p q => by
      have := h3 j p q
      have := hd j p (by omega)
      omega
    have f2 := (rises hd hp (j := a + m) (by omega) h2 (b - (a + m) - 1) (by omega)).1
    have e : a + m + 1 + (b - (a + m) - 1) = b := by omega
    rw [e] at f2
    have g1 := h0 a (by omega) (by omega)
    have g2 := h0 b (by omega) (by omega)
    have g3 := h0 (a + m) (by omega) (by omega)
    omega
  · have f1 := key (b - a) (by omega) fun j p q => by
      have : ¬ c j < c (j + 1) := fun z => hx ⟨j, p, by omega, z⟩
      have := hd j p (by omega)
      omega
    have g1 := h0 a (by omega) (by omega)
    have g2 := h0 (a + (b - a)) (by omega) (by omega)
    omega
end
theorem pks_mem {cs : List Int} {m j : Nat} : j ∈ pks cs m ↔ 2 ≤ j ∧ j < m + 2 ∧ isPk cs j := by
  unfold pks
  rw [List.mem_map]
  constructor
  · rintro ⟨t, h, rfl⟩
    rw [List.mem_filter] at h
    obtain ⟨h1, h2⟩ := h
    exact ⟨by omega, by have := List.mem_range.mp h1; omega, of_decide_eq_true h2⟩
  · rintro ⟨h1, h2, h3⟩
    refine ⟨j - 2, List.mem_filter.mpr ⟨List.mem_range.mpr (by omega), ?_⟩, by omega⟩
    have : j - 2 + 2 = j := by omega
    rw [this]
    exact decide_eq_true h3
theorem pks_asc (cs : List Int) (m : Nat) : (pks cs m).Pairwise (· < ·) := by
  unfold pks
  rw [List.pairwise_map]
  exact (List.pairwise_lt_range.filter _).imp fun h => by omega
theorem starts_asc (cs : List Int) : (startsL cs).Pairwise (· < ·) := by
  unfold startsL
  split
  · exact .nil
  · refine List.pairwise_cons.mpr ⟨fun j hj => ?_, pks_asc _ _⟩
    have := pks_mem.mp hj
    omega
theorem starts_mem {cs : List Int} {j : Nat} (h : j ∈ startsL cs) : j = 0 ∨ (2 ≤ j ∧ j + 1 < cs.length ∧ isPk cs j) := by
  unfold startsL at h
  split at h
  · cases h
  · rcases List.mem_cons.mp h with e | e
    · exact .inl e
    · have := pks_mem.mp e
      exact .inr ⟨this.1, by omega, this.2.2⟩
theorem starts_of_pk {cs : List Int} {j : Nat} (h1 : 2 ≤ j) (h2 : j + 1 < cs.length) (h3 : isPk cs j) : j ∈ startsL cs := by
  unfold startsL
  rw [if_neg (by intro z; subst z; simp at h2)]
  exact List.mem_cons_of_mem _ (pks_mem.mpr ⟨h1, by omega, h3⟩)
def endK (cs : List Int) (k : Nat) : Nat := (startsL cs).getD (k + 1) cs.length
theorem none_between {cs : List Int} {k j : Nat} (hk : k < (startsL cs).length) (h1 : (startsL cs)[k] < j) (h2 : j < endK cs k) (h3 : j ≠ 1) (h4 : j + 1 < cs.length) : ¬ isPk cs j := fun hp => by
  have hm := starts_of_pk (by omega) h4 hp
  obtain ⟨t, ht, e⟩ := List.getElem_of_mem hm
  have asc := List.pairwise_iff_getElem.mp (starts_asc cs)
  have t1 : k < t := by
    rcases Nat.lt_trichotomy k t with q | q | q
    · exact q
    · subst q; omega
    · have := asc t k ht hk q; omega
  unfold endK at h2
  by_cases hk2 : k + 1 < (startsL cs).length
  · rw [List.getD_eq_getElem?_getD, List.getElem?_eq_getElem hk2, Option.getD_some] at h2
    rcases Nat.lt_or_ge (k + 1) t with q | q
    · have := asc (k + 1) t hk2 ht q; omega
    · have : t = k + 1 := by omega
      subst this
      omega
  · omega
structure CRow (cs : List Int) : Prop where
  lo : ∀ j, j < cs.length → 0 ≤ cs.getD j 0 ∧ cs.getD j 0 ≤ 5
  ne : ∀ j, j + 1 < cs.length → cs.getD j 0 ≠ cs.getD (j + 1) 0
theorem starts_lt {cs : List Int} {k : Nat} (hk : k < (startsL cs).length) : (startsL cs)[k] < cs.length := by
  have hm := List.getElem_mem hk
  rcases starts_mem hm with e | e
  · rw [e]
    cases cs with
    | nil => simp [startsL] at hk
    | cons x r => simp
  · omega
theorem dense {cs : List Int} (r : CRow cs) {k : Nat} (hk : k < (startsL cs).length) :
    (startsL cs)[k] < endK cs k ∧ endK cs k ≤ cs.length ∧ (min 2 cs.length : Nat) ≤ endK cs k - (startsL cs)[k] ∧ endK cs k - (startsL cs)[k] ≤ 10 + (if k = 0 then 1 else 0) + (if k = (startsL cs).length - 1 then 1 else 0) := by
  have asc := List.pairwise_iff_getElem.mp (starts_asc cs)
  have h0 : (startsL cs)[k] = 0 ↔ k = 0 := by
    constructor
    · intro e
      have hm : 0 < (startsL cs).length := by omega
      rcases Nat.eq_zero_or_pos k with q | q
      · exact q
      · have := asc 0 k hm hk q; omega
    · intro e
      subst e
      have : startsL cs ≠ [] := fun z => by rw [z] at hk; simp at hk
      unfold startsL at this ⊢
      split
      · rename_i z; exact absurd (if_pos z) this
      · rfl
  have sl := starts_lt hk
  have sm := starts_mem (List.getElem_mem hk)
  by_cases hk2 : k + 1 < (startsL cs).length
  · have ee : endK cs k = (startsL cs)[k + 1] := by
      unfold endK
      rw [List.getD_eq_getElem?_getD, List.getElem?_eq_getElem hk2, Option.getD_some]
    have hlt := asc k (k + 1) hk hk2 (by omega)
    have em := starts_mem (List.getElem_mem hk2)
    have el := starts_lt hk2
    have nb := fun j => none_between (cs := cs) (k := k) (j := j) hk
    rw [ee] at nb ⊢
    generalize hs : (startsL cs)[k] = s at *
    generalize he : (startsL cs)[k + 1] = e at *
    have e2 : 2 ≤ e ∧ e + 1 < cs.length ∧ isPk cs e := by
      rcases em with q | q
      · omega
      · exact q
    have two : 2 ≤ e - s := by
      rcases sm with q | ⟨q1, q2, q3⟩
      · omega
      · by_cases z : e = s + 1
        · exfalso
          subst z
          unfold isPk at q3 e2
          have h7 := q3.2
          have h8 := e2.2.2.1
          rw [Nat.add_sub_cancel] at h8
          omega
        · omega
    refine ⟨hlt, by omega, by omega, ?_⟩
    by_cases hz : s = 0
    · have := stretch (c := fun j => cs.getD j 0) (a := 1) (b := e) (by omega) (fun j _ p => r.lo j (by omega)) (fun j _ p => r.ne j (by omega)) (fun j p q => nb j (by omega) q (by omega) (by omega))
      rw [if_pos (h0.mp hz)]
      omega
    · have := stretch (c := fun j => cs.getD j 0) (a := s) (b := e) (by omega) (fun j _ p => r.lo j (by omega)) (fun j _ p => r.ne j (by omega)) (fun j p q => nb j (by omega) q (by omega) (by omega))
      omega
  · have ee : endK cs k = cs.length := by
      unfold endK
      rw [List.getD_eq_getElem?_getD, List.getElem?_eq_none (by omega), Option.getD_none]
    have nb := fun j => none_between (cs := cs) (k := k) (j := j) hk
    rw [ee] at nb ⊢
    have kl : k = (startsL cs).length - 1 := by omega
    rw [if_pos kl]
    generalize hs : (startsL cs)[k] = s at *
    refine ⟨by omega, by omega, by omega, ?_⟩
    by_cases hz : s = 0
    · rw [if_pos (h0.mp hz)]
      by_cases h1 : cs.length ≤ 1
      · omega
      · have := stretch (c := fun j => cs.getD j 0) (a := 1) (b := cs.length - 1) (by omega) (fun j _ p => r.lo j (by omega)) (fun j _ p => r.ne j (by omega)) (fun j p q => nb j (by omega) (by omega) (by omega) (by omega))
        omega
    · have := stretch (c := fun j => cs.getD j 0) (a := s) (b := cs.length - 1) (by omega) (fun j _ p => r.lo j (by omega)) (fun j _ p => r.ne j (by omega)) (fun j p q => nb j (by omega) (by omega) (by omega) (by omega))
      omega
def intsN (ns : List Nat) : List Int := ns.map fun (n : Nat) => (n : Int)
theorem intsN_len (ns : List Nat) : (intsN ns).length = ns.length := by simp [intsN]
theorem intsN_get {ns : List Nat} {j : Nat} : (intsN ns).getD j 0 = ((ns.getD j 0 : Nat) : Int) := by
  simp only [intsN, List.getD_eq_getElem?_getD, List.getElem?_map]
  cases ns[j]? <;> rfl
noncomputable def colsZ (xs : List Nd) : List Int := intsN (colN xs)
theorem colsZ_len (xs : List Nd) : (colsZ xs).length = xs.length := by rw [colsZ, intsN_len, col_len]
theorem colsZ_row {xs : List Nd} (h : Row xs) : CRow (colsZ xs) := by
  refine ⟨fun j hj => ?_, fun j hj => ?_⟩
  · rw [colsZ_len] at hj
    have := col_lt h j (by rw [col_len]; exact hj)
    unfold colsZ
    rw [intsN_get]
    omega
  · rw [colsZ_len] at hj
    have := col_apart h j (by rw [col_len]; exact hj)
    unfold colsZ
    rw [intsN_get, intsN_get]
    omega
def cutsN {α : Type} (ss : List Nat) (xs : List α) : List (List α) := (List.range ss.length).map fun i => (xs.take (ss.getD (i + 1) xs.length)).drop (ss.getD i 0)
theorem cutsN_len {α : Type} (ss : List Nat) (xs : List α) : (cutsN ss xs).length = ss.length := by simp [cutsN]
theorem cutsN_get {α : Type} {ss : List Nat} {xs : List α} {i : Nat} (h : i < ss.length) : (cutsN ss xs)[i]? = some ((xs.take (ss.getD (i + 1) xs.length)).drop (ss.getD i 0)) := by
  simp [cutsN, h]
theorem cutsN_take {α : Type} {ss : List Nat} {xs : List α} {i : Nat} (h : i < ss.length) : (cutsN ss xs).take (i + 1) = (cutsN ss xs).take i ++ [(xs.take (ss.getD (i + 1) xs.length)).drop (ss.getD i 0)] := by
  rw [List.take_add_one, cutsN_get h]
  rfl
theorem starts_zero (xs : List Nd) : (startsL (colsZ xs)).getD 0 xs.length = 0 := by
  have hcl := colsZ_len xs
  unfold startsL
  split
  · rename_i h
    rw [h] at hcl
    simp at hcl
    simp [← hcl]
  · simp
theorem parts_ok {xs : List Nd} (h : Row xs) {i : Nat} (hi : i < (startsL (colsZ xs)).length) : (startsL (colsZ xs)).getD i 0 < (startsL (colsZ xs)).getD (i + 1) xs.length ∧ (startsL (colsZ xs)).getD (i + 1) xs.length ≤ xs.length ∧ (min 2 xs.length : Nat) ≤ (startsL (colsZ xs)).getD (i + 1) xs.length - (startsL (colsZ xs)).getD i 0 ∧ (startsL (colsZ xs)).getD (i + 1) xs.length - (startsL (colsZ xs)).getD i 0 ≤ 12 ∧ (startsL (colsZ xs)).getD i xs.length = (startsL (colsZ xs)).getD i 0 := by
  obtain ⟨d1, d2, d3, d4⟩ := dense (colsZ_row h) hi
  unfold endK at d1 d2 d3 d4
  rw [colsZ_len] at d1 d2 d3 d4
  have e1 : (startsL (colsZ xs)).getD i 0 = (startsL (colsZ xs))[i] := by
    rw [List.getD_eq_getElem?_getD, List.getElem?_eq_getElem hi]
    rfl
  have e2 : (startsL (colsZ xs)).getD i xs.length = (startsL (colsZ xs))[i] := by
    rw [List.getD_eq_getElem?_getD, List.getElem?_eq_getElem hi]
    rfl
  rw [e1, e2]
  refine ⟨d1, d2, d3, ?_, rfl⟩
  split at d4 <;> split at d4 <;> omega
end Law
namespace Law
open PySem L2 ML
theorem cut_last1 {α : Type} {xs : List α} : cutA xs (some (-1)) none = xs.drop (xs.length - 1) := by
  unfold cutA HT.sIx
  simp only [show (-1 : Int) < 0 by decide, if_true]
  have e : (-1 + (xs.length : Int)).toNat = xs.length - 1 := by omega
  have e' : ((xs.length : Int) + -1).toNat = xs.length - 1 := by omega
  first | rw [e] | rw [e']
  rw [List.take_of_length_le (by rw [List.length_drop]; exact Nat.le_refl _)]
theorem Row.app {xs ys : List Nd} (h : Row xs) (k : Row ys) (hm : ∀ a b, xs[xs.length - 1]? = some a → ys[0]? = some b → 1 ≤ xs.length → a ≠ b) : Row (xs ++ ys) := by
  refine ⟨fun d hd => ?_, fun i a b h1 h2 => ?_⟩
  · rcases List.mem_append.mp hd with z | z
    · exact h.it d z
    · exact k.it d z
  · by_cases q : i + 1 < xs.length
    · rw [List.getElem?_append_left (by omega)] at h1
      rw [List.getElem?_append_left q] at h2
      exact h.ap i a b h1 h2
    · by_cases q2 : i + 1 = xs.length
      · rw [List.getElem?_append_left (by omega)] at h1
        rw [List.getElem?_append_right (by omega), q2, Nat.sub_self] at h2
        exact hm a b (by rw [← q2]; simpa using h1) h2 (by omega)
      · rw [List.getElem?_append_right (by omega)] at h1
        rw [List.getElem?_append_right (by omega), show i + 1 - xs.length = i - xs.length + 1 by omega] at h2
        exact k.ap _ a b h1 h2
theorem Row.take {xs : List Nd} (h : Row xs) (n : Nat) : Row (xs.take n) := by
  refine ⟨fun d hd => h.it d (List.mem_of_mem_take hd), fun i a b h1 h2 => ?_⟩
  have l2 := (List.getElem?_eq_some_iff.mp h2).1
  simp at l2
  rw [List.getElem?_take_of_lt (by omega)] at h1 h2
  exact h.ap i a b h1 h2
theorem Row.drop {xs : List Nd} (h : Row xs) (n : Nat) : Row (xs.drop n) := by
  refine ⟨fun d hd => h.it d (List.mem_of_mem_drop hd), fun i a b h1 h2 => ?_⟩
  rw [List.getElem?_drop] at h1 h2
  exact h.ap (n + i) a b h1 (by rw [← h2]; congr 1)
def Sty (st st' : Store) : Prop := ∀ r ys, stL st r = some ys → r ≠ 0 → r ≠ 1 → stL st' r = some ys
theorem Sty.trans {a b c : Store} (h : Sty a b) (k : Sty b c) : Sty a c := fun r ys e r0 r1 => k r ys (h r ys e r0 r1) r0 r1
theorem Sty.grown {a b : Store} (h : Grown a b) : Sty a b := fun r ys e _ _ => h.stL e
theorem Sty.get {a b : Store} (h : Sty a b) {r : Nat} {ys : List A} (e : stL a r = some ys) (hr : 1 < r) : stL b r = some ys := h r ys e (by omega) (by omega)
end Law
namespace Law
open PySem L2 ML
abbrev Gp := Nd × Nat
def expG (gs : List Gp) : List Nd := (gs.map fun g => List.replicate g.2 g.1).flatten
theorem expG_nil : expG [] = [] := rfl
def itmN (g : Gp) : Nd := if g.2 = 1 then g.1 else .run g.1 g.2
def Old (st st' : Store) : Prop := ∀ r ys, stL st r = some ys → stL st' r = some ys
theorem Old.trans {a b c : Store} (h : Old a b) (k : Old b c) : Old a c := fun r ys e => k r ys (h r ys e)
theorem Old.grown {a b : Store} (h : Grown a b) : Old a b := fun r ys e => h.stL e
def OldB (st0 : Store) (r : Nat) (st : Store) : Prop := ∀ r' ys, stL st0 r' = some ys → stL st r' = some ys ∧ r' ≠ r
theorem OldB.old {st0 st : Store} {r : Nat} (h : OldB st0 r st) : Old st0 st := fun r' ys e => (h r' ys e).1
theorem OldB.grown {st0 st st' : Store} {r : Nat} (h : OldB st0 r st) (g : Grown st st') : OldB st0 r st' := fun r' ys e => ⟨g.stL (h r' ys e).1, (h r' ys e).2⟩
theorem OldB.set {st0 st : Store} {r : Nat} {o : Ob} (h : OldB st0 r st) : OldB st0 r (st.set r o) := fun r' ys e => by
  obtain ⟨h1, h2⟩ := h r' ys e
  refine ⟨?_, h2⟩
  unfold stL
  rw [List.getElem?_set_ne (Ne.symm h2)]
  exact h1
theorem OldB.new' {st0 st : Store} {r : Nat} (hr : st0.length ≤ r) (g : Grown st0 st) : OldB st0 r st := fun r' ys e => ⟨g.stL e, by
  have := (List.getElem?_eq_some_iff.mp (stL_eq e)).1
  omega⟩
theorem OldB.new {st0 st : Store} (g : Grown st0 st) : OldB st0 st0.length st := OldB.new' (Nat.le_refl _) g
end Law
namespace Law
open PySem L2 ML
section
variable {st : Store} {r q : Nat} {kvs : List (NestedKey × A)} {k : NestedKey} {y v : A} {Q : A → Store → Prop} {ρ : ML.Env} {N B C : ML.Env → Store → Prop} {Rt : A → Store → Prop}
@[simp] theorem stD_new : stD (st ++ [.oth (.dct kvs)]) st.length = some kvs := by simp [stD]
theorem Grown.stD {st st' : Store} (h : Grown st st') {i : Nat} {kvs : List (NestedKey × A)} (e : ML.stD st i = some kvs) : ML.stD st' i = some kvs := by
  unfold ML.stD
  rw [h.get (stD_eq e)]
theorem stD_lt {st : Store} (e : stD st r = some kvs) : r < st.length := (List.getElem?_eq_some_iff.mp (stD_eq e)).1
theorem stL_lt {st : Store} {xs : List A} (e : stL st r = some xs) : r < st.length := (List.getElem?_eq_some_iff.mp (stL_eq e)).1
theorem stD_set_ne {o : Ob} (h : r ≠ q) : stD (st.set r o) q = stD st q := by
  unfold stD
  rw [List.getElem?_set_ne h]
theorem stL_set_ne' {o : Ob} (h : r ≠ q) : stL (st.set r o) q = stL st q := by
  unfold stL
  rw [List.getElem?_set_ne h]
end
end Law
namespace Law
open PySem L2 ML
open Classical
noncomputable def idx (f : List Nd) (b : Nd) : Nat := f.findIdx fun x => decide (x = b)
def kids : Nd → List Nd
  | .leaf _ => []
  | .run b _ => [b]
  | .blk cs => cs
def Clo (f : List Nd) : Prop := f.Nodup ∧ ∀ n ∈ f, ∀ c ∈ kids n, c ∈ f
noncomputable def kOf (a : A) : NestedKey := (keyOf a).getD .none
noncomputable def entK (f : List Nd) : Nd → NestedKey
  | .leaf e => .tup [.text "leaf", kOf e]
  | .run b t => .tup [.text "run", .num (idx f b : Nat), .num (t : Nat)]
  | .blk cs => .tup [.text "block", .tup (cs.map fun c => .num (idx f c : Nat))]
noncomputable def entA (f : List Nd) : Nd → A
  | .leaf e => .tup [.str "leaf", e]
  | .run b t => .tup [.str "run", .int (idx f b : Nat), .int (t : Nat)]
  | .blk cs => .tup [.str "block", .tup (cs.map fun c => .int (idx f c : Nat))]
theorem idx_app {f g : List Nd} {a : Nd} (ha : a ∈ f) : idx (f ++ g) a = idx f a := by
  unfold idx
  rw [List.findIdx_append, if_pos (List.findIdx_lt_length_of_exists ⟨a, ha, by simp⟩)]
def numG (g : Nd → NestedKey) : Nat → List Nd → List (NestedKey × A)
  | _, [] => []
  | i, n :: r => (g n, .int (i : Nat)) :: numG g (i + 1) r
noncomputable def numF (f : List Nd) : List (NestedKey × A) := numG (entK f) 0 f
theorem numG_congr {g g' : Nd → NestedKey} : ∀ {i : Nat} {f : List Nd}, (∀ m ∈ f, g m = g' m) → numG g i f = numG g' i f
  | _, [], _ => rfl
  | i, m :: r, h => by
    simp only [numG]
    rw [h m (by simp), numG_congr fun x hx => h x (by simp [hx])]
structure Fr2 (a b : Nat) (st st' : Store) : Prop where
  len : st.length ≤ st'.length
  get : ∀ i, i < st.length → i ≠ a → i ≠ b → st'[i]? = st[i]?
theorem Fr2.refl (a b : Nat) (st : Store) : Fr2 a b st st := ⟨Nat.le_refl _, fun _ _ _ _ => rfl⟩
theorem Fr2.trans {a b : Nat} {s1 s2 s3 : Store} (h : Fr2 a b s1 s2) (k : Fr2 a b s2 s3) : Fr2 a b s1 s3 := ⟨Nat.le_trans h.len k.len, fun i h1 h2 h3 => by rw [k.get i (Nat.lt_of_lt_of_le h1 h.len) h2 h3, h.get i h1 h2 h3]⟩
theorem Fr2.grown {a b : Nat} {s1 s2 : Store} (g : Grown s1 s2) : Fr2 a b s1 s2 := by
  obtain ⟨x, rfl⟩ := g
  exact ⟨by simp, fun i h _ _ => List.getElem?_append_left h⟩
end Law
namespace Law
open PySem L2 ML
open Classical
def codA (n : Nd) : A := .tup ((codeN n).map A.int)
def szA (n : Nd) : A := .int (szN n : Nat)
def tabFs (t : Nat) : List (Str × A) := [("numbers", .ref (t + 1)), ("entries", .ref (t + 2)), ("codes", .ref (t + 3)), ("sizes", .ref (t + 4))]
@[simp] theorem tab_num (t : Nat) : List.lookup ("numbers" : Str) (tabFs t) = some (.ref (t + 1)) := rfl
@[simp] theorem tab_ent (t : Nat) : List.lookup ("entries" : Str) (tabFs t) = some (.ref (t + 2)) := rfl
@[simp] theorem tab_cod (t : Nat) : List.lookup ("codes" : Str) (tabFs t) = some (.ref (t + 3)) := rfl
@[simp] theorem tab_siz (t : Nat) : List.lookup ("sizes" : Str) (tabFs t) = some (.ref (t + 4)) := rfl
@[simp] theorem tab_m1 (t : Nat) : List.lookup ("measure" : Str) (tabFs t) = none := rfl
@[simp] theorem tab_m2 (t : Nat) : List.lookup ("number_of" : Str) (tabFs t) = none := rfl
@[simp] theorem tab_m3 (t : Nat) : List.lookup ("item_number" : Str) (tabFs t) = none := rfl
@[simp] theorem tab_m4 (t : Nat) : List.lookup ("nodes_in" : Str) (tabFs t) = none := rfl
structure Okt (n : Nd) : Prop where
  ok : okN n
  dp : dpN n ≤ 29
  sz : szN n ≤ 2000
def Ord (f : List Nd) : Prop := ∀ (i : Nat) (n : Nd), f[i]? = some n → ∀ c ∈ kids n, idx f c < i
structure Tab (f : List Nd) (t : Nat) (st : Store) : Prop where
  c : Clo f
  o : Ord f
  ok : ∀ m ∈ f, Okt m
  i : st[t]? = some (.oth (.ins "NodeTable" (tabFs t)))
  d : stD st (t + 1) = some (numF f)
  e : stL st (t + 2) = some (f.map (entA f))
  k : stL st (t + 3) = some (f.map codA)
  z : stL st (t + 4) = some (f.map szA)
structure FrT (t : Nat) (st st' : Store) : Prop where
  len : st.length ≤ st'.length
  get : ∀ i, i < st.length → (i ≤ t ∨ t + 4 < i) → st'[i]? = st[i]?
theorem FrT.refl (t : Nat) (st : Store) : FrT t st st := ⟨Nat.le_refl _, fun _ _ _ => rfl⟩
theorem FrT.trans {t : Nat} {s1 s2 s3 : Store} (h : FrT t s1 s2) (k : FrT t s2 s3) : FrT t s1 s3 := ⟨Nat.le_trans h.len k.len, fun i h1 h2 => by rw [k.get i (Nat.lt_of_lt_of_le h1 h.len) h2, h.get i h1 h2]⟩
theorem FrT.grown {t : Nat} {s1 s2 : Store} (g : Grown s1 s2) : FrT t s1 s2 := by
  obtain ⟨x, rfl⟩ := g
  exact ⟨by simp, fun i h _ => List.getElem?_append_left h⟩
theorem FrT.set {t r : Nat} {s : Store} {o : Ob} (h1 : t < r) (h2 : r ≤ t + 4) : FrT t s (s.set r o) := ⟨by simp, fun i _ h => List.getElem?_set_ne (by omega)⟩
theorem FrT.stL {t r : Nat} {s s' : Store} {xs : List A} (h : FrT t s s') (hr : r ≤ t ∨ t + 4 < r) (e : ML.stL s r = some xs) : ML.stL s' r = some xs := stL_of (by rw [h.get r (stL_lt e) hr]; exact stL_eq e)
theorem Tab.grown {f : List Nd} {t : Nat} {st st' : Store} (h : Tab f t st) (g : Grown st st') : Tab f t st' := ⟨h.c, h.o, h.ok, g.get h.i, Grown.stD g h.d, g.stL h.e, g.stL h.k, g.stL h.z⟩
theorem Tab.set {f : List Nd} {t r : Nat} {st : Store} {o : Ob} (h : Tab f t st) (hr : r < t ∨ t + 4 < r) : Tab f t (st.set r o) := ⟨h.c, h.o, h.ok, by rw [List.getElem?_set_ne (by omega)]; exact h.i, by rw [stD_set_ne (by omega)]; exact h.d, by rw [stL_set_ne' (by omega)]; exact h.e, by rw [stL_set_ne' (by omega)]; exact h.k, by rw [stL_set_ne' (by omega)]; exact h.z⟩
theorem Tab.fr {f : List Nd} {t : Nat} {st st' : Store} (h : Tab f t st) (k : ∀ i, i < st.length → t ≤ i → i ≤ t + 4 → st'[i]? = st[i]?) : Tab f t st' := by
  have hi := (List.getElem?_eq_some_iff.mp h.i).1
  have hd := stD_lt h.d
  have he := stL_lt h.e
  have hk := stL_lt h.k
  have hz := stL_lt h.z
  refine ⟨h.c, h.o, h.ok, by rw [k _ hi (by omega) (by omega)]; exact h.i, ?_, stL_of (by rw [k _ he (by omega) (by omega)]; exact stL_eq h.e), stL_of (by rw [k _ hk (by omega) (by omega)]; exact stL_eq h.k), stL_of (by rw [k _ hz (by omega) (by omega)]; exact stL_eq h.z)⟩
  have := h.d
  unfold ML.stD at this ⊢
  rw [k _ hd (by omega) (by omega)]
  exact this
structure Hold (a b : Store) : Prop where
  len : a.length ≤ b.length
  get : ∀ i, i < a.length → b[i]? = a[i]?
theorem Hold.refl (a : Store) : Hold a a := ⟨Nat.le_refl _, fun _ _ => rfl⟩
theorem Hold.trans {a b c : Store} (h : Hold a b) (k : Hold b c) : Hold a c := ⟨Nat.le_trans h.len k.len, fun i hi => by rw [k.get i (Nat.lt_of_lt_of_le hi h.len), h.get i hi]⟩
theorem Hold.grown {a b : Store} (g : Grown a b) : Hold a b := by
  obtain ⟨x, rfl⟩ := g
  exact ⟨by simp, fun i h => List.getElem?_append_left h⟩
theorem Hold.set {a b : Store} {r : Nat} {o : Ob} (h : Hold a b) (hr : a.length ≤ r) : Hold a (b.set r o) := ⟨by rw [List.length_set]; exact h.len, fun i hi => by rw [List.getElem?_set_ne (by omega)]; exact h.get i hi⟩
theorem Hold.stL {a b : Store} {r : Nat} {xs : List A} (h : Hold a b) (e : ML.stL a r = some xs) : ML.stL b r = some xs := stL_of (by rw [h.get r (stL_lt e)]; exact stL_eq e)
theorem Hold.fr {a b : Store} (t : Nat) (h : Hold a b) : FrT t a b := ⟨h.len, fun i hi _ => h.get i hi⟩
noncomputable def numA (f : List Nd) (n : Nd) : A := .int (idx f n : Nat)
end Law
namespace Law
open PySem L2 ML
open Classical
noncomputable def grp : List Nd → List Gp
  | [] => []
  | n :: r => match grp r with
    | [] => [(n, 1)]
    | g :: gs => if g.1 = n then (n, g.2 + 1) :: gs else (n, 1) :: g :: gs
theorem grp_exp : ∀ ns : List Nd, expG (grp ns) = ns
  | [] => rfl
  | n :: r => by
    have ih := grp_exp r
    simp only [grp]
    cases e : grp r with
    | nil =>
      rw [e] at ih
      rw [expG_nil] at ih
      subst ih
      simp [expG]
    | cons g gs =>
      rw [e] at ih
      simp only
      split
      · rename_i h
        subst h
        simp only [expG, List.map_cons, List.flatten_cons] at ih ⊢
        rw [List.replicate_succ, List.cons_append, ih]
      · simp only [expG, List.map_cons, List.flatten_cons] at ih ⊢
        rw [← ih]
        simp
theorem grp_mem : ∀ {ns : List Nd} {g : Gp}, g ∈ grp ns → g.1 ∈ ns ∧ 1 ≤ g.2
  | [], g, h => by simp [grp] at h
  | n :: r, g, h => by
    simp only [grp] at h
    cases e : grp r with
    | nil =>
      rw [e] at h
      simp at h
      subst h
      exact ⟨by simp, by simp⟩
    | cons g0 gs =>
      rw [e] at h
      simp only at h
      have ih : ∀ g ∈ g0 :: gs, g.1 ∈ r ∧ 1 ≤ g.2 := fun g hg => grp_mem (by rw [e]; exact hg)
      split at h
      · rcases List.mem_cons.mp h with rfl | h
        · exact ⟨by simp, by simp⟩
        · have := ih g (by simp [h])
          exact ⟨by simp [this.1], this.2⟩
      · rcases List.mem_cons.mp h with rfl | h
        · exact ⟨by simp, by simp⟩
        · have := ih g h
          exact ⟨by simp [this.1], this.2⟩
theorem grp_ap : ∀ {ns : List Nd} (i : Nat) (a b : Gp), (grp ns)[i]? = some a → (grp ns)[i + 1]? = some b → a.1 ≠ b.1
  | [], i, a, b, h, _ => by simp [grp] at h
  | n :: r, i, a, b, h1, h2 => by
    have ih := @grp_ap r
    simp only [grp] at h1 h2
    cases e : grp r with
    | nil =>
      rw [e] at h2
      simp at h2
    | cons g0 gs =>
      rw [e] at h1 h2 ih
      simp only at h1 h2
      split at h1
      · rename_i c
        rw [if_pos c] at h2
        cases i with
        | zero =>
          simp only [List.getElem?_cons_zero, Option.some.injEq] at h1
          simp only [List.getElem?_cons_succ] at h2
          have := ih 0 g0 b (by simp) (by simpa using h2)
          rw [← h1]
          simp only
          rw [← c]
          exact this
        | succ i =>
          simp only [List.getElem?_cons_succ] at h1 h2
          exact ih (i + 1) a b (by simpa using h1) (by simpa using h2)
      · rename_i c
        rw [if_neg c] at h2
        cases i with
        | zero =>
          simp only [List.getElem?_cons_zero, Option.some.injEq] at h1
          simp only [List.getElem?_cons_succ, List.getElem?_cons_zero, Option.some.injEq] at h2
          rw [← h1, ← h2]
          exact fun z => c z.symm
        | succ i =>
          simp only [List.getElem?_cons_succ] at h1 h2
          exact ih i a b h1 h2
theorem grp_len : ∀ ns : List Nd, (grp ns).length ≤ ns.length
  | [] => by simp [grp]
  | n :: r => by
    have ih := grp_len r
    simp only [grp]
    cases e : grp r with
    | nil => simp
    | cons g gs =>
      rw [e] at ih
      simp only [List.length_cons] at ih
      simp only
      split <;> simp <;> omega
theorem exp_len : ∀ gs : List Gp, (expG gs).length = (gs.map (·.2)).sum
  | [] => rfl
  | g :: gs => by
    have e : expG (g :: gs) = List.replicate g.2 g.1 ++ expG gs := by simp [expG]
    rw [e, List.length_append, exp_len gs]
    simp
theorem sum_mem : ∀ {l : List Nat} {n : Nat}, n ∈ l → n ≤ l.sum
  | m :: l, n, h => by
    simp only [List.sum_cons]
    rcases List.mem_cons.mp h with rfl | h
    · omega
    · have := sum_mem h
      omega
theorem grp_le {ns : List Nd} {g : Gp} (h : g ∈ grp ns) : g.2 ≤ ns.length := by
  have e := exp_len (grp ns)
  rw [grp_exp] at e
  rw [e]
  exact sum_mem (List.mem_map_of_mem (f := fun g : Gp => g.2) h)
theorem szNs_app : ∀ xs ys : List Nd, szNs (xs ++ ys) = szNs xs + szNs ys
  | [], ys => by simp [szNs]
  | x :: xs, ys => by
    simp only [List.cons_append, szNs, szNs_app xs ys]
    omega
theorem szNs_rep (n : Nd) : ∀ k : Nat, szNs (List.replicate k n) = szN n * k
  | 0 => by simp [szNs]
  | k + 1 => by
    rw [List.replicate_succ]
    simp only [szNs, szNs_rep n k]
    rw [Nat.mul_succ]
    omega
theorem szN_itm (g : Gp) : szN (itmN g) = szN g.1 * g.2 := by
  unfold itmN
  split
  · rename_i h
    rw [h, Nat.mul_one]
  · simp only [szN]
theorem szNs_itms : ∀ gs : List Gp, szNs (gs.map itmN) = szNs (expG gs)
  | [] => rfl
  | g :: gs => by
    have e : expG (g :: gs) = List.replicate g.2 g.1 ++ expG gs := by simp [expG]
    rw [e, szNs_app, szNs_rep, List.map_cons]
    simp only [szNs, szN_itm, szNs_itms gs]
theorem szNs_mem {ns : List Nd} {n : Nd} (h : n ∈ ns) : szN n ≤ szNs ns := by
  induction ns with
  | nil => simp at h
  | cons m r ih =>
    simp only [szNs]
    rcases List.mem_cons.mp h with rfl | h
    · omega
    · have := ih h
      omega
theorem szNs_blks : ∀ ps : List (List Nd), szNs (ps.map Nd.blk) = szNs ps.flatten
  | [] => rfl
  | p :: ps => by
    rw [List.map_cons, List.flatten_cons, szNs_app]
    simp only [szNs, szN, szNs_blks ps]
theorem cuts_flat {α : Type} {ss : List Nat} {xs : List α} (h0 : ss.getD 0 xs.length = 0) (hm : ∀ i, i < ss.length → ss.getD i 0 ≤ ss.getD (i + 1) xs.length) (he : ∀ i, i < ss.length → ss.getD i xs.length = ss.getD i 0) : ∀ i, i ≤ ss.length → ((cutsN ss xs).take i).flatten = xs.take (ss.getD i xs.length)
  | 0, _ => by rw [h0]; simp
  | i + 1, hi => by
    rw [cutsN_take (by omega), List.flatten_append, cuts_flat h0 hm he i (by omega), he i (by omega)]
    have := hm i (by omega)
    simp only [List.flatten_cons, List.flatten_nil, List.append_nil]
    calc xs.take (ss.getD i 0) ++ (xs.take (ss.getD (i + 1) xs.length)).drop (ss.getD i 0) = (xs.take (ss.getD (i + 1) xs.length)).take (ss.getD i 0) ++ (xs.take (ss.getD (i + 1) xs.length)).drop (ss.getD i 0) := by
          rw [List.take_take, Nat.min_eq_left this]
      _ = _ := List.take_append_drop _ _
noncomputable def prts (xs : List Nd) : List (List Nd) := cutsN (startsL (colsZ xs)) xs
theorem prts_flat {xs : List Nd} (h : Row xs) : (prts xs).flatten = xs := by
  have := cuts_flat (xs := xs) (ss := startsL (colsZ xs)) (starts_zero xs) (fun i hi => Nat.le_of_lt (parts_ok h hi).1) (fun i hi => (parts_ok h hi).2.2.2.2) _ (Nat.le_refl _)
  unfold prts
  rw [List.take_of_length_le (by rw [cutsN_len]; exact Nat.le_refl _)] at this
  rw [this, List.getD_eq_getElem?_getD, List.getElem?_eq_none (Nat.le_refl _)]
  simp
theorem prts_len {xs : List Nd} (h : Row xs) {p : List Nd} (hp : p ∈ prts xs) : min 2 xs.length ≤ p.length ∧ p.length ≤ 12 ∧ 1 ≤ p.length := by
  have hP : ∀ i, i < (startsL (colsZ xs)).length → _ := fun i hi => @parts_ok xs h i hi
  unfold prts at hp
  generalize startsL (colsZ xs) = ss at hp hP
  obtain ⟨i, hi⟩ := List.mem_iff_getElem?.mp hp
  have hi' : i < ss.length := by
    have := (List.getElem?_eq_some_iff.mp hi).1
    rwa [cutsN_len] at this
  rw [cutsN_get hi'] at hi
  obtain ⟨a1, a2, a3, a4, a5⟩ := hP i hi'
  have e := (Option.some.inj hi).symm
  rw [e, List.length_drop, List.length_take]
  omega
theorem flat_len {α : Type} (k : Nat) : ∀ {ps : List (List α)}, (∀ p ∈ ps, k ≤ p.length) → k * ps.length ≤ ps.flatten.length
  | [], _ => by simp
  | p :: ps, h => by
    have h1 := h p (by simp)
    have h2 := flat_len k (ps := ps) fun q hq => h q (by simp [hq])
    simp only [List.flatten_cons, List.length_append, List.length_cons, Nat.mul_succ]
    omega
theorem prts_half {xs : List Nd} (h : Row xs) (hl : 2 ≤ xs.length) : 2 * (prts xs).length ≤ xs.length := by
  have := flat_len 2 (ps := prts xs) fun p hp => by have := (prts_len h hp).1; omega
  rwa [prts_flat h] at this
noncomputable def itms (ns : List Nd) : List Nd := (grp ns).map itmN
noncomputable def upN (xs : List Nd) : List Nd := (prts xs).map Nd.blk
noncomputable def nxt (ns : List Nd) : List Nd := if 1 < (itms ns).length then upN (itms ns) else []
structure LvOk (m j : Nat) (ns : List Nd) : Prop where
  ok : ∀ n ∈ ns, okN n ∧ isRun n = false ∧ dpN n ≤ 2 * j + 1
  sz : szNs ns ≤ m
  len : ns.length * 2 ^ j ≤ m
theorem szs_len : ∀ {ns : List Nd}, (∀ n ∈ ns, okN n) → ns.length ≤ szNs ns := fun {ns} h => szNs_pos ns ((okNs_iff ns).mpr h)
theorem LvOk.small {m j : Nat} {ns : List Nd} (h : LvOk m j ns) : ns.length ≤ m := Nat.le_trans (szs_len fun n hn => (h.ok n hn).1) h.sz
theorem itms_len (ns : List Nd) : (itms ns).length ≤ ns.length := by
  unfold itms
  rw [List.length_map]
  exact grp_len ns
theorem sz_itms (ns : List Nd) : szNs (itms ns) = szNs ns := by
  unfold itms
  rw [szNs_itms, grp_exp]
theorem itm_base {m j : Nat} {ns : List Nd} (h : LvOk m j ns) (hm : m ≤ 2000) {g : Gp} (hg : g ∈ grp ns) : okN (itmN g) ∧ dpN (itmN g) ≤ 2 * j + 2 ∧ szN (itmN g) ≤ m := by
  obtain ⟨m1, m2⟩ := grp_mem hg
  obtain ⟨a1, a2, a3⟩ := h.ok _ m1
  have hs : szN (itmN g) ≤ m := by
    have : itmN g ∈ itms ns := List.mem_map_of_mem hg
    have := szNs_mem this
    rw [sz_itms] at this
    exact Nat.le_trans this h.sz
  have hl := grp_le hg
  have := h.small
  refine ⟨?_, ?_, hs⟩
  · unfold itmN
    split
    · exact a1
    · simp only [okN]
      exact ⟨a1, by omega, by omega⟩
  · unfold itmN
    split
    · omega
    · simp only [dpN]
      omega
theorem itm_inj {g g' : Gp} (h : isRun g.1 = false) (h' : isRun g'.1 = false) (e : itmN g = itmN g') : g.1 = g'.1 := by
  unfold itmN at e
  split at e <;> split at e
  · exact e
  · rw [e] at h
    simp [isRun] at h
  · rw [← e] at h'
    simp [isRun] at h'
  · injection e
theorem LvOk.row {m j : Nat} {ns : List Nd} (h : LvOk m j ns) (hm : m ≤ 2000) (hj : j ≤ 11) : Row (itms ns) := by
  refine ⟨fun c hc => ?_, fun i a b ha hb => ?_⟩
  · obtain ⟨g, hg, rfl⟩ := List.mem_map.mp hc
    obtain ⟨a1, a2, a3⟩ := itm_base h hm hg
    exact ⟨a1, by omega, by omega⟩
  · unfold itms at ha hb
    rw [List.getElem?_map, Option.map_eq_some_iff] at ha hb
    obtain ⟨g, hg, rfl⟩ := ha
    obtain ⟨g', hg', rfl⟩ := hb
    exact fun e => grp_ap i g g' hg hg' (itm_inj (h.ok _ (grp_mem (List.mem_of_getElem? hg)).1).2.1 (h.ok _ (grp_mem (List.mem_of_getElem? hg')).1).2.1 e)
theorem LvOk.next {m j : Nat} {ns : List Nd} (h : LvOk m j ns) (hm : m ≤ 2000) (hj : j ≤ 11) : LvOk m (j + 1) (nxt ns) := by
  unfold nxt
  split
  · rename_i hl
    have hR := h.row hm hj
    refine ⟨fun n hn => ?_, ?_, ?_⟩
    · obtain ⟨p, hp, rfl⟩ := List.mem_map.mp hn
      obtain ⟨p1, p2, p3⟩ := prts_len hR hp
      have hsub : ∀ c ∈ p, c ∈ itms ns := fun c hc => by
        rw [← prts_flat hR]
        exact List.mem_flatten.mpr ⟨p, hp, hc⟩
      refine ⟨?_, rfl, ?_⟩
      · simp only [okN]
        refine ⟨p3, by omega, (okNs_iff p).mpr fun c hc => ?_⟩
        obtain ⟨g, hg, rfl⟩ := List.mem_map.mp (hsub c hc)
        exact (itm_base h hm hg).1
      · simp only [dpN]
        have : dpNs p ≤ 2 * j + 2 := dpNs_le fun c hc => by
          obtain ⟨g, hg, rfl⟩ := List.mem_map.mp (hsub c hc)
          exact (itm_base h hm hg).2.1
        omega
    · unfold upN
      rw [szNs_blks, prts_flat hR, sz_itms]
      exact h.sz
    · unfold upN
      rw [List.length_map]
      have h1 := prts_half hR (by omega)
      have h2 := itms_len ns
      have h3 := h.len
      have h4 : 2 * (prts (itms ns)).length * 2 ^ j ≤ ns.length * 2 ^ j := Nat.mul_le_mul_right _ (by omega)
      rw [Nat.pow_succ]
      calc (prts (itms ns)).length * (2 ^ j * 2) = 2 * (prts (itms ns)).length * 2 ^ j := by
            rw [Nat.mul_comm (2 ^ j) 2, ← Nat.mul_assoc, Nat.mul_comm (prts (itms ns)).length 2]
        _ ≤ _ := Nat.le_trans h4 h3
  · exact ⟨by simp, by simp [szNs], by simp⟩
end Law
namespace Law
open PySem L2 ML
def m_law_contents : MF := mFn 9 2 (mSeq (mSet 2 (mLc (mRng (mCons (mBin addA (mC (.int 1)) (mCall m_law_draw (mCons (mVar 0) (mCons (mC (.int 5)) mNil)))) mNil)) (.one 4) [4] mYes (mCall m_law_element (mCons (mVar 0) mNil))))
    (mSeq (mSet 3 (mLst mNil))
    (mSeq (mFor (mRng (mCons (mCall m_law_draw (mCons (mVar 0) (mCons (mC (.int 10)) mNil))) mNil)) (.one 4) (mSeq (mSet 5 (mCall m_law_draw (mCons (mVar 0) (mCons (mC (.int 5)) mNil))))
    (mIfS (mGB (mBin eqA (mVar 5) (mC (.int 0)))) (mSet 3 (mBin addA (mVar 3) (mBin mulA (mLst (mCons (mBin ixA (mVar 2) (mCall m_law_draw (mCons (mVar 0) (mCons (mCa lenA (mCons (mVar 2) mNil)) mNil)))) mNil)) (mBin addA (mC (.int 1)) (mCall m_law_draw (mCons (mVar 0) (mCons (mC (.int 9)) mNil))))))) (mIfS (mGB (mBin eqA (mVar 5) (mC (.int 1)))) (mSeq (mSet 6 (mCall m_law_draw (mCons (mVar 0) (mCons (mC (.int 30)) mNil))))
    (mSet 3 (mBin addA (mVar 3) (mLc (mRng (mCons (mBin addA (mC (.int 1)) (mCall m_law_draw (mCons (mVar 0) (mCons (mC (.int 14)) mNil)))) mNil)) (.one 8) [8] mYes (mBin addA (mVar 6) (mVar 8)))))) (mIfS (mGB (mBin eqA (mVar 5) (mC (.int 2)))) (mSeq (mSet 7 (mCall m_law_draw (mCons (mVar 0) (mCons (mBin addA (mCa lenA (mCons (mVar 3) mNil)) (mC (.int 1))) mNil))))
    (mSet 3 (mBin addA (mVar 3) (mSl (mVar 3) (mPart (mVar 7)) (mPart (mBin addA (mBin addA (mVar 7) (mC (.int 1))) (mCall m_law_draw (mCons (mVar 0) (mCons (mC (.int 20)) mNil))))))))) (mIfS (mGB (mBin eqA (mVar 5) (mC (.int 3)))) (mSet 3 (mBin addA (mVar 3) (mBin mulA (mBin addA (mSl (mVar 3) (mPart (mUn negA (mC (.int 2)))) mNoPart) (mLst (mCons (mBin ixA (mVar 2) (mCall m_law_draw (mCons (mVar 0) (mCons (mCa lenA (mCons (mVar 2) mNil)) mNil)))) mNil))) (mBin addA (mC (.int 1)) (mCall m_law_draw (mCons (mVar 0) (mCons (mC (.int 6)) mNil))))))) (mSet 3 (mBin addA (mVar 3) (mLc (mRng (mCons (mBin addA (mC (.int 1)) (mCall m_law_draw (mCons (mVar 0) (mCons (mC (.int 6)) mNil)))) mNil)) (.one 8) [8] mYes (mBin ixA (mVar 2) (mCall m_law_draw (mCons (mVar 0) (mCons (mCa lenA (mCons (mVar 2) mNil)) mNil)))))))))))))
    (mRet (mSl (mVar 3) mNoPart (mPart (mVar 1)))))))
theorem pick23_wp {q : Nat} {ps : List A} {st : Store} {Q : A → Store → Prop} (t : TpOk st) (hq : 1 < q) (hp : stL st q = some ps) (he : ∀ x ∈ ps, El x) (h1 : 1 ≤ ps.length) (h2 : ps.length ≤ 1000) (k : ∀ (x : A) st', El x → TpOk st' → Kp st st' → Q x st') :
    (m_law_draw [.ref 1, .int ps.length] st).wp fun a st1 => (ixA (.ref q) a st1).wp Q := by
  refine draw_wp t (by omega) fun n st1 na nb t1 k1 l1 => ?_
  rw [w_ixL]
  have hn : n.toNat < ps.length := by omega
  refine ⟨ps, k1.stL hq hp, ps[n.toNat], ?_, k _ _ (he _ (List.getElem_mem hn)) t1 k1⟩
  rw [atI_nn na]
  exact List.getElem?_eq_getElem hn
def Ct23I (most : Int) (q : Nat) (ps : List A) (st0 : Store) (i : Nat) (ρ : ML.Env) (st : Store) : Prop := ∃ (w : Nat) (xs : List A) (v4 v5 v6 v7 : Option A), TpOk st ∧ Kp st0 st ∧ stL st q = some ps ∧ st0.length ≤ w ∧ stL st w = some xs ∧ (∀ x ∈ xs, El x) ∧ xs.length ≤ 20 * i ∧ ρ = [some (.ref 1), some (.int most), some (.ref q), some (.ref w), v4, v5, v6, v7, none]
theorem mem_rep23 {x : A} {xs : List A} {n : Nat} (h : x ∈ (List.replicate n xs).flatten) : x ∈ xs := by
  rw [List.mem_flatten] at h
  obtain ⟨l, h1, h2⟩ := h
  rw [List.mem_replicate] at h1
  rw [h1.2] at h2
  exact h2
theorem cut_mem23 {x : A} {xs : List A} {lo hi : Option Int} (h : x ∈ cutA xs lo hi) : x ∈ xs := by
  unfold cutA at h
  exact List.mem_of_mem_drop (List.mem_of_mem_take h)
theorem cut_le23 {xs : List A} {lo hi : Option Int} : (cutA xs lo hi).length ≤ xs.length := by
  unfold cutA
  simp
  omega
theorem conts_wp {most : Int} {st : Store} {Q : A → Store → Prop} (t : TpOk st) (h0 : 0 ≤ most) (h1 : most ≤ 100000) (k : ∀ (r : Nat) (xs : List A) st', (∀ x ∈ xs, El x) → xs.length ≤ most.toNat → xs.length ≤ 200 → TpOk st' → Kp st st' → st.length ≤ r → stL st' r = some xs → Q (.ref r) st') : (m_law_contents [.ref 1, .int most] st).wp Q := by
  simp only [m_law_contents]
  rw [wp_fn]
  refine ⟨rfl, ?_⟩
  simp only [List.map_cons, List.map_nil, List.cons_append, List.nil_append, List.replicate, Nat.reduceSub]
  have hlen := t.len
  generalize hF : @mFor = F
  generalize hM : @mulA = M
  generalize hL : @mLc = L
  refine seq_cut (fun ρ st' => ∃ q ps, TpOk st' ∧ Kp st st' ∧ st.length ≤ q ∧ stL st' q = some ps ∧ (∀ x ∈ ps, El x) ∧ 1 ≤ ps.length ∧ ps.length ≤ 6 ∧ ρ = [some (.ref 1), some (.int most), some (.ref q), none, none, none, none, none, none]) ?_ ?_
  · subst hL
    simp only [sp_set, wp_lc, wp_rng, wp_bin, wp_call, wp_cons, wp_nil, wp_var, wp_c, List.getElem?_cons_succ, List.getElem?_cons_zero, Option.some.injEq, ex_eq, List.set_cons_zero, List.set_cons_succ, wipeA_cons, wipeA_nil]
    refine draw_wp t (by decide) fun n st1 na nb t1 k1 l1 => ?_
    rw [w_add, w_rng1]
    refine ⟨by omega, ?_⟩
    refine lc_rng (fun j st' acc => TpOk st' ∧ Kp st st' ∧ acc.length = j ∧ ∀ x ∈ acc, El x) ⟨t1, k1, rfl, by simp⟩ ?_ ?_
    · rintro j st' acc hj ⟨t', k', l', a'⟩
      refine ⟨_, rfl, ?_⟩
      simp only [wp_yes, if_true, wp_call, wp_cons, wp_nil, wp_var, List.set_cons_zero, List.set_cons_succ, List.getElem?_cons_succ, List.getElem?_cons_zero, Option.some.injEq, ex_eq]
      refine element_wp t' fun x st2 hx t2 k2 => ⟨by rw [size_eq]; omega, t2, k'.trans k2, by simp [l'], ?_⟩
      intro y hy
      rcases List.mem_append.mp hy with h | h
      · exact a' y h
      · simp at h
        subst h
        exact hx
    · rintro st' acc ⟨t', k', l', a'⟩
      exact ⟨st'.length, acc, t'.grown (.one _ _), k'.trans (Kp.grown (.one _ _)), k'.len, stL_new, a', by omega, by omega, rfl⟩
  rintro ρ st1 ⟨q, ps, t1, k1, q1, hq, pe, p1, p2, rfl⟩
  refine seq_cut (Ct23I most q ps st 0) ?_ ?_
  · simp only [sp_set, wp_lst, wp_nil, List.set_cons_zero, List.set_cons_succ]
    refine ⟨by simp [sizeLine], st1.length, [], none, none, none, none, t1.grown (.one _ _), k1.trans (Kp.grown (.one _ _)), Grown.stL (.one _ _) hq, k1.len, stL_new, by simp, by simp, rfl⟩
  rintro ρ st2 ⟨w, xs, v4, v5, v6, v7, t2, k2, hq2, w2, hw2, xe, xl, rfl⟩
  have q0 : 1 < q := by omega
  refine seq_cut (Ct23I most q ps st 9) ?_ ?_
  · subst hF
    simp only [sp_for, wp_rng, wp_call, wp_cons, wp_nil, wp_var, wp_c, List.getElem?_cons_succ, List.getElem?_cons_zero, Option.some.injEq, ex_eq]
    refine draw_wp t2 (by decide) fun n st3 na nb t3 k3 l3 => ?_
    rw [w_rng1]
    refine ⟨by omega, ?_⟩
    refine for_rng (Ct23I most q ps st) ⟨w, xs, v4, v5, v6, v7, t3, k2.trans k3, k3.stL q0 hq2, w2, k3.stL (by omega) hw2, xe, by omega, rfl⟩ ?_ ?_
    · rintro i ρ st4 hi ⟨w, xs, v4, v5, v6, v7, t4, k4, hq4, w4, hw4, xe, xl, rfl⟩
      refine ⟨_, rfl, ?_⟩
      simp only [List.set_cons_succ, List.set_cons_zero]
      have w0 : 1 < w := by omega
      have fin : ∀ (ys : List A) (st5 : Store) (v4 v5 v6 v7 : Option A) (w5 : Nat), TpOk st5 → Kp st4 st5 → (∀ y ∈ ys, El y) → ys.length ≤ 20 → Ct23I most q ps st (i + 1) [some (.ref 1), some (.int most), some (.ref q), some (.ref st5.length), v4, v5, v6, v7, none] (st5 ++ [.lst (xs ++ ys)]) := fun ys st5 v4 v5 v6 v7 w5 t5 k5 ye yl => by
        refine ⟨st5.length, xs ++ ys, v4, v5, v6, v7, t5.grown (.one _ _), (k4.trans k5).trans (Kp.grown (.one _ _)), Grown.stL (.one _ _) (k5.stL q0 hq4), (k4.trans k5).len, stL_new, ?_, ?_, rfl⟩
        · intro y hy
          rcases List.mem_append.mp hy with h | h
          · exact xe y h
          · exact ye y h
        · simp
          omega
      refine seq_cut (fun ρ st5 => ∃ c : Int, TpOk st5 ∧ Kp st4 st5 ∧ ρ = [some (.ref 1), some (.int most), some (.ref q), some (.ref w), some (.int (0 + (i : Int))), some (.int c), v6, v7, none]) ?_ ?_
      · simp only [sp_set, wp_call, wp_cons, wp_nil, wp_var, wp_c, List.getElem?_cons_succ, List.getElem?_cons_zero, Option.some.injEq, ex_eq, List.set_cons_zero, List.set_cons_succ]
        exact draw_wp t4 (by decide) fun c st5 ca cb t5 k5 l5 => ⟨c, t5, k5, rfl⟩
      rintro ρ st5 ⟨c, t5, k5, rfl⟩
      have hq5 := k5.stL q0 hq4
      have hw5 := k5.stL w0 hw4
      have hl5 := k5.len
      subst hM
      subst hL
      simp only [sp_ifs, wp_gb, wp_bin, wp_var, wp_c, List.getElem?_cons_succ, List.getElem?_cons_zero, Option.some.injEq, ex_eq, w_eq, w_getB, decide_eq_true_eq]
      by_cases c0 : c = 0
      · rw [if_pos c0]
        simp only [sp_set, wp_bin, wp_lst, wp_call, wp_ca, wp_cons, wp_nil, wp_var, wp_c, List.getElem?_cons_succ, List.getElem?_cons_zero, Option.some.injEq, ex_eq, List.set_cons_zero, List.set_cons_succ, w_lenL, hq5]
        refine pick23_wp t5 q0 hq5 pe p1 (by omega) fun x st6 hx t6 k6 => ?_
        refine ⟨by simp [sizeLine], ?_⟩
        have g7 : Grown st6 (st6 ++ [.lst [x]]) := .one _ _
        refine draw_wp (t6.grown g7) (by decide) fun m st8 ma mb t8 k8 l8 => ?_
        have z8 : stL st8 st6.length = some [x] := k8.stL (by have := t6.len; omega) stL_new
        have hw8 := k8.stL w0 (g7.stL (k6.stL w0 hw5))
        rw [w_add, w_mulL, z8]
        refine ⟨_, rfl, ⟨by omega, by omega, by rw [size_eq]; simp; omega⟩, ?_⟩
        rw [w_addL, stL_new]
        refine ⟨xs, Grown.stL (.one _ _) hw8, _, rfl, by rw [size_eq]; simp; omega, ?_⟩
        refine fin _ _ _ _ _ _ 0 (t8.grown (.one _ _)) (((k5.trans k6).trans (Kp.grown g7)).trans (k8.trans (Kp.grown (.one _ _)))) ?_ (by simp; omega)
        intro y hy
        have := mem_rep23 hy
        simp at this
        subst this
        exact hx
      · rw [if_neg c0]
        by_cases c1 : c = 1
        · rw [if_pos c1]
          simp only [sp_seq, sp_set, wp_bin, wp_lst, wp_call, wp_ca, wp_cons, wp_nil, wp_var, wp_c, wp_lc, wp_rng, List.getElem?_cons_succ, List.getElem?_cons_zero, Option.some.injEq, ex_eq, List.set_cons_zero, List.set_cons_succ, wipeA_cons, wipeA_nil]
          refine draw_wp t5 (by decide) fun s st6 sa sb t6 k6 l6 => ?_
          refine draw_wp t6 (by decide) fun m st7 ma mb t7 k7 l7 => ?_
          rw [w_add, w_rng1]
          refine ⟨by omega, ?_⟩
          refine lc_rng (fun j st' acc => st' = st7 ∧ acc.length = j ∧ ∀ x ∈ acc, El x) ⟨rfl, rfl, by simp⟩ ?_ ?_
          · rintro j st' acc hj ⟨rfl, l', a'⟩
            refine ⟨_, rfl, ?_⟩
            simp only [wp_yes, if_true, wp_bin, wp_var, List.set_cons_zero, List.set_cons_succ, List.getElem?_cons_succ, List.getElem?_cons_zero, Option.some.injEq, ex_eq, w_add]
            refine ⟨by rw [size_eq]; omega, trivial, by simp [l'], ?_⟩
            intro y hy
            rcases List.mem_append.mp hy with h | h
            · exact a' y h
            · simp at h
              subst h
              exact .inl (.inr ⟨_, rfl, by omega, by omega⟩)
          · rintro st' acc ⟨rfl, l', a'⟩
            have hw7 := k7.stL w0 (k6.stL w0 hw5)
            rw [w_addL, stL_new]
            refine ⟨xs, Grown.stL (.one _ _) hw7, _, rfl, by rw [size_eq]; omega, ?_⟩
            exact fin _ _ _ _ _ _ 0 (t7.grown (.one _ _)) (((k5.trans k6).trans k7).trans (Kp.grown (.one _ _))) a' (by omega)
        · rw [if_neg c1]
          by_cases c2 : c = 2
          · rw [if_pos c2]
            simp only [sp_seq, sp_set, wp_bin, wp_sl, wp_part, wp_call, wp_ca, wp_cons, wp_nil, wp_var, wp_c, List.getElem?_cons_succ, List.getElem?_cons_zero, Option.some.injEq, ex_eq, List.set_cons_zero, List.set_cons_succ, w_lenL, hw5, w_add]
            refine draw_wp t5 (by omega) fun s st6 sa sb t6 k6 l6 => ?_
            simp only [w_getI]
            refine draw_wp t6 (by decide) fun m st7 ma mb t7 k7 l7 => ?_
            have hw7 := k7.stL w0 (k6.stL w0 hw5)
            simp only [w_add, w_getI, w_slL, hw7, Option.some.injEq, ex_eq]
            rw [w_addL, stL_new]
            have cl : (cutA xs (some s) (some (s + 1 + m))).length ≤ 20 := by
              have n1 : ¬ s < 0 := by omega
              have n2 : ¬ s + 1 + m < 0 := by omega
              unfold cutA
              simp [HT.sIx, n1, n2]
              omega
            refine ⟨xs, Grown.stL (.one _ _) hw7, _, rfl, by rw [size_eq]; omega, ?_⟩
            exact fin _ _ _ _ _ _ 0 (t7.grown (.one _ _)) (((k5.trans k6).trans k7).trans (Kp.grown (.one _ _))) (fun y hy => xe y (cut_mem23 hy)) cl
          · rw [if_neg c2]
            by_cases c3 : c = 3
            · rw [if_pos c3]
              simp only [sp_set, wp_bin, wp_un, wp_sl, wp_part, wp_noPart, wp_lst, wp_call, wp_ca, wp_cons, wp_nil, wp_var, wp_c, List.getElem?_cons_succ, List.getElem?_cons_zero, Option.some.injEq, ex_eq, List.set_cons_zero, List.set_cons_succ, w_neg, w_getI, w_slL, hw5]
              obtain ⟨s6, e6⟩ : ∃ s : Store, s = st5 ++ [.lst (cutA xs (some (-2)) none)] := ⟨_, rfl⟩
              have g6 : Grown st5 s6 := e6 ▸ .one _ _
              have z6 : stL s6 st5.length = some (cutA xs (some (-2)) none) := e6 ▸ stL_new
              rw [← e6]
              have hq6 := g6.stL hq5
              simp only [w_lenL, hq6, Option.some.injEq, ex_eq]
              have cl : (cutA xs (some (-2)) none).length ≤ 2 := by
                unfold cutA
                simp [HT.sIx]
                omega
              refine pick23_wp (t5.grown g6) q0 hq6 pe p1 (by omega) fun x st7 hx t7 k7 => ?_
              refine ⟨by simp [sizeLine], ?_⟩
              have g8 : Grown st7 (st7 ++ [.lst [x]]) := .one _ _
              have z8 := g8.stL (k7.stL (by have := t5.len; omega) z6)
              rw [w_addL, z8, stL_new]
              refine ⟨_, rfl, _, rfl, by rw [size_eq]; simp; omega, ?_⟩
              obtain ⟨s9, e9⟩ : ∃ s : Store, s = st7 ++ [.lst [x]] ++ [.lst (cutA xs (some (-2)) none ++ [x])] := ⟨_, rfl⟩
              have g9 : Grown (st7 ++ [.lst [x]]) s9 := e9 ▸ .one _ _
              have z9 : stL s9 (st7 ++ [Ob.lst [x]]).length = some (cutA xs (some (-2)) none ++ [x]) := e9 ▸ stL_new
              rw [← e9]
              have n9 : 1 < (st7 ++ [Ob.lst [x]]).length := by have := t7.len; simp; omega
              refine draw_wp ((t7.grown g8).grown g9) (by decide) fun m st10 ma mb t10 k10 l10 => ?_
              have hw10 := k10.stL w0 (g9.stL (g8.stL (k7.stL w0 (g6.stL hw5))))
              rw [w_add, w_mulL, k10.stL n9 z9]
              refine ⟨_, rfl, ⟨by omega, by omega, ?_⟩, ?_⟩
              · rw [size_eq, List.length_append]
                have : (1 + m).toNat ≤ 6 := by omega
                have h3 : (cutA xs (some (-2)) none).length + [x].length ≤ 3 := by simp; omega
                have := Nat.mul_le_mul h3 this
                omega
              rw [w_addL, stL_new]
              have hlen3 : ((List.replicate (1 + m).toNat (cutA xs (some (-2)) none ++ [x])).flatten).length ≤ 18 := by
                have h6 : (1 + m).toNat ≤ 6 := by omega
                have h3 : (cutA xs (some (-2)) none ++ [x]).length ≤ 3 := by simp; omega
                rw [List.length_flatten, List.map_replicate, List.sum_replicate_nat]
                exact Nat.mul_le_mul h6 h3
              refine ⟨xs, Grown.stL (.one _ _) hw10, _, rfl, by rw [size_eq]; omega, ?_⟩
              refine fin _ _ _ _ _ _ 0 (t10.grown (.one _ _)) ((k5.trans (Kp.grown g6)).trans (k7.trans ((Kp.grown g8).trans ((Kp.grown g9).trans (k10.trans (Kp.grown (.one _ _))))))) ?_ (by omega)
              intro y hy
              have := mem_rep23 hy
              rcases List.mem_append.mp this with h | h
              · exact xe y (cut_mem23 h)
              · simp at h
                subst h
                exact hx
            · rw [if_neg c3]
              simp only [sp_set, wp_bin, wp_call, wp_ca, wp_cons, wp_nil, wp_var, wp_c, wp_lc, wp_rng, List.getElem?_cons_succ, List.getElem?_cons_zero, Option.some.injEq, ex_eq, List.set_cons_zero, List.set_cons_succ, wipeA_cons, wipeA_nil]
              refine draw_wp t5 (by decide) fun m st6 ma mb t6 k6 l6 => ?_
              rw [w_add, w_rng1]
              refine ⟨by omega, ?_⟩
              refine lc_rng (fun j st' acc => TpOk st' ∧ Kp st6 st' ∧ acc.length = j ∧ ∀ x ∈ acc, El x) ⟨t6, .refl _, rfl, by simp⟩ ?_ ?_
              · rintro j st' acc hj ⟨t', k', l', a'⟩
                refine ⟨_, rfl, ?_⟩
                have hq' := k'.stL q0 (k6.stL q0 hq5)
                simp only [wp_yes, if_true, wp_bin, wp_call, wp_ca, wp_cons, wp_nil, wp_var, List.set_cons_zero, List.set_cons_succ, List.getElem?_cons_succ, List.getElem?_cons_zero, Option.some.injEq, ex_eq, w_lenL, hq']
                refine pick23_wp t' q0 hq' pe p1 (by omega) fun x st7 hx t7 k7 => ?_
                refine ⟨by rw [size_eq]; omega, t7, k'.trans k7, by simp [l'], ?_⟩
                intro y hy
                rcases List.mem_append.mp hy with h | h
                · exact a' y h
                · simp at h
                  subst h
                  exact hx
              · rintro st' acc ⟨t', k', l', a'⟩
                have hw7 := k'.stL w0 (k6.stL w0 hw5)
                rw [w_addL, stL_new]
                refine ⟨xs, Grown.stL (.one _ _) hw7, _, rfl, by rw [size_eq]; omega, ?_⟩
                exact fin _ _ _ _ _ _ 0 (t'.grown (.one _ _)) (((k5.trans k6).trans k').trans (Kp.grown (.one _ _))) a' (by omega)
    · rintro ρ st4 ⟨w, xs, v4, v5, v6, v7, t4, k4, hq4, w4, hw4, xe, xl, rfl⟩
      exact ⟨w, xs, v4, v5, v6, v7, t4, k4, hq4, w4, hw4, xe, by omega, rfl⟩
  rintro ρ st3 ⟨w, xs, v4, v5, v6, v7, t3, k3, hq3, w3, hw3, xe, xl, rfl⟩
  simp only [sp_ret, wp_sl, wp_part, wp_noPart, wp_var, List.getElem?_cons_succ, List.getElem?_cons_zero, Option.some.injEq, ex_eq, w_getI, w_slL, hw3]
  have cl := cut_le23 (xs := xs) (lo := none) (hi := some most)
  have cm : (cutA xs none (some most)).length ≤ most.toNat := by
    have n1 : ¬ most < 0 := by omega
    unfold cutA
    simp [HT.sIx, n1]
    omega
  exact k _ _ _ (fun y hy => xe y (cut_mem23 hy)) cm (by omega) (t3.grown (.one _ _)) (k3.trans (Kp.grown (.one _ _))) k3.len stL_new
end Law
namespace Law
open PySem L2 ML
open Classical
structure AgrI (xs ys : List Nd) (L : Nat) : Prop where
  len : L + xs.length ≤ ys.length
  get : ∀ j, 1 ≤ j → j + 1 < xs.length → ys[L + j]? = xs[j]?
theorem AgrI.col {xs ys : List Nd} {L j : Nat} (h : AgrI xs ys L) (h6 : 6 ≤ j) (hj : j + 1 < xs.length) : (colsZ ys).getD (L + j) 0 = (colsZ xs).getD j 0 := by
  unfold colsZ
  rw [intsN_get, intsN_get]
  congr 1
  have := h.len
  refine col_loc (by omega) (by omega) (by omega) (by omega) fun t ht => ?_
  rw [show L + j - t = L + (j - t) by omega]
  exact h.get _ (by omega) (by omega)
end Law
namespace Law
open PySem L2 ML
open Classical
def RsOk (N : Nat) : Nat → List (Nat × Nat) → Prop
  | _, [] => True
  | p, r :: rs => p ≤ r.1 ∧ r.1 ≤ r.2 + 1 ∧ r.2 ≤ N ∧ RsOk N (r.2 + 1) rs
theorem RsOk.lo {N : Nat} : ∀ {rs : List (Nat × Nat)} {p : Nat}, RsOk N p rs → ∀ r ∈ rs, p ≤ r.1
  | [], _, _, _, h => by cases h
  | r :: rs, p, ⟨h1, h2, h3, h4⟩, q, hq => by
    rcases List.mem_cons.mp hq with z | z
    · rw [z]; exact h1
    · have := h4.lo q z
      omega
end Law
namespace Law
open PySem L2 ML
open Classical
noncomputable def numK (f : List Nd) (n : Nd) : NestedKey := .num (idx f n : Nat)
end Law
namespace Law
open PySem L2 ML
open Classical
structure Num (f : List Nd) (rn rf : Nat) (st : Store) : Prop where
  c : Clo f
  ok : ∀ m ∈ f, okN m
  d : stD st rn = some (numF f)
  l : stL st rf = some (f.map ndA)
  ne : rn ≠ rf
theorem Num.grown {f : List Nd} {rn rf : Nat} {st st' : Store} (h : Num f rn rf st) (g : Grown st st') : Num f rn rf st' := ⟨h.c, h.ok, Grown.stD g h.d, g.stL h.l, h.ne⟩
end Law
namespace Law
open PySem L2 ML
open Classical
def keysN {α : Type} (F : List (Nd × α)) : List Nd := F.map (·.1)
end Law
namespace Law
open PySem L2 ML
open Classical
def intV (p : Nd × Nat) : A := .int (p.2 : Nat)
structure PlS (T : List Nd) (P : List (Nd × Nat)) (rs rp : Nat) (st : Store) : Prop where
  d : ML.stD st rp = some (P.map fun p => (numK T p.1, intV p))
  s : stL st rs = some (T.map szA)
  i : ∀ p ∈ P, p.1 ∈ T
  n : (keysN P).Nodup
theorem PlS.ne {T P rs rp st} (h : PlS T P rs rp st) : rs ≠ rp := fun e => by
  have h1 := stL_eq h.s
  have h2 := stD_eq h.d
  rw [e, h2] at h1
  cases h1
end Law
namespace Law
open PySem L2 ML
open Classical
abbrev BP := Nd × (Nat × Nat)
def cpV (p : BP) : A := .tup [.int (p.2.1 : Nat), .int (p.2.2 : Nat), .int ((p.2.2 + szN p.1 : Nat) : Int)]
end Law
namespace Law
open PySem L2 ML
open Classical
noncomputable def lkp (F : List BP) (n : Nd) : Option BP := F.find? fun p => decide (p.1 = n)
noncomputable def insI (F : List BP) (M : List Nd) (n : Nd) : A := match lkp F n with
  | some p => .tup [.str "copy", .int (p.2.1 : Nat), .int (p.2.2 : Nat), .int ((p.2.2 + szN p.1 : Nat) : Int)]
  | none => match n with
    | .leaf e => .tup [.str "literal", e]
    | .run b t => .tup [.str "repeat", .int (idx M b : Nat), .int (t : Nat)]
    | .blk cs => .tup [.str "concat", .tup (cs.map fun c => .int (idx M c : Nat))]
def MkC (F : List BP) (M : List Nd) : Prop := ∀ m ∈ M, m ∉ keysN F → ∀ c ∈ kids m, c ∈ M
structure MkS (f : List Nd) (F : List BP) (T M : List Nd) (rn rf rm rr : Nat) (st : Store) : Prop where
  d : ML.stD st rm = some (numG (numK f) 0 M)
  l : stL st rr = some (M.map (insI F M))
  fo : ML.stD st rf = some (F.map fun p => (numK f p.1, cpV p))
  nu : stL st rn = some (T.map (numA f))
  s : ∀ m ∈ M, m ∈ f
  c : MkC F M
  u : M.Nodup
  ne : rm ≠ rf ∧ rr ≠ rn ∧ rm ≠ rr ∧ rm ≠ rn ∧ rr ≠ rf
structure MkA (f : List Nd) (F : List BP) (T M : List Nd) (nd : Nd) (rn rf rm rr : Nat) (st : Store) : Prop where
  d : ML.stD st rm = some (numG (numK f) 0 M)
  l : stL st rr = some (M.map (insI F M) ++ [insI F M nd])
  fo : ML.stD st rf = some (F.map fun p => (numK f p.1, cpV p))
  nu : stL st rn = some (T.map (numA f))
  s : ∀ m ∈ M, m ∈ f
  c : MkC F M
  u : M.Nodup
  ne : rm ≠ rf ∧ rr ≠ rn ∧ rm ≠ rr ∧ rm ≠ rn ∧ rr ≠ rf
theorem MkS.app {f F T M rn rf rm rr st} {nd : Nd} (S : MkS f F T M rn rf rm rr st) : MkA f F T M nd rn rf rm rr (st.set rr (.lst (M.map (insI F M) ++ [insI F M nd]))) := by
  obtain ⟨n1, n2, n3, n4, n5⟩ := S.ne
  refine ⟨?_, stL_set_self S.l, ?_, ?_, S.s, S.c, S.u, S.ne⟩
  · rw [stD_set_ne (Ne.symm n3)]; exact S.d
  · rw [stD_set_ne n5]; exact S.fo
  · rw [stL_set_ne' n2]; exact S.nu
theorem MkS.grown {f F T M rn rf rm rr st st'} (S : MkS f F T M rn rf rm rr st) (g : Grown st st') : MkS f F T M rn rf rm rr st' := ⟨Grown.stD g S.d, g.stL S.l, Grown.stD g S.fo, g.stL S.nu, S.s, S.c, S.u, S.ne⟩
end Law
namespace ML
open PySem PySem.Spec L2 PyProof.Rows
section
variable {P : Program} {w : World} {K : PySem.W.Frag} {mg : Str → Option Value} {base : Heap} {cls m qual : Str}
theorem CalM.cast {j k : Nat} {mf : MF} (e : j = k) (C : CalM P w K mg base cls m j mf) : CalM P w K mg base cls m k mf := e ▸ C
end
end ML
namespace Law
open PySem L2 ML
open Classical
def bpV (p : BP) : A := .tup [.int (p.2.1 : Nat), .int (p.2.2 : Nat)]
structure PnS (f : List Nd) (F : List BP) (t rp : Nat) (st : Store) : Prop where
  tb : Tab f t st
  d : ML.stD st rp = some (F.map fun p => (numK f p.1, bpV p))
  i : ∀ p ∈ F, p.1 ∈ f
  n : (keysN F).Nodup
  r : rp < t ∨ t + 4 < rp
def rmFs (t rp rr ri : Nat) : List (Str × A) := [("table", .ref t), ("places", .ref rp), ("recipe", .ref rr), ("indices", .ref ri)]
@[simp] theorem rm_tab (t rp rr ri : Nat) : List.lookup ("table" : Str) (rmFs t rp rr ri) = some (.ref t) := rfl
@[simp] theorem rm_pla (t rp rr ri : Nat) : List.lookup ("places" : Str) (rmFs t rp rr ri) = some (.ref rp) := rfl
@[simp] theorem rm_rec (t rp rr ri : Nat) : List.lookup ("recipe" : Str) (rmFs t rp rr ri) = some (.ref rr) := rfl
@[simp] theorem rm_ind (t rp rr ri : Nat) : List.lookup ("indices" : Str) (rmFs t rp rr ri) = some (.ref ri) := rfl
@[simp] theorem rm_vis (t rp rr ri : Nat) : List.lookup ("visit" : Str) (rmFs t rp rr ri) = none := rfl
@[simp] theorem rm_ins (t rp rr ri : Nat) : List.lookup ("instruction_for" : Str) (rmFs t rp rr ri) = none := rfl
@[simp] theorem rm_vit (t rp rr ri : Nat) : List.lookup ("visit_tree" : Str) (rmFs t rp rr ri) = none := rfl
structure ReS (f : List Nd) (F : List BP) (M : List Nd) (t rp rm rr ri : Nat) (st : Store) : Prop where
  p : PnS f F t rp st
  i : st[rm]? = some (.oth (.ins "RecipeMaker" (rmFs t rp rr ri)))
  l : stL st rr = some (M.map (insI F M))
  d : ML.stD st ri = some (numG (numK f) 0 M)
  s : ∀ m ∈ M, m ∈ f
  c : MkC F M
  u : M.Nodup
  ne : (t + 4 < rr ∧ t + 4 < ri) ∧ rr ≠ rp ∧ ri ≠ rp ∧ rr ≠ rm ∧ ri ≠ rm ∧ rr ≠ ri
theorem PnS.set {f F t rp st} {r : Nat} {o : Ob} (h : PnS f F t rp st) (hr : t + 4 < r) (h2 : r ≠ rp) : PnS f F t rp (st.set r o) := ⟨h.tb.set (.inr hr), by rw [stD_set_ne h2]; exact h.d, h.i, h.n, h.r⟩
theorem PnS.grown {f F t rp st st'} (h : PnS f F t rp st) (g : Grown st st') : PnS f F t rp st' := ⟨h.tb.grown g, Grown.stD g h.d, h.i, h.n, h.r⟩
theorem ReS.grown {f F M t rp rm rr ri st st'} (h : ReS f F M t rp rm rr ri st) (g : Grown st st') : ReS f F M t rp rm rr ri st' := ⟨h.p.grown g, g.get h.i, g.stL h.l, Grown.stD g h.d, h.s, h.c, h.u, h.ne⟩
end Law
namespace Law
open PySem L2 ML
def m_law_given : MF := mFn 2 1 (mRet (mCa tupleA (mCons (mLc (mSrc (mVar 0)) (.one 1) [1] mYes (mCa tupleA (mCons (mVar 1) mNil))) mNil)))
def bAt (Bs : List (List A)) (b : Int) : List A := Bs.getD b.toNat []
def BsL (Bs : List (List A)) (rs : List A) (st : Store) : Prop := rs.length = Bs.length ∧ ∀ (i : Nat) (x : A), rs[i]? = some x → ∃ r : Nat, x = A.ref r ∧ stL st r = Bs[i]?
theorem BsL.grown {Bs : List (List A)} {rs : List A} {st st' : Store} (h : BsL Bs rs st) (g : Grown st st') : BsL Bs rs st' := ⟨h.1, fun i x e => by
  obtain ⟨r, h1, h2⟩ := h.2 i x e
  have hi := (List.getElem?_eq_some_iff.mp e).1
  rw [h.1] at hi
  refine ⟨r, h1, ?_⟩
  rw [List.getElem?_eq_getElem hi] at h2 ⊢
  exact g.stL h2⟩
theorem BsL.at {Bs : List (List A)} {rs : List A} {st : Store} (h : BsL Bs rs st) {b : Int} (b0 : 0 ≤ b) (b1 : b < (Bs.length : Int)) : ∃ r : Nat, atI rs b = some (.ref r) ∧ stL st r = some (bAt Bs b) := by
  have hr := h.1
  have hlt : b.toNat < rs.length := by omega
  obtain ⟨r, hx, hs⟩ := h.2 b.toNat _ (List.getElem?_eq_getElem hlt)
  refine ⟨r, ?_, ?_⟩
  · rw [atI_nn b0, List.getElem?_eq_getElem hlt, hx]
  · rw [hs]
    unfold bAt
    rw [List.getD_eq_getElem?_getD, List.getElem?_eq_getElem (by omega)]
    rfl
def Refs1 (rs : List A) : Prop := ∀ (i r : Nat), rs[i]? = some (.ref r) → 1 < r
theorem BsL.kp {Bs : List (List A)} {rs : List A} {st st' : Store} (h : BsL Bs rs st) (h1 : Refs1 rs) (g : Kp st st') : BsL Bs rs st' := ⟨h.1, fun i x e => by
  obtain ⟨r, q1, q2⟩ := h.2 i x e
  have hi := (List.getElem?_eq_some_iff.mp e).1
  rw [h.1] at hi
  refine ⟨r, q1, ?_⟩
  subst q1
  have hr := h1 i r e
  rw [List.getElem?_eq_getElem hi] at q2 ⊢
  exact g.stL hr q2⟩
theorem given_wp {Bs : List (List A)} {rs : List A} {rb : Nat} {st : Store} {Q : A → Store → Prop} (hB : BsL Bs rs st) (hb : stL st rb = some rs) (hn : Bs.length ≤ 1000) (k : ∀ st', Grown st st' → Q (.tup (Bs.map A.tup)) st') : (m_law_given [.ref rb] st).wp Q := by
  simp only [m_law_given]
  rw [wp_fn]
  refine ⟨rfl, ?_⟩
  simp only [List.map_cons, List.map_nil, List.cons_append, List.nil_append, List.replicate, Nat.reduceSub, sp_ret, wp_ca, wp_cons, wp_nil, wp_lc, wp_src, wp_var, List.getElem?_cons_zero, Option.some.injEq, ex_eq, w_srcL, hb, Option.isSome_some, wipeA_cons, wipeA_nil]
  refine ⟨trivial, ?_⟩
  refine lc_lst (fun i st' acc => st' = st ∧ acc = (Bs.take i).map A.tup) hb ⟨rfl, by simp⟩ (fun i st' acc q => by rw [q.1]; exact hb) ?_ ?_
  · rintro i x st' acc hx ⟨rfl, rfl⟩
    refine ⟨_, rfl, ?_⟩
    obtain ⟨r, rfl, hs⟩ := hB.2 i x hx
    have hi := (List.getElem?_eq_some_iff.mp hx).1
    rw [hB.1] at hi
    rw [List.getElem?_eq_getElem hi] at hs
    simp only [wp_yes, if_true, wp_ca, wp_cons, wp_nil, wp_var, List.set_cons_zero, List.set_cons_succ, List.getElem?_cons_succ, List.getElem?_cons_zero, Option.some.injEq, ex_eq, w_tupL, hs]
    refine ⟨by rw [size_eq]; simp; omega, trivial, ?_⟩
    rw [List.take_add_one, List.getElem?_eq_getElem hi, List.map_append]
    rfl
  · rintro st' acc ⟨rfl, rfl⟩
    rw [w_tupL, stL_new]
    refine ⟨_, rfl, ?_⟩
    rw [hB.1, List.take_length]
    exact k _ (.one _ _)
theorem BsL.snoc {Bs : List (List A)} {rs : List A} {st : Store} {B : List A} {r : Nat} (h : BsL Bs rs st) (hr : stL st r = some B) : BsL (Bs ++ [B]) (rs ++ [.ref r]) st := by
  refine ⟨by simp [h.1], fun i x e => ?_⟩
  by_cases c : i < rs.length
  · rw [List.getElem?_append_left c] at e
    obtain ⟨q, e1, e2⟩ := h.2 i x e
    exact ⟨q, e1, by rw [List.getElem?_append_left (by rw [← h.1]; exact c)]; exact e2⟩
  · rw [List.getElem?_append_right (by omega)] at e
    have hi : i - rs.length = 0 := by
      have := (List.getElem?_eq_some_iff.mp e).1
      simp at this
      omega
    rw [hi] at e
    simp at e
    refine ⟨r, e.symm, ?_⟩
    rw [hr, List.getElem?_append_right (by rw [← h.1]; omega), ← h.1, hi]
    rfl
theorem Refs1.snoc {rs : List A} {r : Nat} (h : Refs1 rs) (hr : 1 < r) : Refs1 (rs ++ [.ref r]) := fun i q e => by
  have hm := List.mem_of_getElem? e
  rcases List.mem_append.mp hm with z | z
  · obtain ⟨j, hj, z⟩ := List.getElem_of_mem z
    exact h j q (by rw [List.getElem?_eq_getElem hj, z])
  · simp at z
    omega
structure BaI (N : Nat) (Bs : List (List A)) (rs : List A) (rb : Nat) (st : Store) : Prop where
  b : BsL Bs rs st
  r1 : Refs1 rs
  l : stL st rb = some rs
  rb1 : 1 < rb
  n : Bs.length ≤ N
  m : ∀ B ∈ Bs, B.length ≤ 700 ∧ ∀ x ∈ B, El x
theorem BaI.kp {N : Nat} {Bs : List (List A)} {rs : List A} {rb : Nat} {st st' : Store} (h : BaI N Bs rs rb st) (g : Kp st st') : BaI N Bs rs rb st' := ⟨h.b.kp h.r1 g, h.r1, g.stL h.rb1 h.l, h.rb1, h.n, h.m⟩
theorem BaI.bl {N : Nat} {Bs : List (List A)} {rs : List A} {rb : Nat} {st : Store} (h : BaI N Bs rs rb st) (b : Int) : (bAt Bs b).length ≤ 700 ∧ ∀ x ∈ bAt Bs b, El x := by
  unfold bAt
  rw [List.getD_eq_getElem?_getD]
  cases e : Bs[b.toNat]? with
  | none => simp
  | some B => exact h.m B (List.mem_of_getElem? e)
theorem tp_set25 {st : Store} {r : Nat} {o : Ob} (t : TpOk st) (h : 1 < r) : TpOk (st.set r o) := by
  obtain ⟨ns, p, q, s, h0, h1, h2⟩ := t.ex
  exact ⟨ns, p, q, s, h0, by rw [List.getElem?_set_ne (by omega)]; exact h1, by rw [List.getElem?_set_ne (by omega)]; exact h2⟩
@[simp] theorem wp_enumT {ms : MA} {ρ : ML.Env} {st : Store} {QS : Src → Store → Prop} : (mEnumT ms ρ st).wp QS ↔ (ms ρ st).wp fun xs st1 => (enumT xs st1).wp QS := by
  unfold mEnumT
  rw [wp_bind]
@[simp] theorem w_enumT {xs : List A} {st : Store} {QS : Src → Store → Prop} : (enumT [.tup xs] st).wp QS ↔ QS (.zipv (cntA xs.length) xs) st := Iff.rfl
theorem cutl_wp {r : Nat} {xs : List A} {lo hi : Option Int} {st : Store} {Q : A → Store → Prop} (hr : stL st r = some xs) (k : Q (.ref st.length) (st ++ [.lst (cutA xs lo hi)])) : (slA (.ref r) lo hi st).wp Q := by
  rw [w_slL]
  exact ⟨_, hr, k⟩
theorem cut_to {xs : List A} {m : Int} (h0 : 0 ≤ m) : cutA xs none (some m) = xs.take m.toNat := by
  unfold cutA
  have n1 : ¬ m < 0 := by omega
  simp [HT.sIx, n1]
theorem cut_from {xs : List A} {m : Int} (h0 : 0 ≤ m) : cutA xs (some m) none = xs.drop m.toNat := by
  unfold cutA
  have n1 : ¬ m < 0 := by omega
  simp [HT.sIx, n1]
  rcases Nat.le_total m.toNat xs.length with h | h
  · rw [Nat.min_eq_left h, List.take_of_length_le (by simp)]
  · rw [Nat.min_eq_right h, List.drop_of_length_le (Nat.le_refl _), List.drop_of_length_le h]
    simp
end Law
namespace Law
open PySem L2 ML
open Classical
theorem drawQ {st : Store} {many : Int} {Q : A → Store → Prop} (t : TpOk st) (hm : many.natAbs < 2 ^ 200) (k : ∀ (n : Nat) st', (n : Int) < max many 1 → TpOk st' → Kp st st' → st'.length = st.length → Q (.int (n : Nat)) st') : (m_law_draw [.ref 1, .int many] st).wp Q :=
  draw_wp t hm fun n st' n0 n1 t' k' l' => by
    obtain ⟨m, rfl⟩ := Int.eq_ofNat_of_zero_le n0
    exact k m st' n1 t' k' l'
theorem pickQ {xs : List Int} {l : List A} {c : Int} {st : Store} {Q : A → Store → Prop} (hl : l = xs.map A.int) (hc : c = xs.length) (t : TpOk st) (h1 : 1 ≤ xs.length) (h2 : xs.length ≤ 100)
    (k : ∀ m ∈ xs, ∀ st', TpOk st' → Kp st st' → Q (.int m) st') : (m_law_draw [.ref 1, .int c] (st ++ [.lst l])).wp fun a st1 => (ixA (.ref st.length) a st1).wp Q := by
  have g : Grown st (st ++ [.lst l]) := .one _ _
  refine draw_wp (t.grown g) (by omega) fun n st' n0 n1 t' k' l' => ?_
  rw [w_ixL]
  have hn : n.toNat < xs.length := by omega
  refine ⟨l, k'.stL (by have := t.len; omega) stL_new, .int xs[n.toNat], ?_, k _ (List.getElem_mem hn) st' t' ((Kp.grown g).trans k')⟩
  rw [atI_nn n0, hl, List.getElem?_map, List.getElem?_eq_getElem hn]
  rfl
structure Bss (Bs : List (List A)) (rb : Nat) (rs : List A) (st : Store) : Prop where
  hb : stL st rb = some rs
  b1 : 1 < rb
  RB : BsL Bs rs st
  fB : Refs1 rs
  n : Bs.length ≤ 3
  l : ∀ B ∈ Bs, (∀ x ∈ B, El x) ∧ B.length ≤ 2000
theorem Bss.kp {Bs : List (List A)} {rb : Nat} {rs : List A} {st st' : Store} (h : Bss Bs rb rs st) (k : Kp st st') : Bss Bs rb rs st' := ⟨k.stL h.b1 h.hb, h.b1, h.RB.kp h.fB k, h.fB, h.n, h.l⟩
end Law
namespace Law
open PySem L2 ML
def m_law_result : MF := mFn 5 3 (mSeq (mIfS (mGB (mBin eqA (mBin ixA (mVar 2) (mC (.int 0))) (mC (.str "literal")))) (mRet (mLst (mCons (mBin ixA (mVar 2) (mC (.int 1))) mNil))) mNext)
    (mSeq (mIfS (mGB (mBin eqA (mBin ixA (mVar 2) (mC (.int 0))) (mC (.str "copy")))) (mRet (mSl (mBin ixA (mVar 0) (mBin ixA (mVar 2) (mC (.int 1)))) (mPart (mBin ixA (mVar 2) (mC (.int 2)))) (mPart (mBin ixA (mVar 2) (mC (.int 3)))))) mNext)
    (mSeq (mIfS (mGB (mBin eqA (mBin ixA (mVar 2) (mC (.int 0))) (mC (.str "repeat")))) (mRet (mBin mulA (mBin ixA (mVar 1) (mBin ixA (mVar 2) (mC (.int 1)))) (mBin ixA (mVar 2) (mC (.int 2))))) mNext)
    (mSeq (mSet 3 (mLst mNil))
    (mSeq (mFor (mSrc (mBin ixA (mVar 2) (mC (.int 1)))) (.one 4) (mSet 3 (mBin addA (mVar 3) (mBin ixA (mVar 1) (mVar 4)))))
    (mRet (mVar 3)))))))
def m_result_length : MF := mFn 3 2 (mSeq (mIfS (mGB (mBin eqA (mBin ixA (mVar 0) (mC (.int 0))) (mC (.str "copy")))) (mRet (mBin subA (mBin ixA (mVar 0) (mC (.int 3))) (mBin ixA (mVar 0) (mC (.int 2))))) mNext)
    (mSeq (mIfS (mGB (mBin eqA (mBin ixA (mVar 0) (mC (.int 0))) (mC (.str "concat")))) (mRet (mCa sumA (mCons (mLc (mSrc (mBin ixA (mVar 0) (mC (.int 1)))) (.one 2) [2] mYes (mCa lenA (mCons (mBin ixA (mVar 1) (mVar 2)) mNil))) mNil))) mNext)
    (mSeq (mIfS (mGB (mBin eqA (mBin ixA (mVar 0) (mC (.int 0))) (mC (.str "repeat")))) (mRet (mBin mulA (mCa lenA (mCons (mBin ixA (mVar 1) (mBin ixA (mVar 0) (mC (.int 1)))) mNil)) (mBin ixA (mVar 0) (mC (.int 2))))) mNext)
    (mRet (mC (.int 1))))))
def m_check_count : MF := mFn 1 1 (mIfS (mGB (mBin gtA (mVar 0) (mC (.int 2000)))) (mRaise "TooManyElements" "count" (mVar 0)) mNext)
def m_is_valid : MF := mFn 7 3 (mSeq (mIfS (mGB (mBin eqA (mBin ixA (mVar 0) (mC (.int 0))) (mC (.str "copy")))) (mSeq (mAsg (.many [3, 4, 5]) (mSl (mVar 0) (mPart (mC (.int 1))) mNoPart))
    (mRet (mAndV (mBin ltA (mVar 3) (mCa lenA (mCons (mVar 2) mNil))) (mAndV (mBin leA (mVar 4) (mVar 5)) (mBin leA (mVar 5) (mCa lenA (mCons (mBin ixA (mVar 2) (mVar 3)) mNil))))))) mNext)
    (mSeq (mIfS (mGB (mBin eqA (mBin ixA (mVar 0) (mC (.int 0))) (mC (.str "concat")))) (mRet (mCa allA (mCons (mLc (mSrc (mBin ixA (mVar 0) (mC (.int 1)))) (.one 6) [6] mYes (mBin ltA (mVar 6) (mVar 1))) mNil))) mNext)
    (mSeq (mIfS (mGB (mBin eqA (mBin ixA (mVar 0) (mC (.int 0))) (mC (.str "repeat")))) (mRet (mBin ltA (mBin ixA (mVar 0) (mC (.int 1))) (mVar 1))) mNext)
    (mRet (mC (.bl true))))))
def m_result_of : MF := mFn 8 3 (mSeq (mIfS (mGB (mBin eqA (mBin ixA (mVar 0) (mC (.int 0))) (mC (.str "copy")))) (mSeq (mAsg (.many [3, 4, 5]) (mSl (mVar 0) (mPart (mC (.int 1))) mNoPart))
    (mRet (mSl (mBin ixA (mVar 2) (mVar 3)) (mPart (mVar 4)) (mPart (mVar 5))))) mNext)
    (mSeq (mIfS (mGB (mBin eqA (mBin ixA (mVar 0) (mC (.int 0))) (mC (.str "concat")))) (mSeq (mSet 6 (mLst mNil))
    (mSeq (mFor (mSrc (mBin ixA (mVar 0) (mC (.int 1)))) (.one 7) (mExpr (mBm extendA (mVar 6) (mCons (mBin ixA (mVar 1) (mVar 7)) mNil))))
    (mRet (mCa tupleA (mCons (mVar 6) mNil))))) mNext)
    (mSeq (mIfS (mGB (mBin eqA (mBin ixA (mVar 0) (mC (.int 0))) (mC (.str "repeat")))) (mRet (mBin mulA (mBin ixA (mVar 1) (mBin ixA (mVar 0) (mC (.int 1)))) (mBin ixA (mVar 0) (mC (.int 2))))) mNext)
    (mRet (mTup (mCons (mBin ixA (mVar 0) (mC (.int 1))) mNil))))))
def m_run_recipe : MF := mFn 7 2 (mSeq (mSet 2 (mLst mNil))
    (mSeq (mSet 3 (mC (.int 0)))
    (mSeq (mFor (mEnumT (mCons (mVar 0) mNil)) (.many [4, 5]) (mSeq (mIfS (mNot (mTru (mCall m_is_valid (mCons (mVar 5) (mCons (mVar 4) (mCons (mVar 1) mNil)))))) (mRaise "InvalidInstruction" "place" (mVar 4)) mNext)
    (mSeq (mSet 6 (mCall m_result_length (mCons (mVar 5) (mCons (mVar 2) mNil))))
    (mSeq (mExpr (mCall m_check_count (mCons (mVar 6) mNil)))
    (mSeq (mAug 3 iaddA (mVar 6))
    (mSeq (mIfS (mGB (mBin gtA (mVar 3) (mC (.int 200000)))) (mRaise "RecipeTooLarge" "place" (mVar 4)) mNext)
    (mExpr (mBm appendA (mVar 2) (mCons (mCall m_result_of (mCons (mVar 5) (mCons (mVar 2) (mCons (mVar 1) mNil)))) mNil)))))))))
    (mSeq (mIfS (mNot (mTru (mVar 2))) (mRet (mTup mNil)) mNext)
    (mRet (mBin ixA (mVar 2) (mUn negA (mC (.int 1)))))))))
inductive Ins where
  | lit (x : A)
  | copy (b s e : Nat)
  | cat (ps : List Nat)
  | rep (p n : Nat)
def natA (n : Nat) : A := .int (n : Int)
def insA : Ins → A
  | .lit x => .tup [.str "literal", x]
  | .copy b s e => .tup [.str "copy", natA b, natA s, natA e]
  | .cat ps => .tup [.str "concat", .tup (ps.map natA)]
  | .rep p n => .tup [.str "repeat", natA p, natA n]
def resI (B R : List (List A)) : Ins → List A
  | .lit x => [x]
  | .copy b s e => cutA (bAt B b) (some (s : Int)) (some (e : Int))
  | .cat ps => (ps.map fun p : Nat => bAt R p).flatten
  | .rep p n => (List.replicate n (bAt R p)).flatten
def okI (B R : List (List A)) : Ins → Prop
  | .lit x => El x
  | .copy b s e => b < B.length ∧ s ≤ e ∧ e ≤ (bAt B b).length
  | .cat ps => (∀ p ∈ ps, p < R.length) ∧ ps.length ≤ 99
  | .rep p n => p < R.length ∧ n ≤ 2000
def lenI (R : List (List A)) : Ins → Nat
  | .lit _ => 1
  | .copy _ s e => e - s
  | .cat ps => (ps.map fun p : Nat => (bAt R p).length).sum
  | .rep p n => (bAt R p).length * n
theorem lenI_eq {B R : List (List A)} {I : Ins} (h : okI B R I) : (resI B R I).length = lenI R I := by
  cases I with
  | lit x => rfl
  | copy b s e =>
    obtain ⟨h1, h2, h3⟩ := h
    simp only [resI, lenI]
    rw [ML.cut_mid (by omega) (by omega)]
    simp
    omega
  | cat ps =>
    simp only [resI, lenI, List.length_flatten, List.map_map]
    rfl
  | rep p n =>
    simp only [resI, lenI]
    simp
    rw [Nat.mul_comm]
def tagI : Ins → Str
  | .lit _ => "literal"
  | .copy .. => "copy"
  | .cat _ => "concat"
  | .rep .. => "repeat"
theorem sp_tag {I : Ins} {s : Str} {i : Nat} {ρ : ML.Env} {st : Store} {N B C : ML.Env → Store → Prop} {Rt : A → Store → Prop} {m1 m2 : MS} (h : ρ[i]? = some (some (insA I))) :
    (mIfS (mGB (mBin eqA (mBin ixA (mVar i) (mC (.int 0))) (mC (.str s)))) m1 m2 ρ st).wp N B C Rt ↔ if tagI I = s then (m1 ρ st).wp N B C Rt else (m2 ρ st).wp N B C Rt := by
  cases I <;> simp only [sp_ifs, wp_gb, wp_bin, wp_var, wp_c, h, Option.some.injEq, ex_eq, insA, w_ixT, atI_nn (Int.le_refl 0), Int.toNat_zero, List.getElem?_cons_zero, w_eqS, w_getB, decide_eq_true_eq, tagI] <;> exact iff_of_eq (by congr)
theorem sp_tagY {I : Ins} {s : Str} {i : Nat} {ρ : ML.Env} {st : Store} {N B C : ML.Env → Store → Prop} {Rt : A → Store → Prop} {m1 m2 : MS} (h : ρ[i]? = some (some (insA I))) (ht : tagI I = s) (k : (m1 ρ st).wp N B C Rt) :
    (mIfS (mGB (mBin eqA (mBin ixA (mVar i) (mC (.int 0))) (mC (.str s)))) m1 m2 ρ st).wp N B C Rt := by
  rw [sp_tag h, if_pos ht]
  exact k
theorem sp_tagN {I : Ins} {s t : Str} {i : Nat} {ρ : ML.Env} {st : Store} {N B C : ML.Env → Store → Prop} {Rt : A → Store → Prop} {m1 m2 : MS} (h : ρ[i]? = some (some (insA I))) (ht : tagI I = t) (hn : t ≠ s) (k : (m2 ρ st).wp N B C Rt) :
    (mIfS (mGB (mBin eqA (mBin ixA (mVar i) (mC (.int 0))) (mC (.str s)))) m1 m2 ρ st).wp N B C Rt := by
  rw [sp_tag h, if_neg (by rw [ht]; exact hn)]
  exact k
theorem sum_nat (f : Nat → Nat) : ∀ (ps : List Nat), (ps.map fun p => ((f p : Nat) : Int)).sum = ((ps.map f).sum : Nat)
  | [] => rfl
  | p :: r => by
    rw [List.map_cons, List.sum_cons, sum_nat f r, List.map_cons, List.sum_cons]
    omega
structure StE (B R : List (List A)) (b d : Nat) (bs rs : List A) (st : Store) : Prop where
  t : TpOk st
  hb : stL st b = some bs
  hd : stL st d = some rs
  b1 : 1 < b
  d1 : 1 < d
  RB : BsL B bs st
  RR : BsL R rs st
  fB : Refs1 bs
  fR : Refs1 rs
  nB : B.length ≤ 9
  nR : R.length ≤ 100000
  lB : ∀ x ∈ B, x.length ≤ 2000
  lR : ∀ x ∈ R, x.length ≤ 2000
theorem StE.kp {B R : List (List A)} {b d : Nat} {bs rs : List A} {st st' : Store} (h : StE B R b d bs rs st) (t : TpOk st') (k : Kp st st') : StE B R b d bs rs st' := ⟨t, k.stL h.b1 h.hb, k.stL h.d1 h.hd, h.b1, h.d1, h.RB.kp h.fB k, h.RR.kp h.fR k, h.fB, h.fR, h.nB, h.nR, h.lB, h.lR⟩
theorem bAt_mem {B : List (List A)} {b : Nat} (h : b < B.length) : bAt B b ∈ B := by
  unfold bAt
  rw [List.getD_eq_getElem?_getD, Int.toNat_natCast, List.getElem?_eq_getElem h]
  exact List.getElem_mem h
theorem bat_nat (Bs : List (List A)) (b : Nat) : bAt Bs (b : Int) = Bs.getD b [] := rfl
theorem flat_le {R : List (List A)} (hR : ∀ x ∈ R, x.length ≤ 2000) : ∀ {ps : List Nat}, (∀ p ∈ ps, p < R.length) → (ps.map fun p : Nat => bAt R p).flatten.length ≤ 2000 * ps.length
  | [], _ => by simp
  | p :: r, h => by
    have h1 := hR _ (bAt_mem (h p (List.mem_cons_self ..)))
    have h2 := flat_le hR (ps := r) fun q hq => h q (List.mem_cons_of_mem _ hq)
    rw [List.map_cons, List.flatten_cons, List.length_append, List.length_cons]
    omega
theorem result_wp {B R : List (List A)} {b d : Nat} {bs rs : List A} {st : Store} {Q : A → Store → Prop} {I : Ins} (E : StE B R b d bs rs st) (o : okI B R I) (k : ∀ q st', Grown st st' → st.length ≤ q → q < st'.length → stL st' q = some (resI B R I) → Q (.ref q) st') : (m_law_result [.ref b, .ref d, insA I] st).wp Q := by
  simp only [m_law_result]
  rw [wp_fn]
  refine ⟨rfl, ?_⟩
  simp only [List.map_cons, List.map_nil, List.cons_append, List.nil_append, List.replicate, Nat.reduceSub]
  generalize hF : @mFor = F
  generalize hM : @mulA = M
  have lb : bs.length = B.length := E.RB.1
  have lr : rs.length = R.length := E.RR.1
  rw [sp_seq]
  cases I with
  | lit x =>
    refine sp_tagY (I := .lit x) rfl rfl ?_
    simp only [sp_ret, wp_lst, wp_bin, wp_cons, wp_nil, wp_var, wp_c, List.getElem?_cons_succ, List.getElem?_cons_zero, Option.some.injEq, ex_eq, insA, w_ixT]
    exact ⟨x, rfl, by simp [size_eq], k _ _ (.one _ _) (Nat.le_refl _) (by simp) stL_new⟩
  | copy x y z =>
    refine sp_tagN (I := .copy x y z) (t := "copy") rfl rfl (by decide) ?_
    rw [sp_next, sp_seq]
    refine sp_tagY (I := .copy x y z) rfl rfl ?_
    simp only [sp_ret, wp_sl, wp_part, wp_bin, wp_cons, wp_nil, wp_var, wp_c, List.getElem?_cons_succ, List.getElem?_cons_zero, Option.some.injEq, ex_eq, insA, w_ixT]
    refine ⟨natA x, rfl, ?_⟩
    obtain ⟨q, h1, h2⟩ := E.RB.at (b := (x : Int)) (by omega) (by have := o.1; omega)
    rw [natA, w_ixL]
    refine ⟨bs, E.hb, _, h1, natA y, rfl, ?_⟩
    rw [natA, w_getI]
    refine ⟨natA z, rfl, ?_⟩
    rw [natA, w_getI, w_slL]
    exact ⟨_, h2, k _ _ (.one _ _) (Nat.le_refl _) (by simp) stL_new⟩
  | rep p n =>
    refine sp_tagN (I := .rep p n) (t := "repeat") rfl rfl (by decide) ?_
    rw [sp_next, sp_seq]
    refine sp_tagN (I := .rep p n) (t := "repeat") rfl rfl (by decide) ?_
    rw [sp_next, sp_seq]
    refine sp_tagY (I := .rep p n) rfl rfl ?_
    simp only [sp_ret, wp_bin, wp_cons, wp_nil, wp_var, wp_c, List.getElem?_cons_succ, List.getElem?_cons_zero, Option.some.injEq, ex_eq, insA, w_ixT]
    refine ⟨natA p, rfl, ?_⟩
    obtain ⟨q, h1, h2⟩ := E.RR.at (b := (p : Int)) (by omega) (by have := o.1; omega)
    rw [natA, w_ixL]
    refine ⟨rs, E.hd, _, h1, natA n, rfl, ?_⟩
    subst hM
    have hl := E.lR _ (bAt_mem o.1)
    have hn := o.2
    have q1 : (bAt R (p : Int)).length * n ≤ 2000 * 2000 := Nat.mul_le_mul hl hn
    rw [natA, w_mulL]
    refine ⟨_, h2, ⟨by omega, by omega, by rw [size_eq, Int.toNat_natCast]; omega⟩, ?_⟩
    rw [Int.toNat_natCast]
    exact k _ _ (.one _ _) (Nat.le_refl _) (by simp) stL_new
  | cat ps =>
    refine sp_tagN (I := .cat ps) (t := "concat") rfl rfl (by decide) ?_
    rw [sp_next, sp_seq]
    refine sp_tagN (I := .cat ps) (t := "concat") rfl rfl (by decide) ?_
    rw [sp_next, sp_seq]
    refine sp_tagN (I := .cat ps) (t := "concat") rfl rfl (by decide) ?_
    rw [sp_next, sp_seq]
    simp only [sp_set, wp_lst, wp_nil, List.set_cons_zero, List.set_cons_succ]
    refine ⟨by simp [sizeLine], ?_⟩
    rw [sp_seq]
    subst hF
    simp only [sp_for, wp_src, wp_bin, wp_var, wp_c, List.getElem?_cons_succ, List.getElem?_cons_zero, Option.some.injEq, ex_eq, insA, w_ixT]
    refine ⟨.tup (ps.map natA), rfl, ?_⟩
    rw [w_srcT]
    refine for_vals (fun i ρ st' => ∃ w v4, Grown st st' ∧ st.length ≤ w ∧ w < st'.length ∧ stL st' w = some ((ps.take i).map fun p : Nat => bAt R p).flatten ∧ ρ = [some (.ref b), some (.ref d), some (.tup [.str "concat", .tup (ps.map natA)]), some (.ref w), v4]) ?_ ?_ ?_
    · exact ⟨st.length, none, .one _ _, Nat.le_refl _, by simp, stL_new, rfl⟩
    · rintro j x ρ st' hx ⟨w, v4, g, w0, w1, hw, rfl⟩
      rw [List.getElem?_map] at hx
      cases hj : ps[j]? with
      | none => rw [hj] at hx; cases hx
      | some p =>
        rw [hj] at hx
        cases hx
        refine ⟨_, rfl, ?_⟩
        have jl := (List.getElem?_eq_some_iff.mp hj).1
        have pl := o.1 p (List.mem_of_getElem? hj)
        have E' := E.kp (E.t.grown g) (Kp.grown g)
        obtain ⟨q, h1, h2⟩ := E'.RR.at (b := (p : Int)) (by omega) (by omega)
        have hl := E.lR _ (bAt_mem pl)
        have hf := flat_le E.lR (ps := ps.take j) fun q hq => o.1 q (List.mem_of_mem_take hq)
        have hp := o.2
        simp only [sp_set, wp_bin, wp_var, List.set_cons_zero, List.set_cons_succ, List.getElem?_cons_succ, List.getElem?_cons_zero, Option.some.injEq, ex_eq, natA]
        rw [w_ixL]
        refine ⟨rs, E'.hd, _, h1, ?_⟩
        rw [w_addL]
        rw [List.length_take] at hf
        refine ⟨_, hw, _, h2, by rw [size_eq]; omega, st'.length, some (.int (p : Int)), g.trans (.one _ _), by omega, by simp, ?_, rfl⟩
        rw [stL_new, List.take_add_one, hj, List.map_append, List.flatten_append]
        simp
    · rintro ρ st' ⟨w, v4, g, w0, w1, hw, rfl⟩
      rw [List.length_map, List.take_length] at hw
      simp only [sp_ret, wp_var, List.getElem?_cons_succ, List.getElem?_cons_zero, Option.some.injEq, ex_eq]
      exact k _ _ g w0 w1 hw
theorem atT {R : List (List A)} {p : Nat} (h : p < R.length) : atI (R.map A.tup) (p : Int) = some (.tup (bAt R p)) := by
  rw [atI_nn (by omega), Int.toNat_natCast, List.getElem?_map, List.getElem?_eq_getElem h, bat_nat, List.getD_eq_getElem?_getD, List.getElem?_eq_getElem h]
  rfl
theorem rlen_wp {B R : List (List A)} {d : Nat} {st : Store} {Q : A → Store → Prop} {I : Ins} (hd : stL st d = some (R.map A.tup)) (hR : ∀ x ∈ R, x.length ≤ 2000) (o : okI B R I) (k : ∀ st', Grown st st' → Q (.int (lenI R I : Nat)) st') : (m_result_length [insA I, .ref d] st).wp Q := by
  simp only [m_result_length]
  rw [wp_fn]
  refine ⟨rfl, ?_⟩
  simp only [List.map_cons, List.map_nil, List.cons_append, List.nil_append, List.replicate, Nat.reduceSub]
  generalize hL : @mLc = L
  generalize hM : @mulA = M
  rw [sp_seq]
  cases I with
  | lit x =>
    refine sp_tagN (I := .lit x) (t := "literal") rfl rfl (by decide) ?_
    rw [sp_next, sp_seq]
    refine sp_tagN (I := .lit x) (t := "literal") rfl rfl (by decide) ?_
    rw [sp_next, sp_seq]
    refine sp_tagN (I := .lit x) (t := "literal") rfl rfl (by decide) ?_
    rw [sp_next, sp_ret, wp_c]
    exact k _ (.refl _)
  | copy x y z =>
    refine sp_tagY (I := .copy x y z) rfl rfl ?_
    simp only [sp_ret, wp_bin, wp_var, wp_c, List.getElem?_cons_succ, List.getElem?_cons_zero, Option.some.injEq, ex_eq, insA, w_ixT]
    refine ⟨natA z, rfl, natA y, rfl, ?_⟩
    rw [natA, natA, w_sub]
    have : ((z : Int) - (y : Int)) = (lenI R (.copy x y z) : Nat) := by
      obtain ⟨h1, h2, h3⟩ := o
      simp only [lenI]
      omega
    rw [this]
    exact k _ (.refl _)
  | rep p n =>
    refine sp_tagN (I := .rep p n) (t := "repeat") rfl rfl (by decide) ?_
    rw [sp_next, sp_seq]
    refine sp_tagN (I := .rep p n) (t := "repeat") rfl rfl (by decide) ?_
    rw [sp_next, sp_seq]
    refine sp_tagY (I := .rep p n) rfl rfl ?_
    simp only [sp_ret, wp_bin, wp_ca, wp_cons, wp_nil, wp_var, wp_c, List.getElem?_cons_succ, List.getElem?_cons_zero, Option.some.injEq, ex_eq, insA, w_ixT]
    refine ⟨natA p, rfl, ?_⟩
    rw [natA, w_ixL]
    refine ⟨_, hd, _, atT o.1, ?_⟩
    rw [w_lenT]
    refine ⟨natA n, rfl, ?_⟩
    subst hM
    have hl := hR _ (bAt_mem o.1)
    have hn := o.2
    rw [natA, w_mul]
    refine ⟨cmul_r (by omega) (by omega), ?_⟩
    rw [← Int.natCast_mul]
    exact k _ (.refl _)
  | cat ps =>
    refine sp_tagN (I := .cat ps) (t := "concat") rfl rfl (by decide) ?_
    rw [sp_next, sp_seq]
    refine sp_tagY (I := .cat ps) rfl rfl ?_
    subst hL
    simp only [sp_ret, wp_bin, wp_ca, wp_lc, wp_src, wp_cons, wp_nil, wp_var, wp_c, List.getElem?_cons_succ, List.getElem?_cons_zero, Option.some.injEq, ex_eq, List.set_cons_zero, List.set_cons_succ, insA, w_ixT, wipeA_cons, wipeA_nil]
    refine ⟨.tup (ps.map natA), rfl, ?_⟩
    rw [w_srcT]
    refine lc_vals (fun j st' acc => st' = st ∧ acc = (ps.take j).map fun p : Nat => natA (bAt R p).length) ⟨rfl, rfl⟩ ?_ ?_
    · rintro j x st' acc hx ⟨rfl, rfl⟩
      refine ⟨_, rfl, ?_⟩
      rw [List.getElem?_map] at hx
      cases hj : ps[j]? with
      | none => rw [hj] at hx; cases hx
      | some p =>
        rw [hj] at hx
        cases hx
        have jl := (List.getElem?_eq_some_iff.mp hj).1
        have pl := o.1 p (List.mem_of_getElem? hj)
        simp only [wp_yes, if_true, wp_bin, wp_ca, wp_cons, wp_nil, wp_var, List.set_cons_zero, List.set_cons_succ, List.getElem?_cons_succ, List.getElem?_cons_zero, Option.some.injEq, ex_eq, natA]
        rw [w_ixL]
        refine ⟨_, hd, _, atT pl, ?_⟩
        rw [w_lenT]
        refine ⟨?_, rfl, ?_⟩
        · have := o.2
          rw [size_eq]
          simp
          omega
        · rw [List.take_add_one, hj]
          simp
    · rintro st' acc ⟨rfl, rfl⟩
      rw [List.length_map, List.take_length, w_sumL, stL_new]
      refine ⟨_, rfl, ps.map fun p : Nat => ((bAt R p).length : Int), ?_, ?_⟩
      · have := intsOf_map (ps.map fun p : Nat => ((bAt R p).length : Int))
        rw [List.map_map] at this
        exact this
      · have : (ps.map fun p : Nat => ((bAt R p).length : Int)).sum = (lenI R (.cat ps) : Nat) := by
          simp only [lenI]
          exact sum_nat (fun p : Nat => (bAt R p).length) ps
        rw [this]
        exact k _ (.one _ _)
theorem w_allI {r n : Nat} {st : Store} {Q : A → Store → Prop} (hr : stL st r = some (List.replicate n (A.bl true))) (k : Q (.bl true) st) : (allA [.ref r] st).wp Q := by
  have h1 : blsOf (List.replicate n (A.bl true)) = some (List.replicate n true) := by
    have := blsOf_map (List.replicate n true)
    rw [List.map_replicate] at this
    exact this
  have h2 : (List.replicate n true).all id = true := by simp
  simp only [allA, itemsL_ref, hr, Option.bind_some, h1, h2]
  exact k
theorem valid_wp {B R : List (List A)} {st : Store} {Q : A → Store → Prop} {I : Ins} (o : okI B R I) (k : ∀ st', Grown st st' → Q (.bl true) st') : (m_is_valid [insA I, .int (R.length : Nat), .tup (B.map A.tup)] st).wp Q := by
  simp only [m_is_valid]
  rw [wp_fn]
  refine ⟨rfl, ?_⟩
  simp only [List.map_cons, List.map_nil, List.cons_append, List.nil_append, List.replicate, Nat.reduceSub]
  generalize hL : @mLc = L
  rw [sp_seq]
  cases I with
  | lit x =>
    refine sp_tagN (I := .lit x) (t := "literal") rfl rfl (by decide) ?_
    rw [sp_next, sp_seq]
    refine sp_tagN (I := .lit x) (t := "literal") rfl rfl (by decide) ?_
    rw [sp_next, sp_seq]
    refine sp_tagN (I := .lit x) (t := "literal") rfl rfl (by decide) ?_
    rw [sp_next, sp_ret, wp_c]
    exact k _ (.refl _)
  | copy x y z =>
    obtain ⟨o1, o2, o3⟩ := o
    refine sp_tagY (I := .copy x y z) rfl rfl ?_
    simp only [sp_seq, sp_asg, wp_sl, wp_part, wp_noPart, wp_var, wp_c, List.getElem?_cons_succ, List.getElem?_cons_zero, Option.some.injEq, ex_eq, insA, w_getI, w_slT]
    refine ⟨[some (insA (.copy x y z)), some (.int (R.length : Nat)), some (.tup (B.map A.tup)), some (natA x), some (natA y), some (natA z), none], rfl, ?_⟩
    simp only [sp_ret, wp_andV, wp_bin, wp_ca, wp_cons, wp_nil, wp_var, wp_c, List.getElem?_cons_succ, List.getElem?_cons_zero, Option.some.injEq, ex_eq, natA, w_lenT, List.length_map, w_lt, w_le, w_getB]
    rw [if_pos (by simp; omega), if_pos (by simp; omega), w_ixT]
    refine ⟨_, atT o1, ?_⟩
    rw [w_lenT, w_le, decide_eq_true (by omega)]
    exact k _ (.refl _)
  | rep p n =>
    refine sp_tagN (I := .rep p n) (t := "repeat") rfl rfl (by decide) ?_
    rw [sp_next, sp_seq]
    refine sp_tagN (I := .rep p n) (t := "repeat") rfl rfl (by decide) ?_
    rw [sp_next, sp_seq]
    refine sp_tagY (I := .rep p n) rfl rfl ?_
    simp only [sp_ret, wp_bin, wp_var, wp_c, List.getElem?_cons_succ, List.getElem?_cons_zero, Option.some.injEq, ex_eq, insA, w_ixT]
    refine ⟨natA p, rfl, ?_⟩
    have := o.1
    rw [natA, w_lt, decide_eq_true (by omega)]
    exact k _ (.refl _)
  | cat ps =>
    refine sp_tagN (I := .cat ps) (t := "concat") rfl rfl (by decide) ?_
    rw [sp_next, sp_seq]
    refine sp_tagY (I := .cat ps) rfl rfl ?_
    subst hL
    simp only [sp_ret, wp_bin, wp_ca, wp_lc, wp_src, wp_cons, wp_nil, wp_var, wp_c, List.getElem?_cons_succ, List.getElem?_cons_zero, Option.some.injEq, ex_eq, List.set_cons_zero, List.set_cons_succ, insA, w_ixT, wipeA_cons, wipeA_nil]
    refine ⟨.tup (ps.map natA), rfl, ?_⟩
    rw [w_srcT]
    refine lc_vals (fun j st' acc => st' = st ∧ acc = List.replicate j (A.bl true)) ⟨rfl, rfl⟩ ?_ ?_
    · rintro j x st' acc hx ⟨rfl, rfl⟩
      refine ⟨_, rfl, ?_⟩
      rw [List.getElem?_map] at hx
      cases hj : ps[j]? with
      | none => rw [hj] at hx; cases hx
      | some p =>
        rw [hj] at hx
        cases hx
        have jl := (List.getElem?_eq_some_iff.mp hj).1
        have pl := o.1 p (List.mem_of_getElem? hj)
        simp only [wp_yes, if_true, wp_bin, wp_var, List.set_cons_zero, List.set_cons_succ, List.getElem?_cons_succ, List.getElem?_cons_zero, Option.some.injEq, ex_eq, natA]
        rw [w_lt, decide_eq_true (by omega)]
        refine ⟨?_, rfl, ?_⟩
        · have := o.2
          rw [size_eq]
          simp
          omega
        · rw [List.replicate_succ']
    · rintro st' acc ⟨rfl, rfl⟩
      refine w_allI stL_new ?_
      exact k _ (.one _ _)
theorem rof_wp {B R : List (List A)} {d : Nat} {st : Store} {Q : A → Store → Prop} {I : Ins} (hd : stL st d = some (R.map A.tup)) (hR : ∀ x ∈ R, x.length ≤ 2000) (o : okI B R I) (k : ∀ st', Grown st st' → Q (.tup (resI B R I)) st') : (m_result_of [insA I, .ref d, .tup (B.map A.tup)] st).wp Q := by
  simp only [m_result_of]
  rw [wp_fn]
  refine ⟨rfl, ?_⟩
  simp only [List.map_cons, List.map_nil, List.cons_append, List.nil_append, List.replicate, Nat.reduceSub]
  generalize hF : @mFor = F
  generalize hM : @mulA = M
  rw [sp_seq]
  cases I with
  | lit x =>
    refine sp_tagN (I := .lit x) (t := "literal") rfl rfl (by decide) ?_
    rw [sp_next, sp_seq]
    refine sp_tagN (I := .lit x) (t := "literal") rfl rfl (by decide) ?_
    rw [sp_next, sp_seq]
    refine sp_tagN (I := .lit x) (t := "literal") rfl rfl (by decide) ?_
    rw [sp_next]
    simp only [sp_ret, wp_tup, wp_bin, wp_cons, wp_nil, wp_var, wp_c, List.getElem?_cons_succ, List.getElem?_cons_zero, Option.some.injEq, ex_eq, insA, w_ixT]
    exact ⟨x, rfl, by simp [size_eq], k _ (.refl _)⟩
  | copy x y z =>
    obtain ⟨o1, o2, o3⟩ := o
    refine sp_tagY (I := .copy x y z) rfl rfl ?_
    simp only [sp_seq, sp_asg, wp_sl, wp_part, wp_noPart, wp_var, wp_c, List.getElem?_cons_succ, List.getElem?_cons_zero, Option.some.injEq, ex_eq, insA, w_getI, w_slT]
    refine ⟨[some (insA (.copy x y z)), some (.ref d), some (.tup (B.map A.tup)), some (natA x), some (natA y), some (natA z), none, none], rfl, ?_⟩
    simp only [sp_ret, wp_sl, wp_part, wp_bin, wp_var, List.getElem?_cons_succ, List.getElem?_cons_zero, Option.some.injEq, ex_eq, natA, w_getI]
    rw [w_ixT]
    refine ⟨_, atT o1, ?_⟩
    rw [w_slT]
    exact k _ (.refl _)
  | rep p n =>
    refine sp_tagN (I := .rep p n) (t := "repeat") rfl rfl (by decide) ?_
    rw [sp_next, sp_seq]
    refine sp_tagN (I := .rep p n) (t := "repeat") rfl rfl (by decide) ?_
    rw [sp_next, sp_seq]
    refine sp_tagY (I := .rep p n) rfl rfl ?_
    simp only [sp_ret, wp_bin, wp_var, wp_c, List.getElem?_cons_succ, List.getElem?_cons_zero, Option.some.injEq, ex_eq, insA, w_ixT]
    refine ⟨natA p, rfl, ?_⟩
    rw [natA, w_ixL]
    refine ⟨_, hd, _, atT o.1, natA n, rfl, ?_⟩
    subst hM
    have hl := hR _ (bAt_mem o.1)
    have hn := o.2
    have q1 : (bAt R (p : Int)).length * n ≤ 2000 * 2000 := Nat.mul_le_mul hl hn
    rw [natA, w_mulT]
    refine ⟨⟨by omega, by omega, by rw [size_eq, Int.toNat_natCast]; omega⟩, ?_⟩
    rw [Int.toNat_natCast]
    exact k _ (.refl _)
  | cat ps =>
    refine sp_tagN (I := .cat ps) (t := "concat") rfl rfl (by decide) ?_
    rw [sp_next, sp_seq]
    refine sp_tagY (I := .cat ps) rfl rfl ?_
    rw [sp_seq]
    simp only [sp_set, wp_lst, wp_nil, List.set_cons_zero, List.set_cons_succ]
    refine ⟨by simp [sizeLine], ?_⟩
    rw [sp_seq]
    subst hF
    simp only [sp_for, wp_src, wp_bin, wp_var, wp_c, List.getElem?_cons_succ, List.getElem?_cons_zero, Option.some.injEq, ex_eq, insA, w_ixT]
    refine ⟨.tup (ps.map natA), rfl, ?_⟩
    rw [w_srcT]
    refine for_vals (fun i ρ st' => ∃ v7, st' = st ++ [.lst ((ps.take i).map fun p : Nat => bAt R p).flatten] ∧ ρ = [some (.tup [.str "concat", .tup (ps.map natA)]), some (.ref d), some (.tup (B.map A.tup)), none, none, none, some (.ref st.length), v7]) ⟨none, rfl, rfl⟩ ?_ ?_
    · rintro j x ρ st' hx ⟨v7, rfl, rfl⟩
      rw [List.getElem?_map] at hx
      cases hj : ps[j]? with
      | none => rw [hj] at hx; cases hx
      | some p =>
        rw [hj] at hx
        cases hx
        refine ⟨_, rfl, ?_⟩
        have jl := (List.getElem?_eq_some_iff.mp hj).1
        have pl := o.1 p (List.mem_of_getElem? hj)
        have hl := hR _ (bAt_mem pl)
        have hf := flat_le hR (ps := ps.take j) fun q hq => o.1 q (List.mem_of_mem_take hq)
        have hp := o.2
        simp only [sp_expr, wp_bm, wp_bin, wp_cons, wp_nil, wp_var, List.set_cons_zero, List.set_cons_succ, List.getElem?_cons_succ, List.getElem?_cons_zero, Option.some.injEq, ex_eq, isL_ref, stL_new, Option.isSome_some, natA]
        refine ⟨trivial, ?_⟩
        rw [w_ixL]
        refine ⟨_, Grown.stL (.one _ _) hd, _, atT pl, ?_⟩
        rw [w_extendT, stL_new]
        rw [List.length_take] at hf
        refine ⟨_, rfl, by rw [size_eq]; omega, some (.int (p : Int)), ?_, rfl⟩
        rw [List.set_append_right _ _ (Nat.le_refl _), List.take_add_one, hj, List.map_append, List.flatten_append]
        simp
    · rintro ρ st' ⟨v7, rfl, rfl⟩
      rw [List.length_map, List.take_length]
      simp only [sp_ret, wp_ca, wp_cons, wp_nil, wp_var, List.getElem?_cons_succ, List.getElem?_cons_zero, Option.some.injEq, ex_eq, w_tupL, stL_new]
      exact k _ (.one _ _)
structure Prg (B : List (List A)) (Is : List Ins) (R : List (List A)) : Prop where
  len : Is.length = R.length
  has : ∀ (i : Nat) (I : Ins), Is[i]? = some I → okI B (R.take i) I ∧ R[i]? = some (resI B (R.take i) I) ∧ lenI (R.take i) I ≤ 2000
theorem Prg.take {B : List (List A)} {Is : List Ins} {R : List (List A)} (h : Prg B Is R) (k : Nat) : Prg B (Is.take k) (R.take k) := ⟨by rw [List.length_take, List.length_take, h.len], fun i I e => by
  have hk : i < k := by
    have := (List.getElem?_eq_some_iff.mp e).1
    rw [List.length_take] at this
    omega
  rw [List.getElem?_take_of_lt hk] at e
  rw [List.take_take, Nat.min_eq_left (by omega), List.getElem?_take_of_lt hk]
  exact h.has i I e⟩
theorem Prg.snoc {B : List (List A)} {Is : List Ins} {R : List (List A)} {I : Ins} (h : Prg B Is R) (o : okI B R I) (l : lenI R I ≤ 2000) : Prg B (Is ++ [I]) (R ++ [resI B R I]) := ⟨by simp [h.len], fun i J e => by
  have hl := h.len
  by_cases c : i < Is.length
  · rw [List.getElem?_append_left c] at e
    rw [List.take_append_of_le_length (by omega), List.getElem?_append_left (by omega)]
    exact h.has i J e
  · rw [List.getElem?_append_right (by omega)] at e
    have hi := (List.getElem?_eq_some_iff.mp e).1
    simp at hi
    have hi : i = R.length := by omega
    subst hi
    rw [hl, Nat.sub_self] at e
    cases e
    rw [List.take_append_of_le_length (Nat.le_refl _), List.take_length]
    exact ⟨o, by simp, l⟩⟩
theorem cc_wp {n : Int} {st : Store} {Q : A → Store → Prop} (h : n ≤ 2000) (k : Q .non st) : (m_check_count [.int n] st).wp Q := by
  simp only [m_check_count]
  rw [wp_fn]
  refine ⟨rfl, ?_⟩
  simp only [List.map_cons, List.map_nil, List.cons_append, List.nil_append, List.replicate, Nat.reduceSub, sp_ifs, wp_gb, wp_bin, wp_var, wp_c, List.getElem?_cons_succ, List.getElem?_cons_zero, Option.some.injEq, ex_eq, w_gt, w_getB]
  rw [if_neg (by simp; omega), sp_next]
  exact k
theorem Grown.setHi {st st' : Store} {d : Nat} {o : Ob} (g : Grown st st') (h : st.length ≤ d) : Grown st (st'.set d o) := by
  obtain ⟨l, rfl⟩ := g
  exact ⟨l.set (d - st.length) o, List.set_append_right _ _ h⟩
theorem run_wp {B : List (List A)} {Is : List Ins} {R : List (List A)} {st : Store} {Q : A → Store → Prop} (P : Prg B Is R) (n : R.length ≤ 100000) (hT : (R.map List.length).sum ≤ 200000) (lR : ∀ x ∈ R, x.length ≤ 2000) (k : ∀ st', Grown st st' → Q (.tup (bAt ([] :: R) R.length)) st') : (m_run_recipe [.tup (Is.map insA), .tup (B.map A.tup)] st).wp Q := by
  simp only [m_run_recipe]
  rw [wp_fn]
  refine ⟨rfl, ?_⟩
  simp only [List.map_cons, List.map_nil, List.cons_append, List.nil_append, List.replicate, Nat.reduceSub]
  generalize hF : @mFor = F
  have hl := P.len
  rw [sp_seq]
  simp only [sp_set, wp_lst, wp_nil, List.set_cons_zero, List.set_cons_succ]
  refine ⟨by simp [sizeLine], ?_⟩
  rw [sp_seq]
  simp only [sp_set, wp_c, List.set_cons_zero, List.set_cons_succ]
  let J : Nat → ML.Env → Store → Prop := fun i ρ st' => ∃ (T : Int) (v4 v5 v6 : Option A), 0 ≤ T ∧ T = (((R.take i).map List.length).sum : Nat) ∧ Grown st st' ∧ stL st' st.length = some ((R.take i).map A.tup) ∧ ρ = [some (.tup (Is.map insA)), some (.tup (B.map A.tup)), some (.ref st.length), some (.int T), v4, v5, v6]
  refine seq_cut (J R.length) ?_ ?_
  · subst hF
    simp only [sp_for, wp_enumT, wp_cons, wp_nil, wp_var, List.getElem?_cons_succ, List.getElem?_cons_zero, Option.some.injEq, ex_eq, w_enumT]
    refine for_zipv J (by simp [cntA]) ⟨0, none, none, none, by omega, by simp, .one _ _, stL_new, rfl⟩ ?_ (fun ρ st' q => by rw [List.length_map, hl] at q; exact q) _ (by simp [Src.size, cntA])
    rintro i x y ρ st2 hxi hyi ⟨T, v4, v5, v6, T0, T1, g2, hd, rfl⟩
    rw [List.getElem?_map, Option.map_eq_some_iff] at hyi
    obtain ⟨I, hI, rfl⟩ := hyi
    have hi : i < Is.length := (List.getElem?_eq_some_iff.mp hI).1
    have ex : x = .int (i : Nat) := by
      simp [cntA, hi] at hxi
      exact hxi.symm
    subst ex
    obtain ⟨o, hr, l3⟩ := P.has i I hI
    have hli : (R.take i).length = i := by
      rw [List.length_take]
      omega
    have lR' : ∀ x ∈ R.take i, x.length ≤ 2000 := fun x hx => lR x (List.mem_of_mem_take hx)
    have hsum : (((R.take (i + 1)).map List.length).sum : Nat) = ((R.take i).map List.length).sum + lenI (R.take i) I := by
      rw [List.take_add_one, hr, Option.toList_some, List.map_append, List.map_cons, List.map_nil, List.sum_append, List.sum_cons, List.sum_nil, lenI_eq o]
      omega
    have hle : ((R.take (i + 1)).map List.length).sum ≤ 200000 := by
      have e : R.map List.length = (R.take (i + 1)).map List.length ++ (R.drop (i + 1)).map List.length := by rw [← List.map_append, List.take_append_drop]
      rw [e, List.sum_append] at hT
      omega
    have V := @valid_wp B (R.take i)
    rw [hli] at V
    refine ⟨[some (.tup (Is.map insA)), some (.tup (B.map A.tup)), some (.ref st.length), some (.int T), some (.int (i : Nat)), some (insA I), v6], rfl, ?_⟩
    rw [sp_seq]
    simp only [sp_ifs, wp_not, wp_tru, wp_call, wp_cons, wp_nil, wp_var, List.set_cons_zero, List.set_cons_succ, List.getElem?_cons_succ, List.getElem?_cons_zero, Option.some.injEq, ex_eq]
    refine V o fun st3 g3 => ?_
    rw [w_truB, if_neg (by simp), sp_next, sp_seq]
    simp only [sp_set, wp_call, wp_cons, wp_nil, wp_var, List.set_cons_zero, List.set_cons_succ, List.getElem?_cons_succ, List.getElem?_cons_zero, Option.some.injEq, ex_eq]
    refine rlen_wp (g3.stL hd) lR' o fun st4 g4 => ?_
    rw [sp_seq]
    simp only [sp_expr, wp_call, wp_cons, wp_nil, wp_var, List.getElem?_cons_succ, List.getElem?_cons_zero, Option.some.injEq, ex_eq]
    refine cc_wp (by omega) ?_
    rw [sp_seq]
    simp only [sp_aug, wp_var, List.set_cons_zero, List.set_cons_succ, List.getElem?_cons_succ, List.getElem?_cons_zero, Option.some.injEq, ex_eq]
    rw [w_iadd, sp_seq]
    simp only [sp_ifs, wp_gb, wp_bin, wp_var, wp_c, List.getElem?_cons_succ, List.getElem?_cons_zero, Option.some.injEq, ex_eq, w_gt, w_getB]
    rw [if_neg (by simp; omega), sp_next]
    have hd4 := g4.stL (g3.stL hd)
    simp only [sp_expr, wp_bm, wp_call, wp_cons, wp_nil, wp_var, List.getElem?_cons_succ, List.getElem?_cons_zero, Option.some.injEq, ex_eq, isL_ref, hd4, Option.isSome_some]
    refine ⟨trivial, ?_⟩
    refine rof_wp hd4 lR' o fun st5 g5 => ?_
    have hd5 := g5.stL hd4
    rw [w_append, hd5]
    refine ⟨_, rfl, by rw [size_eq, List.length_map]; omega, T + (lenI (R.take i) I : Nat), some (.int (i : Nat)), some (insA I), some (.int (lenI (R.take i) I : Nat)), by omega, by omega, Grown.setHi (((g2.trans g3).trans g4).trans g5) (Nat.le_refl _), ?_, rfl⟩
    rw [stL_set_self hd5, List.take_add_one, hr, List.map_append]
    rfl
  rintro ρ st2 ⟨T, v4, v5, v6, T0, T1, g2, hd, rfl⟩
  rw [List.take_length] at hd
  rw [sp_seq]
  simp only [sp_ifs, wp_not, wp_tru, wp_var, List.getElem?_cons_succ, List.getElem?_cons_zero, Option.some.injEq, ex_eq, w_truL, hd]
  by_cases c : R = []
  · subst c
    rw [if_pos (by simp)]
    simp only [sp_ret, wp_tup, wp_nil]
    exact ⟨by simp [sizeLine], k _ g2⟩
  · rw [if_neg (by simpa using c), sp_next]
    simp only [sp_ret, wp_bin, wp_un, wp_var, wp_c, List.getElem?_cons_succ, List.getElem?_cons_zero, Option.some.injEq, ex_eq, w_neg]
    rw [w_ixL]
    have e := List.dropLast_concat_getLast c
    have h2 : atI (R.map A.tup) (-1) = some (.tup (R.getLast c)) := by
      have e2 : R.map A.tup = (R.dropLast).map A.tup ++ [.tup (R.getLast c)] := by
        conv => lhs; rw [← e]
        simp
      rw [e2]
      unfold atI
      have : L2.ixN ((R.dropLast).map A.tup ++ [A.tup (R.getLast c)]).length (-1) = some ((R.dropLast).map A.tup).length := by
        unfold L2.ixN
        rw [if_neg (by decide), List.length_append, List.length_singleton, if_pos (by omega)]
        congr 1
        omega
      rw [this]
      simp
    have h3 : R.getLast c = bAt ([] :: R) R.length := by
      have h0 : 0 < R.length := List.length_pos_iff.mpr c
      rw [bat_nat, List.getD_eq_getElem?_getD]
      obtain ⟨m, hm⟩ : ∃ m, R.length = m + 1 := ⟨R.length - 1, by omega⟩
      rw [hm, List.getElem?_cons_succ, List.getLast_eq_getElem, List.getElem?_eq_getElem (by omega)]
      simp [hm]
    refine ⟨_, hd, _, h2, ?_⟩
    rw [h3]
    exact k _ g2
theorem BsL.setNe {Bs : List (List A)} {rs : List A} {st : Store} {s : Nat} {ys : List A} (h : BsL Bs rs st) (hr : ∀ (i r : Nat), rs[i]? = some (.ref r) → s ≠ r) : BsL Bs rs (st.set s (.lst ys)) := ⟨h.1, fun i x e => by
  obtain ⟨r, q1, q2⟩ := h.2 i x e
  subst q1
  exact ⟨r, rfl, by rw [stL_set_ne (hr i r e)]; exact q2⟩⟩
theorem BsL.cons {Bs : List (List A)} {rs : List A} {st : Store} {B : List A} {r : Nat} (h : BsL Bs rs st) (hr : stL st r = some B) : BsL (B :: Bs) (.ref r :: rs) st := by
  refine ⟨by simp [h.1], fun i x e => ?_⟩
  cases i with
  | zero =>
    cases e
    exact ⟨r, rfl, hr⟩
  | succ i => exact h.2 i x e
end Law
namespace Law
open PySem L2 ML
open Classical
theorem PnS.more {f f' : List Nd} {F : List BP} {t rp : Nat} {st st' : Store} (h : PnS f F t rp st) (fr : FrT t st st') (T : Tab f' t st') (e : ∃ g, f' = f ++ g) : PnS f' F t rp st' := by
  obtain ⟨g, rfl⟩ := e
  refine ⟨T, ?_, fun p hp => List.mem_append_left _ (h.i p hp), h.n, h.r⟩
  have hl := stD_lt h.d
  have e2 : (F.map fun p => (numK (f ++ g) p.1, bpV p)) = F.map fun p => (numK f p.1, bpV p) := List.map_congr_left fun p hp => by
    unfold numK
    rw [idx_app (h.i p hp)]
  rw [e2]
  have := h.d
  have hr := h.r
  unfold ML.stD at this ⊢
  rw [fr.get rp hl (by omega)]
  exact this
theorem ReS.more {f f' : List Nd} {F : List BP} {M : List Nd} {t rp rm rr ri : Nat} {st st' : Store} (h : ReS f F M t rp rm rr ri st) (hrm : t + 4 < rm) (fr : FrT t st st') (T : Tab f' t st') (e : ∃ g, f' = f ++ g) : ReS f' F M t rp rm rr ri st' := by
  have hp := h.p.more fr T e
  obtain ⟨g, rfl⟩ := e
  obtain ⟨⟨n1, n2⟩, _⟩ := h.ne
  have e2 : numG (numK (f ++ g)) 0 M = numG (numK f) 0 M := numG_congr fun m hm => by
    unfold numK
    rw [idx_app (h.s m hm)]
  refine ⟨hp, ?_, ?_, ?_, fun m hm => List.mem_append_left _ (h.s m hm), h.c, h.u, h.ne⟩
  · rw [fr.get rm (List.getElem?_eq_some_iff.mp h.i).1 (.inr hrm)]
    exact h.i
  · exact fr.stL (.inr n1) h.l
  · rw [e2]
    have hl := stD_lt h.d
    have := h.d
    unfold ML.stD at this ⊢
    rw [fr.get ri hl (.inr n2)]
    exact this
end Law
namespace Law
open PySem L2 ML
open Classical
theorem Hold.stD {a b : Store} {r : Nat} {kvs : List (NestedKey × A)} (h : Hold a b) (e : ML.stD a r = some kvs) : ML.stD b r = some kvs := by
  have h1 := stD_eq e
  unfold ML.stD
  rw [h.get r (stD_lt e), h1]
end Law
namespace Law
open PySem L2 ML
def m_law_step : MF := mFn 12 4 (mSeq (mSet 4 (mCall m_law_draw (mCons (mVar 0) (mCons (mC (.int 6)) mNil))))
    (mSeq (mSet 5 (mTup (mCons (mC (.str "literal")) (mCons (mCall m_law_element (mCons (mVar 0) mNil)) mNil))))
    (mSeq (mIfS (mAnd (mGB (mBin ltA (mVar 4) (mC (.int 3)))) (mTru (mVar 1))) (mSeq (mSet 6 (mCall m_law_draw (mCons (mVar 0) (mCons (mCa lenA (mCons (mVar 1) mNil)) mNil))))
    (mSeq (mSet 7 (mCa lenA (mCons (mBin ixA (mVar 1) (mVar 6)) mNil)))
    (mSeq (mSet 8 (mCall m_law_draw (mCons (mVar 0) (mCons (mCa minA (mCons (mBin addA (mVar 7) (mC (.int 1))) (mCons (mBin ixA (mLst (mCons (mC (.int 9)) (mCons (mC (.int 2001)) mNil))) (mCall m_law_draw (mCons (mVar 0) (mCons (mC (.int 2)) mNil)))) mNil))) mNil))))
    (mSet 5 (mTup (mCons (mC (.str "copy")) (mCons (mVar 6) (mCons (mVar 8) (mCons (mBin subA (mVar 7) (mCall m_law_draw (mCons (mVar 0) (mCons (mCa minA (mCons (mBin subA (mBin addA (mVar 7) (mC (.int 1))) (mVar 8)) (mCons (mBin ixA (mLst (mCons (mC (.int 9)) (mCons (mC (.int 2001)) mNil))) (mCall m_law_draw (mCons (mVar 0) (mCons (mC (.int 2)) mNil)))) mNil))) mNil)))) mNil))))))))) mNext)
    (mSeq (mIfS (mAnd (mGB (mBin gtA (mVar 4) (mC (.int 3)))) (mTru (mVar 2))) (mSet 5 (mTup (mCons (mC (.str "concat")) (mCons (mBin mulA (mCa tupleA (mCons (mLc (mRng (mCons (mCall m_law_draw (mCons (mVar 0) (mCons (mC (.int 4)) mNil))) mNil)) (.one 10) [10] mYes (mCall m_law_draw (mCons (mVar 0) (mCons (mCa lenA (mCons (mVar 2) mNil)) mNil)))) mNil)) (mBin ixA (mLst (mCons (mC (.int 1)) (mCons (mC (.int 1)) (mCons (mC (.int 1)) (mCons (mC (.int 33)) mNil))))) (mCall m_law_draw (mCons (mVar 0) (mCons (mC (.int 4)) mNil))))) mNil)))) mNext)
    (mSeq (mIfS (mAnd (mGB (mBin eqA (mVar 4) (mC (.int 3)))) (mTru (mVar 2))) (mSet 5 (mTup (mCons (mC (.str "repeat")) (mCons (mCall m_law_draw (mCons (mVar 0) (mCons (mCa lenA (mCons (mVar 2) mNil)) mNil))) (mCons (mBin ixA (mLst (mCons (mC (.int 0)) (mCons (mC (.int 1)) (mCons (mC (.int 2)) (mCons (mC (.int 3)) (mCons (mC (.int 5)) (mCons (mC (.int 12)) (mCons (mC (.int 40)) mNil)))))))) (mCall m_law_draw (mCons (mVar 0) (mCons (mC (.int 7)) mNil)))) mNil))))) mNext)
    (mSeq (mSet 9 (mC (.int 1)))
    (mSeq (mIfS (mGB (mBin eqA (mBin ixA (mVar 5) (mC (.int 0))) (mC (.str "copy")))) (mSet 9 (mBin subA (mBin ixA (mVar 5) (mC (.int 3))) (mBin ixA (mVar 5) (mC (.int 2))))) (mIfS (mGB (mBin eqA (mBin ixA (mVar 5) (mC (.int 0))) (mC (.str "repeat")))) (mSet 9 (mBin mulA (mCa lenA (mCons (mBin ixA (mVar 2) (mBin ixA (mVar 5) (mC (.int 1)))) mNil)) (mBin ixA (mVar 5) (mC (.int 2))))) (mIfS (mGB (mBin eqA (mBin ixA (mVar 5) (mC (.int 0))) (mC (.str "concat")))) (mSet 9 (mCa sumA (mCons (mLc (mSrc (mBin ixA (mVar 5) (mC (.int 1)))) (.one 11) [11] mYes (mCa lenA (mCons (mBin ixA (mVar 2) (mVar 11)) mNil))) mNil))) mNext)))
    (mSeq (mIfS (mGB (mBin gtA (mVar 9) (mVar 3))) (mSet 5 (mTup (mCons (mC (.str "literal")) (mCons (mVar 4) mNil)))) mNext)
    (mRet (mVar 5))))))))))
open Classical
theorem drawN_wp {st : Store} {many : Int} {Q : A → Store → Prop} (t : TpOk st) (hm : many.natAbs < 2 ^ 200) (k : ∀ (n : Nat) st', (n : Int) < max many 1 → TpOk st' → Kp st st' → st'.length = st.length → Q (natA n) st') : (m_law_draw [.ref 1, .int many] st).wp Q :=
  draw_wp t hm fun n st' n0 n1 t' k' l' => by
    obtain ⟨m, rfl⟩ := Int.eq_ofNat_of_zero_le n0
    exact k m st' n1 t' k' l'
theorem flat_natA {ps : List Nat} {k : Nat} : (List.replicate k (ps.map natA)).flatten = ((List.replicate k ps).flatten).map natA := by
  rw [List.map_flatten, List.map_replicate]
theorem stepG_wp {B R : List (List A)} {b d : Nat} {bs rs : List A} {st : Store} {Q : A → Store → Prop} {M0 : Nat} (hM0 : 6 ≤ M0) (hM2 : M0 ≤ 2000) (E : StE B R b d bs rs st) (k : ∀ I st', okI B R I → lenI R I ≤ M0 → TpOk st' → Kp st st' → Q (insA I) st') : (m_law_step [.ref 1, .ref b, .ref d, .int (M0 : Nat)] st).wp Q := by
  simp only [m_law_step]
  rw [wp_fn]
  refine ⟨rfl, ?_⟩
  simp only [List.map_cons, List.map_nil, List.cons_append, List.nil_append, List.replicate, Nat.reduceSub]
  generalize hL : @mLc = L
  generalize hM : @mulA = M
  have lb : bs.length = B.length := E.RB.1
  have lr : rs.length = R.length := E.RR.1
  have nB := E.nB
  have nR := E.nR
  refine seq_cut (fun ρ st' => ∃ c : Nat, StE B R b d bs rs st' ∧ Kp st st' ∧ c < 6 ∧ ρ = [some (.ref 1), some (.ref b), some (.ref d), some (.int (M0 : Nat)), some (natA c), none, none, none, none, none, none, none]) ?_ ?_
  · simp only [sp_set, wp_call, wp_cons, wp_nil, wp_var, wp_c, List.getElem?_cons_succ, List.getElem?_cons_zero, Option.some.injEq, ex_eq, List.set_cons_zero, List.set_cons_succ]
    exact drawN_wp E.t (by decide) fun c st' hc t' k' l' => ⟨c, E.kp t' k', k', by omega, rfl⟩
  rintro ρ st1 ⟨c, E1, k1, hc, rfl⟩
  let S2 : ML.Env → Store → Prop := fun ρ st' => ∃ I v6 v7 v8, okI B R I ∧ StE B R b d bs rs st' ∧ Kp st st' ∧ ρ = [some (.ref 1), some (.ref b), some (.ref d), some (.int (M0 : Nat)), some (natA c), some (insA I), v6, v7, v8, none, none, none]
  refine seq_cut S2 ?_ ?_
  · simp only [sp_set, wp_call, wp_tup, wp_cons, wp_nil, wp_var, wp_c, List.getElem?_cons_succ, List.getElem?_cons_zero, Option.some.injEq, ex_eq, List.set_cons_zero, List.set_cons_succ]
    exact element_wp E1.t fun x st' hx t' k' => ⟨by simp [size_eq], .lit x, none, none, none, hx, E1.kp t' k', k1.trans k', rfl⟩
  rintro ρ st2 ⟨I2, u6, u7, u8, o2, E2, k2, rfl⟩
  refine seq_cut S2 ?_ ?_
  · simp only [sp_ifs, wp_and, wp_gb, wp_tru, wp_bin, wp_var, wp_c, List.getElem?_cons_succ, List.getElem?_cons_zero, Option.some.injEq, ex_eq, natA, w_lt, w_getB, w_truL, E2.hb]
    by_cases hc3 : ¬ ((c : Int) < 3)
    · rw [if_neg (by simpa using hc3), if_neg (by simp)]
      exact ⟨I2, u6, u7, u8, o2, E2, k2, rfl⟩
    have hc3 := Decidable.not_not.mp hc3
    rw [if_pos (by simpa using hc3)]
    by_cases he : bs = []
    · subst he
      rw [if_neg (by simp)]
      exact ⟨I2, u6, u7, u8, o2, E2, k2, rfl⟩
    have h0 : 1 ≤ bs.length := List.length_pos_iff.mpr he
    rw [if_pos (by simp [he])]
    simp only [sp_seq, sp_set, wp_call, wp_ca, wp_bin, wp_lst, wp_tup, wp_cons, wp_nil, wp_var, wp_c, List.getElem?_cons_succ, List.getElem?_cons_zero, Option.some.injEq, ex_eq, List.set_cons_zero, List.set_cons_succ, w_lenL, E2.hb]
    refine drawN_wp E2.t (by omega) fun x st3 hx t3 k3 l3 => ?_
    have E3 := E2.kp t3 k3
    have xb : x < B.length := by omega
    obtain ⟨q, h1, h2⟩ := E3.RB.at (b := (x : Int)) (by omega) (by omega)
    have hl := E2.lB _ (bAt_mem xb)
    generalize hv : bAt B (x : Int) = row at h2 hl
    rw [natA, w_ixL]
    refine ⟨bs, E3.hb, _, h1, ?_⟩
    rw [w_lenL]
    refine ⟨_, h2, ?_⟩
    rw [w_add]
    refine ⟨by simp [size_eq], ?_⟩
    refine pickQ (xs := [9, 2001]) rfl rfl E3.t (by decide) (by decide) fun m hm st4 t4 k4 => ?_
    have hm : 9 ≤ m ∧ m ≤ 2001 := by
      simp at hm
      omega
    rw [w_min2]
    refine drawN_wp t4 (by split <;> omega) fun y st5 hy t5 k5 l5 => ?_
    have hy : y ≤ row.length := by
      split at hy <;> omega
    rw [natA, w_add, w_sub]
    refine ⟨by simp [size_eq], ?_⟩
    refine pickQ (xs := [9, 2001]) rfl rfl t5 (by decide) (by decide) fun m hm st6 t6 k6 => ?_
    have hm : 9 ≤ m ∧ m ≤ 2001 := by
      simp at hm
      omega
    rw [w_min2]
    refine drawN_wp t6 (by split <;> omega) fun z st7 hz t7 k7 l7 => ?_
    have hz : z ≤ row.length - y := by
      split at hz <;> omega
    rw [natA, w_sub]
    have kk := ((k3.trans k4).trans (k5.trans k6)).trans k7
    refine ⟨by simp [size_eq], .copy x y (row.length - z), some (.int (x : Int)), some (.int (row.length : Nat)), some (.int (y : Int)), ⟨xb, by omega, by rw [hv]; omega⟩, E2.kp t7 kk, k2.trans kk, ?_⟩
    have : ((row.length - z : Nat) : Int) = (row.length : Int) - (z : Int) := by omega
    simp only [insA, natA, this]
  clear E1 k1 E2 k2 o2 u6 u7 u8
  rintro ρ st2 ⟨I2, u6, u7, u8, o2, E2, k2, rfl⟩
  refine seq_cut S2 ?_ ?_
  · simp only [sp_ifs, wp_and, wp_gb, wp_tru, wp_bin, wp_var, wp_c, List.getElem?_cons_succ, List.getElem?_cons_zero, Option.some.injEq, ex_eq, natA, w_gt, w_getB, w_truL, E2.hd]
    by_cases hc3 : ¬ (3 < (c : Int))
    · rw [if_neg (by simpa using hc3), if_neg (by simp)]
      exact ⟨I2, u6, u7, u8, o2, E2, k2, rfl⟩
    have hc3 := Decidable.not_not.mp hc3
    rw [if_pos (by simpa using hc3)]
    by_cases he : rs = []
    · subst he
      rw [if_neg (by simp)]
      exact ⟨I2, u6, u7, u8, o2, E2, k2, rfl⟩
    have h0 : 1 ≤ rs.length := List.length_pos_iff.mpr he
    rw [if_pos (by simp [he])]
    subst hL
    simp only [sp_set, wp_call, wp_ca, wp_bin, wp_lst, wp_tup, wp_cons, wp_nil, wp_var, wp_c, wp_lc, wp_rng, List.getElem?_cons_succ, List.getElem?_cons_zero, Option.some.injEq, ex_eq, List.set_cons_zero, List.set_cons_succ, wipeA_cons, wipeA_nil]
    refine drawN_wp E2.t (by decide) fun n st3 hn t3 k3 l3 => ?_
    rw [natA, w_rng1]
    refine ⟨by omega, ?_⟩
    refine lc_rng (fun j st' acc => ∃ ps : List Nat, TpOk st' ∧ Kp st2 st' ∧ acc = ps.map natA ∧ ps.length = j ∧ ∀ p ∈ ps, p < R.length) ⟨[], t3, k3, rfl, rfl, by simp⟩ ?_ ?_
    · rintro j st' acc hj ⟨ps, t', k', rfl, lp, hp⟩
      refine ⟨_, rfl, ?_⟩
      simp only [wp_yes, if_true, wp_call, wp_ca, wp_cons, wp_nil, wp_var, List.set_cons_zero, List.set_cons_succ, List.getElem?_cons_succ, List.getElem?_cons_zero, Option.some.injEq, ex_eq, w_lenL, (E2.kp t' k').hd]
      refine drawN_wp t' (by omega) fun p st4 h4 t4 k4 l4 => ⟨by rw [size_eq]; simp; omega, ps ++ [p], t4, k'.trans k4, by simp, by simp [lp], ?_⟩
      intro y hy
      rcases List.mem_append.mp hy with h | h
      · exact hp y h
      · simp at h
        omega
    · rintro st4 acc ⟨ps, t4, k4, rfl, lp, hp⟩
      rw [w_tupL, stL_new]
      refine ⟨_, rfl, by simp [size_eq], ?_⟩
      have t4' := t4.grown (.one st4 (.lst (ps.map natA)))
      refine pickQ (xs := [1, 1, 1, 33]) rfl rfl t4' (by decide) (by decide) fun m hm st5 t5 k5 => ?_
      have hm : 1 ≤ m ∧ m ≤ 33 := by
        simp at hm
        omega
      subst hM
      have q1 : ps.length * m.toNat ≤ 3 * 33 := Nat.mul_le_mul (by omega) (by omega)
      rw [w_mulT]
      refine ⟨⟨by omega, by omega, by rw [size_eq, List.length_map]; omega⟩, by simp [size_eq], .cat (List.replicate m.toNat ps).flatten, u6, u7, u8, ⟨?_, ?_⟩, E2.kp t5 ((k4.trans (Kp.grown (.one _ _))).trans k5), k2.trans ((k4.trans (Kp.grown (.one _ _))).trans k5), ?_⟩
      · intro p h
        rw [List.mem_flatten] at h
        obtain ⟨l, e1, e2⟩ := h
        rw [List.mem_replicate] at e1
        rw [e1.2] at e2
        exact hp p e2
      · simp
        rw [Nat.mul_comm]
        omega
      · rw [flat_natA]
        rfl
  clear E2 k2 o2 u6 u7 u8
  rintro ρ st2 ⟨I2, u6, u7, u8, o2, E2, k2, rfl⟩
  refine seq_cut S2 ?_ ?_
  · simp only [sp_ifs, wp_and, wp_gb, wp_tru, wp_bin, wp_var, wp_c, List.getElem?_cons_succ, List.getElem?_cons_zero, Option.some.injEq, ex_eq, natA, w_eq, w_getB, w_truL, E2.hd]
    by_cases hc3 : ¬ ((c : Int) = 3)
    · rw [if_neg (by simpa using hc3), if_neg (by simp)]
      exact ⟨I2, u6, u7, u8, o2, E2, k2, rfl⟩
    have hc3 := Decidable.not_not.mp hc3
    rw [if_pos (by simpa using hc3)]
    by_cases he : rs = []
    · subst he
      rw [if_neg (by simp)]
      exact ⟨I2, u6, u7, u8, o2, E2, k2, rfl⟩
    have h0 : 1 ≤ rs.length := List.length_pos_iff.mpr he
    rw [if_pos (by simp [he])]
    simp only [sp_set, wp_call, wp_ca, wp_bin, wp_lst, wp_tup, wp_cons, wp_nil, wp_var, wp_c, List.getElem?_cons_succ, List.getElem?_cons_zero, Option.some.injEq, ex_eq, List.set_cons_zero, List.set_cons_succ, w_lenL, E2.hd]
    refine drawN_wp E2.t (by omega) fun p st3 hp t3 k3 l3 => ?_
    refine ⟨by simp [size_eq], ?_⟩
    refine pickQ (xs := [0, 1, 2, 3, 5, 12, 40]) rfl rfl t3 (by decide) (by decide) fun m hm st4 t4 k4 => ?_
    have hm : 0 ≤ m ∧ m ≤ 40 := by
      simp at hm
      omega
    obtain ⟨n, rfl⟩ := Int.eq_ofNat_of_zero_le hm.1
    exact ⟨by simp [size_eq], .rep p n, u6, u7, u8, ⟨by omega, by omega⟩, E2.kp t4 (k3.trans k4), k2.trans (k3.trans k4), rfl⟩
  clear E2 k2 o2 u6 u7 u8
  rintro ρ st2 ⟨I2, u6, u7, u8, o2, E2, k2, rfl⟩
  let S3 : Int → ML.Env → Store → Prop := fun z ρ st' => StE B R b d bs rs st' ∧ Kp st st' ∧ ρ = [some (.ref 1), some (.ref b), some (.ref d), some (.int (M0 : Nat)), some (natA c), some (insA I2), u6, u7, u8, some (.int z), none, none]
  refine seq_cut (S3 1) ?_ ?_
  · simp only [sp_set, wp_c, List.set_cons_zero, List.set_cons_succ]
    exact ⟨E2, k2, rfl⟩
  clear E2 k2
  rintro ρ st2 ⟨E2, k2, rfl⟩
  refine seq_cut (S3 (lenI R I2)) ?_ ?_
  · cases I2 with
    | lit x =>
      refine sp_tagN (I := .lit x) (t := "literal") rfl rfl (by decide) ?_
      refine sp_tagN (I := .lit x) (t := "literal") rfl rfl (by decide) ?_
      refine sp_tagN (I := .lit x) (t := "literal") rfl rfl (by decide) ?_
      rw [sp_next]
      exact ⟨E2, k2, rfl⟩
    | copy x y z =>
      refine sp_tagY (I := .copy x y z) rfl rfl ?_
      simp only [sp_set, wp_bin, wp_var, wp_c, List.getElem?_cons_succ, List.getElem?_cons_zero, Option.some.injEq, ex_eq, List.set_cons_zero, List.set_cons_succ, insA, w_ixT]
      refine ⟨natA z, rfl, natA y, rfl, ?_⟩
      rw [natA, natA, w_sub]
      have : ((z : Int) - (y : Int)) = (lenI R (.copy x y z) : Nat) := by
        obtain ⟨h1, h2, h3⟩ := o2
        simp only [lenI]
        omega
      rw [this]
      exact ⟨E2, k2, rfl⟩
    | rep p n =>
      refine sp_tagN (I := .rep p n) (t := "repeat") rfl rfl (by decide) ?_
      refine sp_tagY (I := .rep p n) rfl rfl ?_
      simp only [sp_set, wp_bin, wp_ca, wp_cons, wp_nil, wp_var, wp_c, List.getElem?_cons_succ, List.getElem?_cons_zero, Option.some.injEq, ex_eq, List.set_cons_zero, List.set_cons_succ, insA, w_ixT]
      refine ⟨natA p, rfl, ?_⟩
      obtain ⟨q, h1, h2⟩ := E2.RR.at (b := (p : Int)) (by omega) (by have := o2.1; omega)
      rw [natA, w_ixL]
      refine ⟨rs, E2.hd, _, h1, ?_⟩
      rw [w_lenL]
      refine ⟨_, h2, natA n, rfl, ?_⟩
      subst hM
      have hl := E2.lR _ (bAt_mem o2.1)
      have hn := o2.2
      have q1 : (bAt R (p : Int)).length * n ≤ 2000 * 2000 := Nat.mul_le_mul hl hn
      rw [natA, w_mul]
      refine ⟨?_, ?_⟩
      · exact cmul_r (by omega) (by omega)
      rw [← Int.natCast_mul]
      exact ⟨E2, k2, rfl⟩
    | cat ps =>
      refine sp_tagN (I := .cat ps) (t := "concat") rfl rfl (by decide) ?_
      refine sp_tagN (I := .cat ps) (t := "concat") rfl rfl (by decide) ?_
      refine sp_tagY (I := .cat ps) rfl rfl ?_
      subst hL
      simp only [sp_set, wp_bin, wp_ca, wp_lc, wp_src, wp_cons, wp_nil, wp_var, wp_c, List.getElem?_cons_succ, List.getElem?_cons_zero, Option.some.injEq, ex_eq, List.set_cons_zero, List.set_cons_succ, insA, w_ixT, wipeA_cons, wipeA_nil]
      refine ⟨.tup (ps.map natA), rfl, ?_⟩
      rw [w_srcT]
      refine lc_vals (fun j st' acc => st' = st2 ∧ acc = (ps.take j).map fun p : Nat => natA (bAt R p).length) ⟨rfl, rfl⟩ ?_ ?_
      · rintro j x st' acc hx ⟨rfl, rfl⟩
        refine ⟨_, rfl, ?_⟩
        rw [List.getElem?_map] at hx
        cases hj : ps[j]? with
        | none => rw [hj] at hx; cases hx
        | some p =>
          rw [hj] at hx
          cases hx
          have jl := (List.getElem?_eq_some_iff.mp hj).1
          have pl := o2.1 p (List.mem_of_getElem? hj)
          obtain ⟨q, h1, h2⟩ := E2.RR.at (b := (p : Int)) (by omega) (by omega)
          simp only [wp_yes, if_true, wp_bin, wp_ca, wp_cons, wp_nil, wp_var, List.set_cons_zero, List.set_cons_succ, List.getElem?_cons_succ, List.getElem?_cons_zero, Option.some.injEq, ex_eq, natA]
          rw [w_ixL]
          refine ⟨rs, E2.hd, _, h1, ?_⟩
          rw [w_lenL]
          refine ⟨_, h2, ?_, rfl, ?_⟩
          · have := o2.2
            rw [size_eq]
            simp
            omega
          · rw [List.take_add_one, hj]
            simp
      · rintro st' acc ⟨rfl, rfl⟩
        rw [List.length_map, List.take_length, w_sumL, stL_new]
        refine ⟨_, rfl, ps.map fun p : Nat => ((bAt R p).length : Int), ?_, ?_⟩
        · have := intsOf_map (ps.map fun p : Nat => ((bAt R p).length : Int))
          rw [List.map_map] at this
          exact this
        · have : (ps.map fun p : Nat => ((bAt R p).length : Int)).sum = (lenI R (.cat ps) : Nat) := by
            simp only [lenI]
            exact sum_nat (fun p : Nat => (bAt R p).length) ps
          rw [this]
          have g : Kp st' (st' ++ [.lst ((ps).map fun p : Nat => natA (bAt R p).length)]) := Kp.grown (.one _ _)
          exact ⟨E2.kp (E2.t.grown (.one _ _)) g, k2.trans g, rfl⟩
  clear E2 k2
  rintro ρ st2 ⟨E2, k2, rfl⟩
  refine seq_cut (fun ρ st' => ∃ I v6 v7 v8 v9, okI B R I ∧ lenI R I ≤ M0 ∧ TpOk st' ∧ Kp st st' ∧ ρ = [some (.ref 1), some (.ref b), some (.ref d), some (.int (M0 : Nat)), some (natA c), some (insA I), v6, v7, v8, v9, none, none]) ?_ ?_
  · simp only [sp_ifs, wp_gb, wp_bin, wp_var, wp_c, List.getElem?_cons_succ, List.getElem?_cons_zero, Option.some.injEq, ex_eq, w_gt, w_getB, decide_eq_true_eq]
    by_cases hz : (((M0 : Nat) : Int) < (lenI R I2 : Nat))
    · rw [if_pos hz]
      simp only [sp_set, wp_tup, wp_cons, wp_nil, wp_var, wp_c, List.getElem?_cons_succ, List.getElem?_cons_zero, Option.some.injEq, ex_eq, List.set_cons_zero, List.set_cons_succ]
      exact ⟨by simp [size_eq], .lit (natA c), u6, u7, u8, _, .inl (.inr ⟨_, rfl, by omega, by omega⟩), by simp only [lenI]; omega, E2.t, k2, rfl⟩
    · rw [if_neg hz]
      exact ⟨I2, u6, u7, u8, _, o2, by omega, E2.t, k2, rfl⟩
  rintro ρ st3 ⟨I3, v6, v7, v8, v9, o3, l3, t3, k3, rfl⟩
  simp only [sp_ret, wp_var, List.getElem?_cons_succ, List.getElem?_cons_zero, Option.some.injEq, ex_eq]
  exact k I3 st3 o3 l3 t3 k3
end Law
namespace Law
open PySem L2 ML
open Classical
def m_law_length : MF := mFn 4 3 (mSeq (mIfS (mGB (mBin eqA (mBin ixA (mVar 2) (mC (.int 0))) (mC (.str "literal")))) (mRet (mC (.int 1))) mNext)
    (mSeq (mIfS (mGB (mBin eqA (mBin ixA (mVar 2) (mC (.int 0))) (mC (.str "copy")))) (mSeq (mIfS (mOr (mGB (mBin geA (mBin ixA (mVar 2) (mC (.int 1))) (mCa lenA (mCons (mVar 0) mNil)))) (mOr (mGB (mBin gtA (mBin ixA (mVar 2) (mC (.int 2))) (mBin ixA (mVar 2) (mC (.int 3))))) (mGB (mBin gtA (mBin ixA (mVar 2) (mC (.int 3))) (mCa lenA (mCons (mBin ixA (mVar 0) (mBin ixA (mVar 2) (mC (.int 1)))) mNil)))))) (mRet (mUn negA (mC (.int 1)))) mNext)
    (mRet (mBin subA (mBin ixA (mVar 2) (mC (.int 3))) (mBin ixA (mVar 2) (mC (.int 2)))))) mNext)
    (mSeq (mIfS (mGB (mBin eqA (mBin ixA (mVar 2) (mC (.int 0))) (mC (.str "repeat")))) (mSeq (mIfS (mGB (mBin geA (mBin ixA (mVar 2) (mC (.int 1))) (mCa lenA (mCons (mVar 1) mNil)))) (mRet (mUn negA (mC (.int 1)))) mNext)
    (mRet (mBin mulA (mBin ixA (mVar 1) (mBin ixA (mVar 2) (mC (.int 1)))) (mBin ixA (mVar 2) (mC (.int 2)))))) mNext)
    (mSeq (mIfS (mGB (mBin gtA (mCa lenA (mCons (mLc (mSrc (mBin ixA (mVar 2) (mC (.int 1)))) (.one 3) [3] (mGB (mBin geA (mVar 3) (mCa lenA (mCons (mVar 1) mNil)))) (mVar 3)) mNil)) (mC (.int 0)))) (mRet (mUn negA (mC (.int 1)))) mNext)
    (mRet (mCa sumA (mCons (mLc (mSrc (mBin ixA (mVar 2) (mC (.int 1)))) (.one 3) [3] mYes (mBin ixA (mVar 1) (mVar 3))) mNil)))))))
def okV (B : List (List A)) (n : Nat) : Ins → Prop
  | .lit _ => True
  | .copy b s e => b < B.length ∧ s ≤ e ∧ e ≤ (bAt B b).length
  | .cat ps => ∀ p ∈ ps, p < n
  | .rep p _ => p < n
def sdI : Ins → Prop
  | .lit x => El x
  | .copy _ _ _ => True
  | .cat ps => ps.length ≤ 99
  | .rep _ n => n ≤ 2000
theorem ok_iff {B R : List (List A)} {I : Ins} (s : sdI I) : okI B R I ↔ okV B R.length I := by
  cases I with
  | lit x => exact ⟨fun _ => trivial, fun _ => s⟩
  | copy b st e => exact Iff.rfl
  | cat ps => exact ⟨fun h => h.1, fun h => ⟨h, s⟩⟩
  | rep p n => exact ⟨fun h => h.1, fun h => ⟨h, s⟩⟩
theorem ok_sd {B R : List (List A)} {I : Ins} (o : okI B R I) : sdI I := by
  cases I with
  | lit x => exact o
  | copy b st e => trivial
  | cat ps => exact o.2
  | rep p n => exact o.2
theorem invalid_wp {B : List (List A)} {n : Nat} {st : Store} {Q : A → Store → Prop} {I : Ins} (s : sdI I) (o : ¬ okV B n I) (k : ∀ st', Grown st st' → Q (.bl false) st') : (m_is_valid [insA I, .int (n : Nat), .tup (B.map A.tup)] st).wp Q := by
  simp only [m_is_valid]
  rw [wp_fn]
  refine ⟨rfl, ?_⟩
  simp only [List.map_cons, List.map_nil, List.cons_append, List.nil_append, List.replicate, Nat.reduceSub]
  generalize hL : @mLc = L
  rw [sp_seq]
  cases I with
  | lit x => exact absurd trivial o
  | copy x y z =>
    refine sp_tagY (I := .copy x y z) rfl rfl ?_
    simp only [sp_seq, sp_asg, wp_sl, wp_part, wp_noPart, wp_var, wp_c, List.getElem?_cons_succ, List.getElem?_cons_zero, Option.some.injEq, ex_eq, insA, w_getI, w_slT]
    refine ⟨[some (insA (.copy x y z)), some (.int (n : Nat)), some (.tup (B.map A.tup)), some (natA x), some (natA y), some (natA z), none], rfl, ?_⟩
    simp only [sp_ret, wp_andV, wp_bin, wp_ca, wp_cons, wp_nil, wp_var, wp_c, List.getElem?_cons_succ, List.getElem?_cons_zero, Option.some.injEq, ex_eq, natA, w_lenT, List.length_map, w_lt, w_le, w_getB]
    by_cases c1 : x < B.length
    · rw [if_pos (by simp; omega)]
      by_cases c2 : y ≤ z
      · rw [if_pos (by simp; omega), w_ixT]
        refine ⟨_, atT c1, ?_⟩
        rw [w_lenT, w_le, decide_eq_false (fun h => o ⟨c1, c2, by exact_mod_cast h⟩)]
        exact k _ (.refl _)
      · rw [if_neg (by simp; omega)]
        exact k _ (.refl _)
    · rw [if_neg (by simp; omega)]
      exact k _ (.refl _)
  | rep p m =>
    refine sp_tagN (I := .rep p m) (t := "repeat") rfl rfl (by decide) ?_
    rw [sp_next, sp_seq]
    refine sp_tagN (I := .rep p m) (t := "repeat") rfl rfl (by decide) ?_
    rw [sp_next, sp_seq]
    refine sp_tagY (I := .rep p m) rfl rfl ?_
    simp only [sp_ret, wp_bin, wp_var, wp_c, List.getElem?_cons_succ, List.getElem?_cons_zero, Option.some.injEq, ex_eq, insA, w_ixT]
    refine ⟨natA p, rfl, ?_⟩
    have o' : ¬ p < n := o
    rw [natA, w_lt, decide_eq_false (by omega)]
    exact k _ (.refl _)
  | cat ps =>
    refine sp_tagN (I := .cat ps) (t := "concat") rfl rfl (by decide) ?_
    rw [sp_next, sp_seq]
    refine sp_tagY (I := .cat ps) rfl rfl ?_
    subst hL
    simp only [sp_ret, wp_bin, wp_ca, wp_lc, wp_src, wp_cons, wp_nil, wp_var, wp_c, List.getElem?_cons_succ, List.getElem?_cons_zero, Option.some.injEq, ex_eq, List.set_cons_zero, List.set_cons_succ, insA, w_ixT, wipeA_cons, wipeA_nil]
    refine ⟨.tup (ps.map natA), rfl, ?_⟩
    rw [w_srcT]
    refine lc_vals (fun j st' acc => st' = st ∧ acc = ((ps.take j).map fun p => decide (p < n)).map A.bl) ⟨rfl, rfl⟩ ?_ ?_
    · rintro j x st' acc hx ⟨rfl, rfl⟩
      refine ⟨_, rfl, ?_⟩
      rw [List.getElem?_map] at hx
      cases hj : ps[j]? with
      | none => rw [hj] at hx; cases hx
      | some p =>
        rw [hj] at hx
        cases hx
        have jl := (List.getElem?_eq_some_iff.mp hj).1
        simp only [wp_yes, if_true, wp_bin, wp_var, List.set_cons_zero, List.set_cons_succ, List.getElem?_cons_succ, List.getElem?_cons_zero, Option.some.injEq, ex_eq, natA]
        rw [w_lt]
        refine ⟨?_, rfl, ?_⟩
        · have : ps.length ≤ 99 := s
          rw [size_eq]
          simp
          omega
        · rw [List.take_add_one, hj]
          simp
    · rintro st' acc ⟨rfl, rfl⟩
      rw [List.length_map, List.take_length]
      have h1 := blsOf_map (ps.map fun p => decide (p < n))
      have h2 : (ps.map fun p => decide (p < n)).all id = false := by
        rw [List.all_eq_false]
        have : ∃ p ∈ ps, ¬ p < n := by
          refine Classical.byContradiction fun h => o fun p hp => Classical.byContradiction fun q => h ⟨p, hp, q⟩
        obtain ⟨p, hp, q⟩ := this
        exact ⟨_, List.mem_map_of_mem hp, by simpa using q⟩
      simp only [allA, itemsL_ref, stL_new, Option.bind_some, h1, h2]
      exact k _ (.one _ _)
theorem length_wp {B R : List (List A)} {b d : Nat} {bs : List A} {st : Store} {Q : A → Store → Prop} {I : Ins} (s : sdI I) (hb : stL st b = some bs) (hB : BsL B bs st) (hBl : B.length ≤ 100) (hB2 : ∀ x ∈ B, x.length ≤ 2000) (hd : stL st d = some (R.map fun x => natA x.length)) (hRl : R.length ≤ 100000) (hR : ∀ x ∈ R, x.length ≤ 2000)
    (k : ∀ st', Grown st st' → Q (.int (if okV B R.length I then ((lenI R I : Nat) : Int) else -1)) st') : (m_law_length [.ref b, .ref d, insA I] st).wp Q := by
  simp only [m_law_length]
  rw [wp_fn]
  refine ⟨rfl, ?_⟩
  simp only [List.map_cons, List.map_nil, List.cons_append, List.nil_append, List.replicate, Nat.reduceSub]
  generalize hL : @mLc = L
  generalize hM : @mulA = M
  have hbl := hB.1
  have atL : ∀ p, p < R.length → atI (R.map fun x => natA x.length) (p : Int) = some (natA (bAt R p).length) := fun p hp => by
    rw [atI_nn (by omega), Int.toNat_natCast, List.getElem?_map, List.getElem?_eq_getElem hp]
    simp [bat_nat, List.getD_eq_getElem?_getD, hp]
  rw [sp_seq]
  cases I with
  | lit x =>
    refine sp_tagY (I := .lit x) rfl rfl ?_
    simp only [sp_ret, wp_c]
    have := k st (.refl _)
    rw [if_pos (show okV B R.length (.lit x) from trivial)] at this
    exact this
  | copy x y z =>
    refine sp_tagN (I := .copy x y z) (t := "copy") rfl rfl (by decide) ?_
    rw [sp_next, sp_seq]
    refine sp_tagY (I := .copy x y z) rfl rfl ?_
    have a1 : ∀ t u v w : A, atI [t, u, v, w] 1 = some u := fun _ _ _ _ => rfl
    have a2 : ∀ t u v w : A, atI [t, u, v, w] 2 = some v := fun _ _ _ _ => rfl
    have a3 : ∀ t u v w : A, atI [t, u, v, w] 3 = some w := fun _ _ _ _ => rfl
    simp only [sp_seq, sp_ifs, wp_or, wp_gb, wp_bin, wp_ca, wp_cons, wp_nil, wp_var, wp_c, List.getElem?_cons_succ, List.getElem?_cons_zero, Option.some.injEq, ex_eq, insA, natA, w_ixT, a1, a2, a3, w_lenL, hb, w_ge, w_gt, w_getB]
    have bad : ∀ {N Bk Ct : ML.Env → Store → Prop} {ρ : ML.Env}, ¬ okV B R.length (.copy x y z) → (mRet (mUn negA (mC (.int 1))) ρ st).wp N Bk Ct Q := fun {N Bk Ct ρ} h => by
      simp only [sp_ret, wp_un, wp_c, w_neg]
      have := k st (.refl _)
      rw [if_neg h] at this
      exact this
    by_cases c1 : x < B.length
    · rw [if_neg (by simp; omega)]
      by_cases c2 : y ≤ z
      · rw [if_neg (by simp; omega), w_ixL]
        obtain ⟨q, q1, q2⟩ := hB.at (b := (x : Int)) (by omega) (by omega)
        refine ⟨_, hb, _, q1, ?_⟩
        simp only [w_lenL, q2, Option.some.injEq, ex_eq, w_gt, w_getB]
        by_cases c3 : z ≤ (bAt B x).length
        · rw [if_neg (by simp; omega), sp_next]
          simp only [sp_ret, wp_bin, wp_var, wp_c, List.getElem?_cons_succ, List.getElem?_cons_zero, Option.some.injEq, ex_eq, w_ixT, a2, a3, w_sub]
          have := k st (.refl _)
          rw [if_pos (show okV B R.length (.copy x y z) from ⟨c1, c2, c3⟩)] at this
          simp only [lenI] at this
          rw [show ((z : Int) - (y : Int)) = ((z - y : Nat) : Int) by omega]
          exact this
        · rw [if_pos (by simp; omega)]
          exact bad fun h => c3 h.2.2
      · rw [if_pos (by simp; omega)]
        (try rw [if_pos True.intro])
        exact bad fun h => c2 h.2.1
    · rw [if_pos (by simp; omega)]
      (try rw [if_pos True.intro])
      exact bad fun h => c1 h.1
  | rep p m =>
    have hm : m ≤ 2000 := s
    refine sp_tagN (I := .rep p m) (t := "repeat") rfl rfl (by decide) ?_
    rw [sp_next, sp_seq]
    refine sp_tagN (I := .rep p m) (t := "repeat") rfl rfl (by decide) ?_
    rw [sp_next, sp_seq]
    refine sp_tagY (I := .rep p m) rfl rfl ?_
    have a1 : ∀ t u v : A, atI [t, u, v] 1 = some u := fun _ _ _ => rfl
    have a2 : ∀ t u v : A, atI [t, u, v] 2 = some v := fun _ _ _ => rfl
    simp only [sp_seq, sp_ifs, wp_gb, wp_bin, wp_ca, wp_cons, wp_nil, wp_var, wp_c, List.getElem?_cons_succ, List.getElem?_cons_zero, Option.some.injEq, ex_eq, insA, natA, w_ixT, a1, a2, w_lenL, hd, List.length_map, w_ge, w_getB]
    by_cases c1 : p < R.length
    · rw [if_neg (by simp; omega), sp_next]
      have hbl2 := hR _ (bAt_mem c1)
      simp only [sp_ret, wp_bin, wp_var, wp_c, List.getElem?_cons_succ, List.getElem?_cons_zero, Option.some.injEq, ex_eq, w_ixT, a1, a2]
      rw [w_ixL]
      refine ⟨_, hd, _, atL p c1, ?_⟩
      subst hM
      simp only [natA, w_mul]
      refine ⟨cmul_l (by omega) (by omega), ?_⟩
      have := k st (.refl _)
      rw [if_pos (show okV B R.length (.rep p m) from c1)] at this
      simp only [lenI, Int.natCast_mul] at this
      exact this
    · rw [if_pos (by simp; omega)]
      simp only [sp_ret, wp_un, wp_c, w_neg]
      have := k st (.refl _)
      rw [if_neg (show ¬ okV B R.length (.rep p m) from c1)] at this
      exact this
  | cat ps =>
    have hps : ps.length ≤ 99 := s
    refine sp_tagN (I := .cat ps) (t := "concat") rfl rfl (by decide) ?_
    rw [sp_next, sp_seq]
    refine sp_tagN (I := .cat ps) (t := "concat") rfl rfl (by decide) ?_
    rw [sp_next, sp_seq]
    refine sp_tagN (I := .cat ps) (t := "concat") rfl rfl (by decide) ?_
    have a1 : ∀ t u : A, atI [t, u] 1 = some u := fun _ _ => rfl
    rw [sp_next, sp_seq]
    subst hL
    simp only [sp_ifs, wp_gb, wp_bin, wp_ca, wp_lc, wp_src, wp_cons, wp_nil, wp_var, wp_c, List.getElem?_cons_succ, List.getElem?_cons_zero, Option.some.injEq, ex_eq, List.set_cons_zero, List.set_cons_succ, insA, w_ixT, a1, w_srcT, wipeA_cons, wipeA_nil]
    refine lc_vals (fun j st' acc => st' = st ∧ acc = (((ps.take j).filter fun p => decide (R.length ≤ p)).map natA)) ⟨rfl, rfl⟩ ?_ ?_
    · rintro j x st' acc hx ⟨rfl, rfl⟩
      refine ⟨_, rfl, ?_⟩
      rw [List.getElem?_map] at hx
      cases hj : ps[j]? with
      | none => rw [hj] at hx; cases hx
      | some p =>
        rw [hj] at hx
        cases hx
        have jl := (List.getElem?_eq_some_iff.mp hj).1
        simp only [wp_gb, wp_bin, wp_ca, wp_cons, wp_nil, wp_var, List.set_cons_zero, List.set_cons_succ, List.getElem?_cons_succ, List.getElem?_cons_zero, Option.some.injEq, ex_eq, natA, w_lenL, hd, List.length_map, w_ge, w_getB]
        by_cases c1 : R.length ≤ p
        · rw [if_pos (by simp; omega)]
          refine ⟨?_, by trivial, ?_⟩
          · have := List.length_filter_le (fun p => decide (R.length ≤ p)) (ps.take j)
            rw [size_eq]
            (try rw [List.length_map])
            rw [List.length_take] at this
            omega
          · rw [List.take_add_one, hj]
            simp [List.filter_append, c1, natA]
        · rw [if_neg (by simp; omega)]
          refine ⟨by trivial, ?_⟩
          rw [List.take_add_one, hj]
          simp [List.filter_append, c1]
    · rintro st' acc ⟨rfl, rfl⟩
      rw [List.length_map, List.take_length]
      have g1 : Grown st' (st' ++ [.lst ((ps.filter fun p => decide (R.length ≤ p)).map natA)]) := .one _ _
      simp only [w_lenL, stL_new, Option.some.injEq, ex_eq, List.length_map, w_gt, w_getB]
      by_cases c1 : okV B R.length (.cat ps)
      · have c2 : ∀ p ∈ ps, p < R.length := c1
        have e0 : (ps.filter fun p => decide (R.length ≤ p)) = [] := List.filter_eq_nil_iff.mpr fun p hp => by have := c2 p hp; simp; omega
        rw [e0] at g1 ⊢
        rw [if_neg (by simp), sp_next]
        simp only [sp_ret, wp_bin, wp_ca, wp_lc, wp_src, wp_cons, wp_nil, wp_var, wp_c, List.getElem?_cons_succ, List.getElem?_cons_zero, Option.some.injEq, ex_eq, List.set_cons_zero, List.set_cons_succ, w_ixT, a1, w_srcT, wipeA_cons, wipeA_nil]
        refine lc_vals (fun j st2 acc => st2 = st' ++ [.lst (([] : List Nat).map natA)] ∧ acc = (ps.take j).map fun p : Nat => natA (bAt R p).length) ⟨rfl, rfl⟩ ?_ ?_
        · rintro j x st2 acc hx ⟨rfl, rfl⟩
          refine ⟨_, rfl, ?_⟩
          rw [List.getElem?_map] at hx
          cases hj : ps[j]? with
          | none => rw [hj] at hx; cases hx
          | some p =>
            rw [hj] at hx
            cases hx
            have jl := (List.getElem?_eq_some_iff.mp hj).1
            have pl := c2 p (List.mem_of_getElem? hj)
            simp only [wp_yes, if_true, wp_bin, wp_ca, wp_cons, wp_nil, wp_var, List.set_cons_zero, List.set_cons_succ, List.getElem?_cons_succ, List.getElem?_cons_zero, Option.some.injEq, ex_eq, natA]
            rw [w_ixL]
            refine ⟨_, g1.stL hd, _, atL p pl, ?_⟩
            refine ⟨?_, rfl, ?_⟩
            · rw [size_eq]
              simp
              omega
            · rw [List.take_add_one, hj]
              simp [natA]
        · rintro st2 acc ⟨rfl, rfl⟩
          rw [List.length_map, List.take_length, w_sumL, stL_new]
          refine ⟨_, rfl, ps.map fun p : Nat => ((bAt R p).length : Int), ?_, ?_⟩
          · have := intsOf_map (ps.map fun p : Nat => ((bAt R p).length : Int))
            rw [List.map_map] at this
            exact this
          · have e1 : (ps.map fun p : Nat => ((bAt R p).length : Int)).sum = (lenI R (.cat ps) : Nat) := by
              simp only [lenI]
              exact sum_nat (fun p : Nat => (bAt R p).length) ps
            have := k _ (g1.trans (.one _ (.lst (ps.map fun p : Nat => natA (bAt R p).length))))
            rw [if_pos c1] at this
            rw [e1]
            exact this
      · have e0 : 0 < (ps.filter fun p => decide (R.length ≤ p)).length := by
          have : ∃ p ∈ ps, ¬ p < R.length := Classical.byContradiction fun h => c1 fun p hp => Classical.byContradiction fun q => h ⟨p, hp, q⟩
          obtain ⟨p, hp, q⟩ := this
          exact List.length_pos_of_mem (List.mem_filter.mpr ⟨hp, by simp; omega⟩)
        rw [if_pos (decide_eq_true (by omega))]
        simp only [sp_ret, wp_un, wp_c, w_neg]
        have := k _ g1
        rw [if_neg c1] at this
        exact this
end Law
namespace Law
open PySem L2 ML
open Classical
def m_law_outcome : MF := mFn 5 2 (mSeq (mSet 2 (mLst mNil))
    (mSeq (mFor (mRng (mCons (mCa lenA (mCons (mVar 1) mNil)) mNil)) (.one 3) (mSeq (mSet 4 (mCall m_law_length (mCons (mVar 0) (mCons (mVar 2) (mCons (mBin ixA (mVar 1) (mVar 3)) mNil)))))
    (mSeq (mIfS (mGB (mBin ltA (mVar 4) (mC (.int 0)))) (mRet (mTup (mCons (mC (.str "invalid")) (mCons (mVar 3) mNil)))) mNext)
    (mSeq (mIfS (mGB (mBin gtA (mVar 4) (mC (.int 2000)))) (mRet (mTup (mCons (mC (.str "elements")) (mCons (mVar 4) mNil)))) mNext)
    (mSeq (mExpr (mBm appendA (mVar 2) (mCons (mVar 4) mNil)))
    (mIfS (mGB (mBin gtA (mCa sumA (mCons (mVar 2) mNil)) (mC (.int 200000)))) (mRet (mTup (mCons (mC (.str "large")) (mCons (mVar 3) mNil)))) mNext))))))
    (mRet (mTup (mCons (mC (.str "fine")) (mCons (mCa sumA (mCons (mSl (mVar 2) (mPart (mUn negA (mC (.int 1)))) mNoPart) mNil)) mNil))))))
structure Good (B : List (List A)) (Is : List Ins) (R : List (List A)) : Prop where
  P : Prg B Is R
  sum : (R.map List.length).sum ≤ 200000
  len : ∀ x ∈ R, x.length ≤ 2000
inductive Fail (B R : List (List A)) (j : Nat) (I : Ins) : A → Er → Prop
  | inv : ¬ okV B R.length I → Fail B R j I (.tup [.str "invalid", .int (j : Nat)]) ⟨"InvalidInstruction", [("place", .int (j : Nat))]⟩
  | elm : okV B R.length I → 2000 < lenI R I → Fail B R j I (.tup [.str "elements", .int (lenI R I : Nat)]) ⟨"TooManyElements", [("count", .int (lenI R I : Nat))]⟩
  | lrg : okV B R.length I → lenI R I ≤ 2000 → 200000 < (R.map List.length).sum + lenI R I → Fail B R j I (.tup [.str "large", .int (j : Nat)]) ⟨"RecipeTooLarge", [("place", .int (j : Nat))]⟩
theorem stop_ex {B : List (List A)} {Is : List Ins} (sd : ∀ I ∈ Is, sdI I) (k : Nat) : k ≤ Is.length → (∃ R, Good B (Is.take k) R) ∨ ∃ j I R o e, j < k ∧ Is[j]? = some I ∧ Good B (Is.take j) R ∧ Fail B R j I o e := by
  induction k with
  | zero => exact fun _ => .inl ⟨[], ⟨⟨by simp, fun i I e => by simp at e⟩, by simp, by simp⟩⟩
  | succ k ih =>
    intro hk
    rcases ih (by omega) with ⟨R, G⟩ | ⟨j, I, R, o, e, h1, h2⟩
    · obtain ⟨I, hI⟩ : ∃ I, Is[k]? = some I := ⟨_, List.getElem?_eq_getElem (by omega)⟩
      have s := sd I (List.mem_of_getElem? hI)
      have hl := G.P.len
      rw [List.length_take] at hl
      by_cases c1 : okV B R.length I
      · have ok := (ok_iff (R := R) s).mpr c1
        by_cases c2 : lenI R I ≤ 2000
        · by_cases c3 : (R.map List.length).sum + lenI R I ≤ 200000
          · refine .inl ⟨R ++ [resI B R I], ⟨?_, ?_, ?_⟩⟩
            · rw [List.take_add_one, hI]
              exact G.P.snoc ok c2
            · rw [List.map_append, List.sum_append]
              simp only [List.map_cons, List.map_nil, List.sum_cons, List.sum_nil, lenI_eq ok]
              omega
            · intro x hx
              rcases List.mem_append.mp hx with z | z
              · exact G.len x z
              · rw [List.mem_singleton.mp z, lenI_eq ok]
                exact c2
          · exact .inr ⟨k, I, R, _, _, by omega, hI, G, .lrg c1 c2 (by omega)⟩
        · exact .inr ⟨k, I, R, _, _, by omega, hI, G, .elm c1 (by omega)⟩
      · exact .inr ⟨k, I, R, _, _, by omega, hI, G, .inv c1⟩
    · exact .inr ⟨j, I, R, o, e, by omega, h2⟩
structure OcI (B : List (List A)) (Is : List Ins) (R : List (List A)) (b c : Nat) (bs : List A) (st0 : Store) (i : Nat) (st : Store) : Prop where
  g : Grown st0 st
  hd : stL st st0.length = some ((R.take i).map fun x => natA x.length)
def OcV (b c d : Nat) (v3 v4 : Option A) : ML.Env := [some (.ref b), some (.ref c), some (.ref d), v3, v4]
section
variable {B R : List (List A)} {Is : List Ins} {b c : Nat} {bs : List A} {st0 : Store}
theorem oc_step {i : Nat} {I : Ins} {st : Store} {v4 : Option A} {N Bk : ML.Env → Store → Prop} {Rt : A → Store → Prop} {n : Int} (sd : sdI I) (hb : stL st0 b = some bs) (hc : stL st0 c = some (Is.map insA)) (hB : BsL B bs st0) (hBl : B.length ≤ 100) (hB2 : ∀ x ∈ B, x.length ≤ 2000) (hI : Is[i]? = some I) (hR2 : ∀ x ∈ R, x.length ≤ 2000) (hRl : R.length ≤ 100000) (S : OcI B Is R b c bs st0 i st) (hlen : (R.take i).length = i)
    (hn : n = if okV B i I then ((lenI (R.take i) I : Nat) : Int) else -1)
    (k1 : n < 0 → ∀ st', Grown st0 st' → Rt (.tup [.str "invalid", .int (i : Nat)]) st')
    (k2 : 0 ≤ n → 2000 < n → ∀ st', Grown st0 st' → Rt (.tup [.str "elements", .int n]) st')
    (k3 : 0 ≤ n → n ≤ 2000 → 200000 < (((R.take i).map List.length).sum : Nat) + n → ∀ st', Grown st0 st' → Rt (.tup [.str "large", .int (i : Nat)]) st')
    (k4 : 0 ≤ n → n ≤ 2000 → (((R.take i).map List.length).sum : Nat) + n ≤ 200000 → ∀ st' v4', Grown st0 st' → stL st' st0.length = some ((R.take i).map (fun x => natA x.length) ++ [.int n]) → N (OcV b c st0.length (some (.int (0 + (i : Nat)))) v4') st') :
    ((mSeq (mSet 4 (mCall m_law_length (mCons (mVar 0) (mCons (mVar 2) (mCons (mBin ixA (mVar 1) (mVar 3)) mNil)))))
    (mSeq (mIfS (mGB (mBin ltA (mVar 4) (mC (.int 0)))) (mRet (mTup (mCons (mC (.str "invalid")) (mCons (mVar 3) mNil)))) mNext)
    (mSeq (mIfS (mGB (mBin gtA (mVar 4) (mC (.int 2000)))) (mRet (mTup (mCons (mC (.str "elements")) (mCons (mVar 4) mNil)))) mNext)
    (mSeq (mExpr (mBm appendA (mVar 2) (mCons (mVar 4) mNil)))
    (mIfS (mGB (mBin gtA (mCa sumA (mCons (mVar 2) mNil)) (mC (.int 200000)))) (mRet (mTup (mCons (mC (.str "large")) (mCons (mVar 3) mNil)))) mNext))))) (OcV b c st0.length (some (.int (0 + (i : Nat)))) v4) st).wp N Bk N Rt := by
  have LW := @length_wp
  generalize m_law_length = ml at LW ⊢
  have hs := size_eq
  have hdl : (R.take i).length ≤ 100000 := by rw [List.length_take]; omega
  have aI : atI (Is.map insA) (0 + (i : Int)) = some (insA I) := by
    rw [Int.zero_add, atI_nn (by omega), Int.toNat_natCast, List.getElem?_map, hI]; rfl
  rw [sp_seq]
  simp only [OcV, sp_set, wp_call, wp_bin, wp_cons, wp_nil, wp_var, List.set_cons_zero, List.set_cons_succ, List.getElem?_cons_succ, List.getElem?_cons_zero, Option.some.injEq, ex_eq, w_ixL, S.g.stL hc, aI]
  refine LW (R := R.take i) sd (S.g.stL hb) (hB.grown S.g) hBl hB2 S.hd hdl (fun x hx => hR2 x (List.mem_of_mem_take hx)) fun st1 g1 => ?_
  rw [hlen, ← hn]
  have gg := S.g.trans g1
  rw [sp_seq]
  simp only [sp_ifs, wp_gb, wp_bin, wp_var, wp_c, List.getElem?_cons_succ, List.getElem?_cons_zero, Option.some.injEq, ex_eq, w_lt, w_getB]
  by_cases c1 : n < 0
  · rw [if_pos (decide_eq_true c1)]
    simp only [sp_ret, wp_tup, wp_cons, wp_nil, wp_var, wp_c, List.getElem?_cons_succ, List.getElem?_cons_zero, Option.some.injEq, ex_eq, Int.zero_add]
    exact ⟨by rw [hs]; simp, k1 c1 _ gg⟩
  rw [if_neg (by rw [decide_eq_true_eq]; exact c1), sp_next, sp_seq]
  simp only [sp_ifs, wp_gb, wp_bin, wp_var, wp_c, List.getElem?_cons_succ, List.getElem?_cons_zero, Option.some.injEq, ex_eq, w_gt, w_getB]
  by_cases c2 : 2000 < n
  · rw [if_pos (decide_eq_true c2)]
    simp only [sp_ret, wp_tup, wp_cons, wp_nil, wp_var, wp_c, List.getElem?_cons_succ, List.getElem?_cons_zero, Option.some.injEq, ex_eq]
    exact ⟨by rw [hs]; simp, k2 (by omega) c2 _ gg⟩
  rw [if_neg (by rw [decide_eq_true_eq]; exact c2), sp_next, sp_seq]
  have hd1 := g1.stL S.hd
  simp only [sp_expr, wp_bm, wp_cons, wp_nil, wp_var, List.getElem?_cons_succ, List.getElem?_cons_zero, Option.some.injEq, ex_eq, isL_ref, hd1, Option.isSome_some]
  refine ⟨trivial, ?_⟩
  rw [w_append, hd1]
  refine ⟨_, rfl, by rw [hs, List.length_map]; omega, ?_⟩
  have hd2 : stL (st1.set st0.length (.lst ((R.take i).map (fun x => natA x.length) ++ [.int n]))) st0.length = some ((R.take i).map (fun x => natA x.length) ++ [.int n]) := stL_set_self hd1
  have g2 : Grown st0 (st1.set st0.length (.lst ((R.take i).map (fun x => natA x.length) ++ [.int n]))) := Grown.setHi gg (Nat.le_refl _)
  simp only [sp_ifs, wp_gb, wp_bin, wp_ca, wp_cons, wp_nil, wp_var, wp_c, List.getElem?_cons_succ, List.getElem?_cons_zero, Option.some.injEq, ex_eq]
  refine w_sumI (ns := ((R.take i).map fun x => ((x.length : Nat) : Int)) ++ [n]) (by rw [hd2, List.map_append, List.map_map]; rfl) ?_
  have e1 : (((R.take i).map fun x => ((x.length : Nat) : Int)) ++ [n]).sum = (((R.take i).map List.length).sum : Nat) + n := by
    have h0 : ∀ l : List (List A), (l.map fun x => ((x.length : Nat) : Int)).sum = ((l.map List.length).sum : Nat) := fun l => by
      induction l with
      | nil => rfl
      | cons a l ih => simp only [List.map_cons, List.sum_cons, ih]; omega
    rw [List.sum_append, h0]
    simp
  rw [e1, w_gt, w_getB]
  by_cases c3 : 200000 < (((R.take i).map List.length).sum : Nat) + n
  · rw [if_pos (decide_eq_true c3)]
    simp only [sp_ret, wp_tup, wp_cons, wp_nil, wp_var, wp_c, List.getElem?_cons_succ, List.getElem?_cons_zero, Option.some.injEq, ex_eq, Int.zero_add]
    exact ⟨by rw [hs]; simp, k3 (by omega) (by omega) c3 _ g2⟩
  · rw [if_neg (by rw [decide_eq_true_eq]; exact c3), sp_next]
    exact k4 (by omega) (by omega) (by omega) _ _ g2 hd2
theorem outcome_wp {Q : A → Store → Prop} (sd : ∀ I ∈ Is, sdI I) (hb : stL st0 b = some bs) (hc : stL st0 c = some (Is.map insA)) (hB : BsL B bs st0) (hBl : B.length ≤ 100) (hB2 : ∀ x ∈ B, x.length ≤ 2000) (hIl : Is.length ≤ 100000)
    (h : (Good B Is R ∧ ∀ st', Grown st0 st' → Q (.tup [.str "fine", .int ((bAt ([] :: R) R.length).length : Nat)]) st') ∨ ∃ j I o e, Is[j]? = some I ∧ Good B (Is.take j) R ∧ Fail B R j I o e ∧ ∀ st', Grown st0 st' → Q o st') : (m_law_outcome [.ref b, .ref c] st0).wp Q := by
  simp only [m_law_outcome]
  have OS := @oc_step B R Is b c bs st0
  rw [wp_fn]
  refine ⟨rfl, ?_⟩
  simp only [List.map_cons, List.map_nil, List.cons_append, List.nil_append, List.replicate, Nat.reduceSub]
  generalize hbd : (mSeq (mSet 4 (mCall m_law_length (mCons (mVar 0) (mCons (mVar 2) (mCons (mBin ixA (mVar 1) (mVar 3)) mNil)))))
    (mSeq (mIfS (mGB (mBin ltA (mVar 4) (mC (.int 0)))) (mRet (mTup (mCons (mC (.str "invalid")) (mCons (mVar 3) mNil)))) mNext)
    (mSeq (mIfS (mGB (mBin gtA (mVar 4) (mC (.int 2000)))) (mRet (mTup (mCons (mC (.str "elements")) (mCons (mVar 4) mNil)))) mNext)
    (mSeq (mExpr (mBm appendA (mVar 2) (mCons (mVar 4) mNil)))
    (mIfS (mGB (mBin gtA (mCa sumA (mCons (mVar 2) mNil)) (mC (.int 200000)))) (mRet (mTup (mCons (mC (.str "large")) (mCons (mVar 3) mNil)))) mNext))))) = bd at OS ⊢
  generalize hF : @mFor = F
  rw [sp_seq]
  simp only [sp_set, wp_lst, wp_nil, List.set_cons_zero, List.set_cons_succ]
  refine ⟨by simp [sizeLine], ?_⟩
  obtain ⟨j, hj, G, hcase⟩ : ∃ j, j ≤ Is.length ∧ Good B (Is.take j) R ∧ ((j = Is.length ∧ ∀ st', Grown st0 st' → Q (.tup [.str "fine", .int ((bAt ([] :: R) R.length).length : Nat)]) st') ∨ ∃ I o e, Is[j]? = some I ∧ Fail B R j I o e ∧ ∀ st', Grown st0 st' → Q o st') := by
    rcases h with ⟨G, k⟩ | ⟨j, I, o, e, h1, h2, h3, k⟩
    · exact ⟨Is.length, Nat.le_refl _, by rw [List.take_length]; exact G, .inl ⟨rfl, k⟩⟩
    · exact ⟨j, by have := (List.getElem?_eq_some_iff.mp h1).1; omega, h2, .inr ⟨I, o, e, h1, h3, k⟩⟩
  have hRl : R.length = j := by
    have := G.P.len
    rw [List.length_take] at this
    omega
  let J : Nat → ML.Env → Store → Prop := fun i ρ st => i ≤ j ∧ ∃ v3 v4, OcI B Is R b c bs st0 i st ∧ ρ = OcV b c st0.length v3 v4
  refine seq_cutR (fun ρ st => j = Is.length ∧ J Is.length ρ st) ?_ ?_
  · rw [← hF]
    have hc1 : stL (st0 ++ [Ob.lst []]) c = some (Is.map insA) := Grown.stL (.one _ _) hc
    simp only [sp_for, wp_rng, wp_ca, wp_cons, wp_nil, wp_var, List.getElem?_cons_succ, List.getElem?_cons_zero, Option.some.injEq, ex_eq, w_lenL, hc1, List.length_map, w_rng1]
    refine ⟨⟨by omega, by omega⟩, ?_⟩
    rw [Int.toNat_natCast]
    refine for_rng J ⟨Nat.zero_le _, none, none, ⟨.one _ _, by simpa using stL_new⟩, rfl⟩ ?_ (fun _ _ h => ⟨by have := h.1; omega, h⟩)
    rintro i ρ st hi ⟨hij, v3, v4, S, rfl⟩
    obtain ⟨I, hI⟩ : ∃ I, Is[i]? = some I := ⟨_, List.getElem?_eq_getElem hi⟩
    refine ⟨OcV b c st0.length (some (.int (0 + (i : Nat)))) v4, rfl, ?_⟩
    have hlen : (R.take i).length = i := by rw [List.length_take]; omega
    have sI := sd I (List.mem_of_getElem? hI)
    have lt : i < j → okI B (R.take i) I ∧ R[i]? = some (resI B (R.take i) I) ∧ lenI (R.take i) I ≤ 2000 := fun q => G.P.has i I (by rw [List.getElem?_take_of_lt q]; exact hI)
    have lq : i < j → okV B i I := fun q => by have := (ok_iff sI).mp (lt q).1; rwa [hlen] at this
    have sums : i < j → ((R.take i).map List.length).sum + lenI (R.take i) I ≤ 200000 := fun q => by
      obtain ⟨o1, o2, _⟩ := lt q
      have h1 : ((R.take (i + 1)).map List.length).sum = ((R.take i).map List.length).sum + lenI (R.take i) I := by
        rw [List.take_add_one, o2, Option.toList_some, List.map_append, List.map_cons, List.map_nil, List.sum_append, List.sum_cons, List.sum_nil, lenI_eq o1]
        omega
      have h2 := G.sum
      have e : R.map List.length = (R.take (i + 1)).map List.length ++ (R.drop (i + 1)).map List.length := by rw [← List.map_append, List.take_append_drop]
      rw [e, List.sum_append] at h2
      omega
    have eq : ¬ i < j → i = j ∧ R.take i = R ∧ ∃ o e, Fail B R j I o e ∧ ∀ st', Grown st0 st' → Q o st' := fun q => by
      have e : i = j := by omega
      refine ⟨e, List.take_of_length_le (by omega), ?_⟩
      rcases hcase with ⟨h1, _⟩ | ⟨I', o, e', h1, h2, h3⟩
      · omega
      · rw [← e, hI] at h1
        cases h1
        exact ⟨o, e', h2, h3⟩
    refine OS sI hb hc hB hBl hB2 hI G.len (by omega) S hlen rfl (fun n1 st' g => ?_) (fun n0 n1 st' g => ?_) (fun n0 n1 n2 st' g => ?_) (fun n0 n1 n2 st' v4' g hd => ?_)
    · by_cases q : i < j
      · rw [if_pos (lq q)] at n1; omega
      · obtain ⟨e, e2, o, er, F, k⟩ := eq q
        rw [e2] at n1
        cases F with
        | inv h => rw [e]; exact k st' g
        | elm h _ => rw [if_pos (by rw [e, ← hRl]; exact h)] at n1; omega
        | lrg h _ _ => rw [if_pos (by rw [e, ← hRl]; exact h)] at n1; omega
    · by_cases q : i < j
      · rw [if_pos (lq q)] at n1; have := (lt q).2.2; omega
      · obtain ⟨e, e2, o, er, F, k⟩ := eq q
        rw [e2] at n1 n0 ⊢
        cases F with
        | inv h => rw [if_neg (by rw [e, ← hRl]; exact h)] at n0; omega
        | elm h _ => rw [if_pos (by rw [e, ← hRl]; exact h)]; exact k st' g
        | lrg h _ _ => rw [if_pos (by rw [e, ← hRl]; exact h)] at n1; omega
    · by_cases q : i < j
      · rw [if_pos (lq q)] at n2; have := sums q; omega
      · obtain ⟨e, e2, o, er, F, k⟩ := eq q
        rw [e2] at n1 n0 n2
        cases F with
        | inv h => rw [if_neg (by rw [e, ← hRl]; exact h)] at n0; omega
        | elm h _ => rw [if_pos (by rw [e, ← hRl]; exact h)] at n1; omega
        | lrg h _ _ => rw [e]; exact k st' g
    · by_cases q : i < j
      · rw [if_pos (lq q)] at hd
        refine ⟨by omega, _, v4', ⟨g, ?_⟩, rfl⟩
        rw [hd, List.take_add_one, (lt q).2.1, Option.toList_some, List.map_append]
        simp only [List.map_cons, List.map_nil, natA, lenI_eq (lt q).1]
      · obtain ⟨e, e2, o, er, F, k⟩ := eq q
        exfalso
        rw [e2] at n1 n0 n2
        cases F with
        | inv h => rw [if_neg (by rw [e, ← hRl]; exact h)] at n0; omega
        | elm h _ => rw [if_pos (by rw [e, ← hRl]; exact h)] at n1; omega
        | lrg h _ _ => rw [if_pos (by rw [e, ← hRl]; exact h)] at n2; omega
  · rintro ρ st ⟨hjl, _, v3, v4, S, rfl⟩
    have hd := S.hd
    have e2 : R.take Is.length = R := List.take_of_length_le (by omega)
    rw [e2] at hd
    have k : ∀ st', Grown st0 st' → Q (.tup [.str "fine", .int ((bAt ([] :: R) R.length).length : Nat)]) st' := by
      rcases hcase with ⟨_, k⟩ | ⟨I, o, e, h1, _⟩
      · exact k
      · have := (List.getElem?_eq_some_iff.mp h1).1
        omega
    simp only [OcV, sp_ret, wp_tup, wp_ca, wp_sl, wp_part, wp_noPart, wp_un, wp_cons, wp_nil, wp_var, wp_c, List.getElem?_cons_succ, List.getElem?_cons_zero, Option.some.injEq, ex_eq, w_neg, w_getI]
    refine cutl_wp hd ?_
    refine w_sumI (ns := (R.drop (R.length - 1)).map fun x => ((x.length : Nat) : Int)) (by rw [stL_new, cut_last1, List.length_map, ← List.map_drop, List.map_map]; rfl) ?_
    have e3 : ((R.drop (R.length - 1)).map fun x => ((x.length : Nat) : Int)).sum = ((bAt ([] :: R) R.length).length : Nat) := by
      by_cases hR : R = []
      · subst hR; rfl
      · obtain ⟨Ri, x, rfl⟩ : ∃ Ri x, R = Ri ++ [x] := ⟨R.dropLast, R.getLast hR, (List.dropLast_concat_getLast hR).symm⟩
        rw [bat_nat, List.length_append, List.length_singleton, Nat.add_sub_cancel, List.drop_left]
        simp
    rw [e3]
    exact ⟨by rw [size_eq]; simp, k _ (S.g.trans (.one _ _))⟩
end
theorem sr_nx {r : SR} {I : ML.Env → Store → Prop} (h : r.wp I (fun _ _ => False) (fun _ _ => False) (fun _ _ => False)) : ∃ ρ st, r = .nx ρ st ∧ I ρ st := by
  cases r with
  | nx ρ st => exact ⟨ρ, st, rfl, h⟩
  | _ => exact h.elim
theorem sq_nx {m1 m2 : MS} {ρ ρ1 : ML.Env} {st st1 : Store} (h : m1 ρ st = .nx ρ1 st1) : mSeq m1 m2 ρ st = m2 ρ1 st1 := by
  unfold mSeq
  rw [h]
theorem sq_er {m1 m2 : MS} {ρ ρ1 : ML.Env} {st st1 : Store} {e : Er} (h : m1 ρ st = .er e ρ1 st1) : mSeq m1 m2 ρ st = .er e ρ1 st1 := by
  unfold mSeq
  rw [h]
theorem fnn_er {n k : Nat} {body : MS} {as : List A} {st st1 : Store} {ρ : ML.Env} {e : Er} (hl : as.length = k) (hb : body (as.map some ++ List.replicate (n - k) none) st = .er e ρ st1) : mFn n k body as st = .er e st1 := by
  unfold mFn
  rw [if_pos hl, hb]
theorem lp_er {s : Src} {tg : Tg} {body : MS} {e : Er} (j : Nat) (it : Nat → A) (I : Nat → ML.Env → Store → Prop) (hat : ∀ i ρ st, i ≤ j → I i ρ st → s.at i st = some (some (it i)))
    (hs : ∀ i ρ st, i < j → I i ρ st → ∃ ρ1, asgT tg (it i) ρ st = some ρ1 ∧ (body ρ1 st).wp (I (i + 1)) (fun _ _ => False) (fun _ _ => False) (fun _ _ => False))
    (he : ∀ ρ st, I j ρ st → ∃ ρ1, asgT tg (it j) ρ st = some ρ1 ∧ ∃ ρ2 st2, body ρ1 st = .er e ρ2 st2) :
    ∀ (k i : Nat) (ρ : ML.Env) (st : Store), j < i + k → i ≤ j → I i ρ st → ∃ ρ2 st2, loopF s tg body k i ρ st = .er e ρ2 st2
  | 0, i, ρ, st, hk, hi, h => by omega
  | k + 1, i, ρ, st, hk, hle, h => by
    unfold loopF
    rw [hat i ρ st hle h]
    by_cases hi : i < j
    · obtain ⟨ρ1, e1, hb⟩ := hs i ρ st hi h
      obtain ⟨ρ2, st2, e2, h2⟩ := sr_nx hb
      simp only [e1, e2]
      exact lp_er j it I hat hs he k (i + 1) ρ2 st2 (by omega) (by omega) h2
    · have : i = j := by omega
      subst this
      obtain ⟨ρ1, e1, ρ2, st2, e2⟩ := he ρ st h
      simp only [e1, e2]
      exact ⟨_, _, rfl⟩
theorem fr_er {s : Src} {ms : ML.Env → Store → R Src} {tg : Tg} {body : MS} {ρ ρ2 : ML.Env} {st st1 st2 : Store} {e : Er} (h : ms ρ st = .ok s st1) (h2 : loopF s tg body (s.size st1 + 1) 0 ρ st1 = .er e ρ2 st2) : mFor ms tg body ρ st = .er e ρ2 st2 := by
  unfold mFor
  rw [h]
  exact h2
def rb1 : MS := mIfS (mNot (mTru (mCall m_is_valid (mCons (mVar 5) (mCons (mVar 4) (mCons (mVar 1) mNil)))))) (mRaise "InvalidInstruction" "place" (mVar 4)) mNext
def rb2 : MS := mSet 6 (mCall m_result_length (mCons (mVar 5) (mCons (mVar 2) mNil)))
def rb3 : MS := mExpr (mCall m_check_count (mCons (mVar 6) mNil))
def rb4 : MS := mAug 3 iaddA (mVar 6)
def rb5 : MS := mIfS (mGB (mBin gtA (mVar 3) (mC (.int 200000)))) (mRaise "RecipeTooLarge" "place" (mVar 4)) mNext
def rb6 : MS := mExpr (mBm appendA (mVar 2) (mCons (mCall m_result_of (mCons (mVar 5) (mCons (mVar 2) (mCons (mVar 1) mNil)))) mNil))
def rbA : MS := mSeq rb1 (mSeq rb2 (mSeq rb3 (mSeq rb4 (mSeq rb5 rb6))))
structure RnI (B : List (List A)) (Is : List Ins) (R : List (List A)) (st0 : Store) (i : Nat) (T : Int) (st : Store) : Prop where
  t0 : 0 ≤ T
  t1 : T = (((R.take i).map List.length).sum : Nat)
  g : Grown st0 st
  hd : stL st st0.length = some ((R.take i).map A.tup)
def RnV (B : List (List A)) (Is : List Ins) (d : Nat) (T : Int) (v4 v5 v6 : Option A) : ML.Env := [some (.tup (Is.map insA)), some (.tup (B.map A.tup)), some (.ref d), some (.int T), v4, v5, v6]
section
variable {B R : List (List A)} {Is : List Ins} {st0 : Store}
theorem rb1_ok {i : Nat} {I : Ins} {T : Int} {v6 : Option A} {st : Store} (o : okI B (R.take i) I) (hl : (R.take i).length = i) : ∃ st', rb1 (RnV B Is st0.length T (some (.int (i : Nat))) (some (insA I)) v6) st = .nx (RnV B Is st0.length T (some (.int (i : Nat))) (some (insA I)) v6) st' ∧ Grown st st' := by
  obtain ⟨ρ, st', e, rfl, g⟩ := sr_nx (r := rb1 (RnV B Is st0.length T (some (.int (i : Nat))) (some (insA I)) v6) st) (I := fun ρ st' => ρ = RnV B Is st0.length T (some (.int (i : Nat))) (some (insA I)) v6 ∧ Grown st st') (by
    have V := @valid_wp B (R.take i)
    rw [hl] at V
    unfold rb1
    simp only [RnV, sp_ifs, wp_not, wp_tru, wp_call, wp_cons, wp_nil, wp_var, List.getElem?_cons_succ, List.getElem?_cons_zero, Option.some.injEq, ex_eq]
    refine V o fun st3 g3 => ?_
    rw [w_truB, if_neg (by simp), sp_next]
    exact ⟨rfl, g3⟩)
  exact ⟨st', e, g⟩
theorem rb2_ok {i : Nat} {I : Ins} {T : Int} {v6 : Option A} {st : Store} (o : okI B (R.take i) I) (hR : ∀ x ∈ R, x.length ≤ 2000) (hd : stL st st0.length = some ((R.take i).map A.tup)) : ∃ st', rb2 (RnV B Is st0.length T (some (.int (i : Nat))) (some (insA I)) v6) st = .nx (RnV B Is st0.length T (some (.int (i : Nat))) (some (insA I)) (some (.int (lenI (R.take i) I : Nat)))) st' ∧ Grown st st' := by
  obtain ⟨ρ, st', e, rfl, g⟩ := sr_nx (r := rb2 (RnV B Is st0.length T (some (.int (i : Nat))) (some (insA I)) v6) st) (I := fun ρ st' => ρ = RnV B Is st0.length T (some (.int (i : Nat))) (some (insA I)) (some (.int (lenI (R.take i) I : Nat))) ∧ Grown st st') (by
    unfold rb2
    simp only [RnV, sp_set, wp_call, wp_cons, wp_nil, wp_var, List.set_cons_zero, List.set_cons_succ, List.getElem?_cons_succ, List.getElem?_cons_zero, Option.some.injEq, ex_eq]
    exact rlen_wp hd (fun x hx => hR x (List.mem_of_mem_take hx)) o fun st4 g4 => ⟨rfl, g4⟩)
  exact ⟨st', e, g⟩
theorem rb3_ok {n : Nat} {T : Int} {v4 v5 : Option A} {st : Store} (h : n ≤ 2000) : rb3 (RnV B Is st0.length T v4 v5 (some (.int (n : Nat)))) st = .nx (RnV B Is st0.length T v4 v5 (some (.int (n : Nat)))) st := by
  obtain ⟨ρ, st', e, rfl, rfl⟩ := sr_nx (r := rb3 (RnV B Is st0.length T v4 v5 (some (.int (n : Nat)))) st) (I := fun ρ st' => ρ = RnV B Is st0.length T v4 v5 (some (.int (n : Nat))) ∧ st' = st) (by
    unfold rb3
    simp only [RnV, sp_expr, wp_call, wp_cons, wp_nil, wp_var, List.getElem?_cons_succ, List.getElem?_cons_zero, Option.some.injEq, ex_eq]
    exact cc_wp (by omega) ⟨by trivial, by trivial⟩)
  exact e
theorem cc_er {n : Int} {st : Store} (h : 2000 < n) : m_check_count [.int n] st = .er ⟨"TooManyElements", [("count", .int n)]⟩ st := by
  unfold m_check_count
  refine fnn_er (ρ := [some (.int n)]) rfl ?_
  have e : (mGB (mBin gtA (mVar 0) (mC (.int 2000)))) [some (.int n)] st = .ok true st := by
    show R.ok (decide (2000 < n)) st = _
    rw [decide_eq_true h]
  show mIfS _ _ _ [some (A.int n)] st = _
  unfold mIfS
  rw [e]
  rfl
theorem rb4_ok {n : Nat} {T : Int} {d : Nat} {v4 v5 : Option A} {st : Store} : rb4 (RnV B Is d T v4 v5 (some (.int (n : Nat)))) st = .nx (RnV B Is d (T + (n : Nat)) v4 v5 (some (.int (n : Nat)))) st := rfl
theorem rb5_c {T : Int} {d : Nat} {v4 v5 v6 : Option A} {st : Store} : (mGB (mBin gtA (mVar 3) (mC (.int 200000)))) (RnV B Is d T v4 v5 v6) st = .ok (decide (200000 < T)) st := rfl
theorem rb5_ok {T : Int} {d : Nat} {v4 v5 v6 : Option A} {st : Store} (h : T ≤ 200000) : rb5 (RnV B Is d T v4 v5 v6) st = .nx (RnV B Is d T v4 v5 v6) st := by
  unfold rb5 mIfS
  rw [rb5_c, decide_eq_false (by omega)]
  rfl
theorem rb5_er {T : Int} {d j : Nat} {v5 v6 : Option A} {st : Store} (h : 200000 < T) : rb5 (RnV B Is d T (some (.int (j : Nat))) v5 v6) st = .er ⟨"RecipeTooLarge", [("place", .int (j : Nat))]⟩ (RnV B Is d T (some (.int (j : Nat))) v5 v6) st := by
  unfold rb5 mIfS
  rw [rb5_c, decide_eq_true h]
  rfl
theorem rb3_er {n : Nat} {T : Int} {d : Nat} {v4 v5 : Option A} {st : Store} (h : 2000 < n) : rb3 (RnV B Is d T v4 v5 (some (.int (n : Nat)))) st = .er ⟨"TooManyElements", [("count", .int (n : Nat))]⟩ (RnV B Is d T v4 v5 (some (.int (n : Nat)))) st := by
  have e : (mCall m_check_count (mCons (mVar 6) mNil)) (RnV B Is d T v4 v5 (some (.int (n : Nat)))) st = .er ⟨"TooManyElements", [("count", .int (n : Nat))]⟩ st := cc_er (by omega)
  unfold rb3 mExpr
  rw [e]
  rfl
theorem rb1_er {j : Nat} {I : Ins} {T : Int} {d : Nat} {v6 : Option A} {st : Store} (s : sdI I) (o : ¬ okV B j I) : ∃ st', rb1 (RnV B Is d T (some (.int (j : Nat))) (some (insA I)) v6) st = .er ⟨"InvalidInstruction", [("place", .int (j : Nat))]⟩ (RnV B Is d T (some (.int (j : Nat))) (some (insA I)) v6) st' := by
  have key : ((mNot (mTru (mCall m_is_valid (mCons (mVar 5) (mCons (mVar 4) (mCons (mVar 1) mNil)))))) (RnV B Is d T (some (.int (j : Nat))) (some (insA I)) v6) st).wp fun b _ => b = true := by
    simp only [RnV, wp_not, wp_tru, wp_call, wp_cons, wp_nil, wp_var, List.getElem?_cons_succ, List.getElem?_cons_zero, Option.some.injEq, ex_eq]
    refine invalid_wp s o fun st3 g3 => ?_
    rw [w_truB]
    rfl
  obtain ⟨b, st', e, rfl⟩ := R.wp.ex key
  refine ⟨st', ?_⟩
  unfold rb1 mIfS
  rw [e]
  rfl
theorem run_er {j : Nat} {I : Ins} {o : A} {e : Er} (hIl : Is.length ≤ 100000) (s : sdI I) (hI : Is[j]? = some I) (G : Good B (Is.take j) R) (F : Fail B R j I o e) : ∃ st', m_run_recipe [.tup (Is.map insA), .tup (B.map A.tup)] st0 = .er e st' := by
  have hjl := (List.getElem?_eq_some_iff.mp hI).1
  have hRl : R.length = j := by
    have := G.P.len
    rw [List.length_take] at this
    omega
  have hRj : R.take j = R := List.take_of_length_le (by omega)
  obtain ⟨ρ2, st2, e2⟩ := lp_er (s := .zipv (cntA Is.length) (Is.map insA)) (tg := .many [4, 5]) (body := rbA) (e := e) j (fun i => .tup [.int (i : Nat), insA (Is.getD i (.lit .non))]) (fun i ρ st => ∃ T v4 v5 v6, RnI B Is R st0 i T st ∧ ρ = RnV B Is st0.length T v4 v5 v6)
    (fun i ρ st hi _ => by
      have hil : i < Is.length := by omega
      simp [Src.at, cntA, hil])
    (fun i ρ st hi ⟨T, v4, v5, v6, S, e⟩ => by
      subst e
      obtain ⟨J, hJ⟩ : ∃ J, Is[i]? = some J := ⟨_, List.getElem?_eq_getElem (by omega)⟩
      have hJd : Is.getD i (.lit .non) = J := by rw [List.getD_eq_getElem?_getD, hJ]; rfl
      rw [hJd]
      obtain ⟨o1, o2, o3⟩ := G.P.has i J (by rw [List.getElem?_take_of_lt hi]; exact hJ)
      have hl : (R.take i).length = i := by rw [List.length_take]; omega
      have hsum : ((R.take (i + 1)).map List.length).sum = ((R.take i).map List.length).sum + lenI (R.take i) J := by
        rw [List.take_add_one, o2, Option.toList_some, List.map_append, List.map_cons, List.map_nil, List.sum_append, List.sum_cons, List.sum_nil, lenI_eq o1]
        omega
      have hle : ((R.take (i + 1)).map List.length).sum ≤ 200000 := by
        have h2 := G.sum
        have e : R.map List.length = (R.take (i + 1)).map List.length ++ (R.drop (i + 1)).map List.length := by rw [← List.map_append, List.take_append_drop]
        rw [e, List.sum_append] at h2
        omega
      have ht := S.t1
      refine ⟨RnV B Is st0.length T (some (.int (i : Nat))) (some (insA J)) v6, rfl, ?_⟩
      obtain ⟨s1, e1, g1⟩ := rb1_ok (Is := Is) (st0 := st0) (T := T) (v6 := v6) (st := st) o1 hl
      obtain ⟨s2, e2, g2⟩ := rb2_ok (Is := Is) (st0 := st0) (T := T) (v6 := v6) (st := s1) (i := i) o1 G.len (g1.stL S.hd)
      have hd2 := g2.stL (g1.stL S.hd)
      unfold rbA
      rw [sq_nx e1, sq_nx e2, sq_nx (rb3_ok o3), sq_nx rb4_ok, sq_nx (rb5_ok (by omega))]
      unfold rb6
      simp only [RnV, sp_expr, wp_bm, wp_call, wp_cons, wp_nil, wp_var, List.getElem?_cons_succ, List.getElem?_cons_zero, Option.some.injEq, ex_eq, isL_ref, hd2, Option.isSome_some]
      refine ⟨trivial, ?_⟩
      refine rof_wp hd2 (fun x hx => G.len x (List.mem_of_mem_take hx)) o1 fun st5 g5 => ?_
      have hd5 := g5.stL hd2
      rw [w_append, hd5]
      refine ⟨_, rfl, by rw [size_eq, List.length_map]; omega, T + (lenI (R.take i) J : Nat), _, _, _, ⟨by have := S.t0; omega, by omega, Grown.setHi (((S.g.trans g1).trans g2).trans g5) (Nat.le_refl _), ?_⟩, rfl⟩
      rw [stL_set_self hd5, List.take_add_one, o2, List.map_append]
      rfl)
    (fun ρ st ⟨T, v4, v5, v6, S, e⟩ => by
      subst e
      have hJd : Is.getD j (.lit .non) = I := by rw [List.getD_eq_getElem?_getD, hI]; rfl
      rw [hJd]
      have hd := S.hd
      have ht := S.t1
      rw [hRj] at ht
      refine ⟨RnV B Is st0.length T (some (.int (j : Nat))) (some (insA I)) v6, rfl, ?_⟩
      have hl : (R.take j).length = j := by rw [hRj]; exact hRl
      unfold rbA
      cases F with
      | inv h =>
        obtain ⟨s1, e1⟩ := rb1_er (Is := Is) (d := st0.length) (T := T) (v6 := v6) (st := st) (j := j) s (by rw [← hRl]; exact h)
        exact ⟨_, _, sq_er e1⟩
      | elm h h2 =>
        have o1 : okI B (R.take j) I := by rw [hRj]; exact (ok_iff s).mpr h
        obtain ⟨s1, e1, g1⟩ := rb1_ok (Is := Is) (st0 := st0) (T := T) (v6 := v6) (st := st) o1 hl
        obtain ⟨s2, e2, g2⟩ := rb2_ok (Is := Is) (st0 := st0) (T := T) (v6 := v6) (st := s1) (i := j) o1 G.len (g1.stL hd)
        rw [hRj] at e2
        rw [sq_nx e1, sq_nx e2]
        exact ⟨_, _, sq_er (rb3_er h2)⟩
      | lrg h h2 h3 =>
        have o1 : okI B (R.take j) I := by rw [hRj]; exact (ok_iff s).mpr h
        obtain ⟨s1, e1, g1⟩ := rb1_ok (Is := Is) (st0 := st0) (T := T) (v6 := v6) (st := st) o1 hl
        obtain ⟨s2, e2, g2⟩ := rb2_ok (Is := Is) (st0 := st0) (T := T) (v6 := v6) (st := s1) (i := j) o1 G.len (g1.stL hd)
        rw [hRj] at e2
        rw [sq_nx e1, sq_nx e2, sq_nx (rb3_ok h2), sq_nx rb4_ok]
        exact ⟨_, _, sq_er (rb5_er (by omega))⟩)
    (Src.size (.zipv (cntA Is.length) (Is.map insA)) (st0 ++ [.lst []]) + 1) 0 (RnV B Is st0.length 0 none none none) (st0 ++ [.lst []]) (by simp [Src.size, cntA]; omega) (Nat.zero_le _) ⟨0, none, none, none, ⟨by omega, by simp, .one _ _, by simpa using stL_new⟩, rfl⟩
  refine ⟨st2, ?_⟩
  unfold m_run_recipe
  refine fnn_er (ρ := ρ2) rfl ?_
  have s1 : (mSet 2 (mLst mNil)) [some (A.tup (Is.map insA)), some (A.tup (B.map A.tup)), none, none, none, none, none] st0 = .nx [some (A.tup (Is.map insA)), some (A.tup (B.map A.tup)), some (.ref st0.length), none, none, none, none] (st0 ++ [.lst []]) := by
    obtain ⟨ρ, st', e, rfl, rfl⟩ := sr_nx (r := (mSet 2 (mLst mNil)) [some (A.tup (Is.map insA)), some (A.tup (B.map A.tup)), none, none, none, none, none] st0) (I := fun ρ st' => ρ = [some (A.tup (Is.map insA)), some (A.tup (B.map A.tup)), some (.ref st0.length), none, none, none, none] ∧ st' = st0 ++ [.lst []]) (by
      simp only [sp_set, wp_lst, wp_nil, List.set_cons_zero, List.set_cons_succ]
      exact ⟨by simp [sizeLine], by trivial, by trivial⟩)
    exact e
  refine Eq.trans (sq_nx s1) ?_
  refine Eq.trans (sq_nx (ρ1 := RnV B Is st0.length 0 none none none) (st1 := st0 ++ [.lst []]) rfl) ?_
  refine sq_er (fr_er (body := rbA) (s := .zipv (cntA Is.length) (Is.map insA)) (st1 := st0 ++ [Ob.lst []]) ?_ e2)
  have : (Is.map insA).length = Is.length := List.length_map ..
  simp [mEnumT, mCons, mNil, mVar, ML.R.bind, enumT, this, RnV]
end
end Law
namespace Law
open PySem L2 ML
open Classical
def m_law_told : MF := mFn 4 2 (mSeq (mTry3 3 "InvalidInstruction" ["place"] (fun er => (.tup [(.str "invalid"), (fldE "place" er), (.bl true)])) "TooManyElements" ["count"] (fun er => (.tup [(.str "elements"), (fldE "count" er), (.bl true)])) "RecipeTooLarge" ["place"] (fun er => (.tup [(.str "large"), (fldE "place" er), (.bl true)])) (mSet 2 (mCall m_run_recipe (mCons (mVar 1) (mCons (mVar 0) mNil)))))
    (mRet (mTup (mCons (mC (.str "fine")) (mCons (mCa lenA (mCons (mVar 2) mNil)) (mCons (mUn (isiA .tup) (mVar 2)) mNil))))))
def m_law_bad : MF := mFn 6 3 (mSeq (mSet 3 (mCall m_law_draw (mCons (mVar 0) (mCons (mC (.int 6)) mNil))))
    (mSeq (mSet 4 (mCall m_law_draw (mCons (mVar 0) (mCons (mBin addA (mCa lenA (mCons (mVar 1) mNil)) (mC (.int 1))) mNil))))
    (mSeq (mSet 5 (mC (.int 0)))
    (mSeq (mIfS (mGB (mBin ltA (mVar 4) (mCa lenA (mCons (mVar 1) mNil)))) (mSet 5 (mCa lenA (mCons (mBin ixA (mVar 1) (mVar 4)) mNil))) mNext)
    (mSeq (mIfS (mGB (mBin eqA (mVar 3) (mC (.int 0)))) (mRet (mTup (mCons (mC (.str "copy")) (mCons (mBin addA (mCa lenA (mCons (mVar 1) mNil)) (mBin ixA (mLst (mCons (mC (.int 0)) (mCons (mC (.int 1)) (mCons (mC (.int 999900)) mNil)))) (mCall m_law_draw (mCons (mVar 0) (mCons (mC (.int 3)) mNil))))) (mCons (mC (.int 0)) (mCons (mC (.int 0)) mNil)))))) mNext)
    (mSeq (mIfS (mGB (mBin eqA (mVar 3) (mC (.int 1)))) (mRet (mTup (mCons (mC (.str "copy")) (mCons (mVar 4) (mCons (mBin addA (mC (.int 1)) (mCall m_law_draw (mCons (mVar 0) (mCons (mBin addA (mVar 5) (mC (.int 1))) mNil)))) (mCons (mC (.int 0)) mNil)))))) mNext)
    (mSeq (mIfS (mGB (mBin eqA (mVar 3) (mC (.int 2)))) (mRet (mTup (mCons (mC (.str "copy")) (mCons (mVar 4) (mCons (mCall m_law_draw (mCons (mVar 0) (mCons (mBin addA (mVar 5) (mC (.int 1))) mNil))) (mCons (mBin addA (mVar 5) (mC (.int 1))) mNil)))))) mNext)
    (mSeq (mIfS (mGB (mBin eqA (mVar 3) (mC (.int 3)))) (mRet (mTup (mCons (mC (.str "concat")) (mCons (mTup (mCons (mBin subA (mCa maxA (mCons (mVar 2) (mCons (mC (.int 1)) mNil))) (mC (.int 1))) (mCons (mBin addA (mVar 2) (mBin ixA (mLst (mCons (mC (.int 0)) (mCons (mC (.int 1)) (mCons (mC (.int 999900)) mNil)))) (mCall m_law_draw (mCons (mVar 0) (mCons (mC (.int 3)) mNil))))) mNil))) mNil)))) mNext)
    (mSeq (mIfS (mGB (mBin eqA (mVar 3) (mC (.int 4)))) (mRet (mTup (mCons (mC (.str "repeat")) (mCons (mBin addA (mVar 2) (mBin ixA (mLst (mCons (mC (.int 0)) (mCons (mC (.int 1)) (mCons (mC (.int 999900)) mNil)))) (mCall m_law_draw (mCons (mVar 0) (mCons (mC (.int 3)) mNil))))) (mCons (mCall m_law_draw (mCons (mVar 0) (mCons (mC (.int 3)) mNil))) mNil))))) mNext)
    (mRet (mTup (mCons (mC (.str "repeat")) (mCons (mCall m_law_draw (mCons (mVar 0) (mCons (mCa maxA (mCons (mVar 2) (mCons (mC (.int 1)) mNil))) mNil))) (mCons (mC (.int 2000)) mNil))))))))))))))
def tuT : A → A
  | .tup xs => .tup (xs ++ [.bl true])
  | a => a
section
variable {i : Nat} {x1 x2 x3 : Str} {fl1 fl2 fl3 : List Str} {g1 g2 g3 : Er → A} {m : MS} {ρ ρ1 : ML.Env} {st st1 : Store} {N B C : ML.Env → Store → Prop} {Rt : A → Store → Prop} {e : Er}
theorem sp_try3_ok (h : (m ρ st).wp N B C Rt) : (mTry3 i x1 fl1 g1 x2 fl2 g2 x3 fl3 g3 m ρ st).wp N B C Rt := by
  unfold mTry3
  cases q : m ρ st with
  | er e ρ1 st1 => rw [q] at h; exact h.elim
  | nx ρ1 st1 => rw [q] at h; exact h
  | bk ρ1 st1 => rw [q] at h; exact h
  | ct ρ1 st1 => rw [q] at h; exact h
  | rt v st1 => rw [q] at h; exact h
  | bad => rw [q] at h; exact h
theorem sp_try3_1 (h : m ρ st = .er e ρ1 st1) (hc : e.cls = x1 ∧ e.fs.map (·.1) = fl1 ∧ i < ρ1.length) (k : Rt (g1 e) st1) : (mTry3 i x1 fl1 g1 x2 fl2 g2 x3 fl3 g3 m ρ st).wp N B C Rt := by
  unfold mTry3
  rw [h]
  show SR.wp (if _ then _ else _) N B C Rt
  rw [if_pos hc]
  exact k
theorem sp_try3_2 (h : m ρ st = .er e ρ1 st1) (n1 : e.cls ≠ x1) (hc : e.cls = x2 ∧ e.fs.map (·.1) = fl2 ∧ i < ρ1.length) (k : Rt (g2 e) st1) : (mTry3 i x1 fl1 g1 x2 fl2 g2 x3 fl3 g3 m ρ st).wp N B C Rt := by
  unfold mTry3
  rw [h]
  show SR.wp (if _ then _ else _) N B C Rt
  rw [if_neg (fun z => n1 z.1), if_pos hc]
  exact k
theorem sp_try3_3 (h : m ρ st = .er e ρ1 st1) (n1 : e.cls ≠ x1) (n2 : e.cls ≠ x2) (hc : e.cls = x3 ∧ e.fs.map (·.1) = fl3 ∧ i < ρ1.length) (k : Rt (g3 e) st1) : (mTry3 i x1 fl1 g1 x2 fl2 g2 x3 fl3 g3 m ρ st).wp N B C Rt := by
  unfold mTry3
  rw [h]
  show SR.wp (if _ then _ else _) N B C Rt
  rw [if_neg (fun z => n1 z.1), if_neg (fun z => n2 z.1), if_pos hc]
  exact k
end
section
variable {B R : List (List A)} {Is : List Ins} {st : Store} {Q : A → Store → Prop}
theorem told36_ok (G : Good B Is R) (hIl : Is.length ≤ 100000) (k : ∀ st', Q (.tup [.str "fine", .int ((bAt ([] :: R) R.length).length : Nat), .bl true]) st') : (m_law_told [.tup (B.map A.tup), .tup (Is.map insA)] st).wp Q := by
  simp only [m_law_told]
  have RW := @run_wp
  generalize m_run_recipe = mr at RW ⊢
  rw [wp_fn]
  refine ⟨rfl, ?_⟩
  simp only [List.map_cons, List.map_nil, List.cons_append, List.nil_append, List.replicate, Nat.reduceSub]
  refine seq_cut (fun ρ st' => ρ = [some (.tup (B.map A.tup)), some (.tup (Is.map insA)), some (.tup (bAt ([] :: R) R.length)), none]) ?_ ?_
  · refine sp_try3_ok ?_
    simp only [sp_set, wp_call, wp_cons, wp_nil, wp_var, List.set_cons_zero, List.set_cons_succ, List.getElem?_cons_succ, List.getElem?_cons_zero, Option.some.injEq, ex_eq]
    exact RW G.P (by rw [← G.P.len]; exact hIl) G.sum G.len fun st' _ => rfl
  · rintro ρ st' rfl
    simp only [sp_ret, wp_tup, wp_ca, wp_un, wp_cons, wp_nil, wp_var, wp_c, List.getElem?_cons_succ, List.getElem?_cons_zero, Option.some.injEq, ex_eq, w_lenT]
    refine ⟨by rw [size_eq]; simp, k st'⟩
theorem told36_er {j : Nat} {I : Ins} {o : A} {e : Er} (hIl : Is.length ≤ 100000) (s : sdI I) (hI : Is[j]? = some I) (G : Good B (Is.take j) R) (F : Fail B R j I o e) (k : ∀ st', Q (tuT o) st') : (m_law_told [.tup (B.map A.tup), .tup (Is.map insA)] st).wp Q := by
  obtain ⟨st', er⟩ := run_er (st0 := st) hIl s hI G F
  have e2 : (mSet 2 (mCall m_run_recipe (mCons (mVar 1) (mCons (mVar 0) mNil)))) [some (.tup (B.map A.tup)), some (.tup (Is.map insA)), none, none] st = .er e [some (.tup (B.map A.tup)), some (.tup (Is.map insA)), none, none] st' := by
    have e3 : (mCall m_run_recipe (mCons (mVar 1) (mCons (mVar 0) mNil))) [some (.tup (B.map A.tup)), some (.tup (Is.map insA)), none, none] st = .er e st' := er
    unfold mSet
    rw [e3]
    rfl
  simp only [m_law_told]
  generalize m_run_recipe = mr at e2 ⊢
  rw [wp_fn]
  refine ⟨rfl, ?_⟩
  simp only [List.map_cons, List.map_nil, List.cons_append, List.nil_append, List.replicate, Nat.reduceSub]
  have a : ¬ (Str.ofString "TooManyElements" = Str.ofString "InvalidInstruction") := by decide +kernel
  have b : ¬ (Str.ofString "RecipeTooLarge" = Str.ofString "InvalidInstruction") := by decide +kernel
  have c : ¬ (Str.ofString "RecipeTooLarge" = Str.ofString "TooManyElements") := by decide +kernel
  refine seq_cutR (fun _ _ => False) ?_ (fun _ _ h => h.elim)
  cases F with
  | inv h => exact sp_try3_1 e2 ⟨rfl, rfl, by show 3 < 4; omega⟩ (k st')
  | elm h h2 => exact sp_try3_2 e2 a ⟨rfl, rfl, by show 3 < 4; omega⟩ (k st')
  | lrg h h2 h3 => exact sp_try3_3 e2 b c ⟨rfl, rfl, by show 3 < 4; omega⟩ (k st')
theorem bad_wp {bs : List A} {b place : Nat} (t : TpOk st) (b1 : 1 < b) (hb : stL st b = some bs) (hB : BsL B bs st) (fB : ∀ (i r : Nat), bs[i]? = some (.ref r) → 1 < r) (hBl : B.length ≤ 100) (hB2 : ∀ x ∈ B, x.length ≤ 2000) (hp : place ≤ 100000) (k : ∀ I st', sdI I → TpOk st' → Kp st st' → Q (insA I) st') : (m_law_bad [.ref 1, .ref b, .int (place : Nat)] st).wp Q := by
  have DW := @drawQ
  have PK := @pickQ
  simp only [m_law_bad]
  generalize m_law_draw = md at DW PK ⊢
  rw [wp_fn]
  refine ⟨rfl, ?_⟩
  have hs := size_eq
  have hbl := hB.1
  simp only [List.map_cons, List.map_nil, List.cons_append, List.nil_append, List.replicate, Nat.reduceSub]
  refine seq_cut (fun ρ st' => ∃ c : Nat, TpOk st' ∧ Kp st st' ∧ ρ = [some (.ref 1), some (.ref b), some (.int (place : Nat)), some (.int (c : Nat)), none, none]) ?_ ?_
  · simp only [sp_set, wp_call, wp_cons, wp_nil, wp_var, wp_c, List.set_cons_zero, List.set_cons_succ, List.getElem?_cons_succ, List.getElem?_cons_zero, Option.some.injEq, ex_eq]
    exact DW t (by omega) fun c st' _ t' k' _ => ⟨c, t', k', rfl⟩
  rintro ρ st1 ⟨c, t1, k1, rfl⟩
  refine seq_cut (fun ρ st' => ∃ x : Nat, x ≤ B.length ∧ TpOk st' ∧ Kp st st' ∧ ρ = [some (.ref 1), some (.ref b), some (.int (place : Nat)), some (.int (c : Nat)), some (.int (x : Nat)), none]) ?_ ?_
  · simp only [sp_set, wp_call, wp_ca, wp_bin, wp_cons, wp_nil, wp_var, wp_c, List.set_cons_zero, List.set_cons_succ, List.getElem?_cons_succ, List.getElem?_cons_zero, Option.some.injEq, ex_eq, w_lenL, k1.stL b1 hb, w_add]
    exact DW t1 (by omega) fun x st' hx t' k' _ => ⟨x, by omega, t', k1.trans k', rfl⟩
  clear t1 k1 st1
  rintro ρ st1 ⟨x, hx, t1, k1, rfl⟩
  refine seq_cut (fun ρ st' => st' = st1 ∧ ρ = [some (.ref 1), some (.ref b), some (.int (place : Nat)), some (.int (c : Nat)), some (.int (x : Nat)), some (.int 0)]) ?_ ?_
  · simp only [sp_set, wp_c, List.set_cons_zero, List.set_cons_succ]
    exact ⟨by trivial, by trivial⟩
  rintro ρ st2 ⟨rfl, rfl⟩
  refine seq_cut (fun ρ st' => ∃ m : Nat, m ≤ 2000 ∧ st' = st2 ∧ ρ = [some (.ref 1), some (.ref b), some (.int (place : Nat)), some (.int (c : Nat)), some (.int (x : Nat)), some (.int (m : Nat))]) ?_ ?_
  · simp only [sp_ifs, wp_gb, wp_bin, wp_ca, wp_cons, wp_nil, wp_var, List.getElem?_cons_succ, List.getElem?_cons_zero, Option.some.injEq, ex_eq, w_lenL, k1.stL b1 hb, w_lt, w_getB]
    by_cases c1 : x < B.length
    · rw [if_pos (decide_eq_true (by omega))]
      obtain ⟨q, q1, q2⟩ := (hB.kp fB k1).at (b := (x : Int)) (by omega) (by omega)
      simp only [sp_set, wp_ca, wp_bin, wp_cons, wp_nil, wp_var, List.set_cons_zero, List.set_cons_succ, List.getElem?_cons_succ, List.getElem?_cons_zero, Option.some.injEq, ex_eq]
      rw [w_ixL]
      refine ⟨_, k1.stL b1 hb, _, q1, ?_⟩
      simp only [w_lenL, q2, Option.some.injEq, ex_eq]
      exact ⟨_, hB2 _ (bAt_mem c1), by trivial, by trivial⟩
    · rw [if_neg (by rw [decide_eq_true_eq]; omega)]
      exact sp_next.mpr ⟨0, by omega, rfl, rfl⟩
  rintro ρ st3 ⟨m, hm, rfl, rfl⟩
  have pick : ∀ {Q : A → Store → Prop} {st' : Store}, TpOk st' → (∀ n : Nat, n ≤ 999900 → ∀ st4, TpOk st4 → Kp st' st4 → Q (.int (n : Nat)) st4) → (md [.ref 1, .int 3] (st' ++ [.lst [.int 0, .int 1, .int 999900]])).wp fun a st1 => (ixA (.ref st'.length) a st1).wp Q := fun {Q st'} t' kk => by
    refine PK (xs := [0, 1, 999900]) rfl rfl t' (by decide) (by decide) fun v hv st4 t4 k4 => ?_
    have hv : 0 ≤ v ∧ v ≤ 999900 := by
      simp at hv
      omega
    obtain ⟨n, rfl⟩ := Int.eq_ofNat_of_zero_le hv.1
    exact kk n (by omega) st4 t4 k4
  have len := k1.stL b1 hb
  rw [sp_seq]
  simp only [sp_ifs, wp_gb, wp_bin, wp_var, wp_c, List.getElem?_cons_succ, List.getElem?_cons_zero, Option.some.injEq, ex_eq, w_eq, w_getB]
  split
  · simp only [sp_ret, wp_tup, wp_bin, wp_ca, wp_call, wp_lst, wp_cons, wp_nil, wp_var, wp_c, List.getElem?_cons_succ, List.getElem?_cons_zero, Option.some.injEq, ex_eq, w_lenL, len]
    refine ⟨by rw [hs]; simp, pick t1 fun n hn st4 t4 k4 => ?_⟩
    rw [w_add]
    refine ⟨by rw [hs]; simp, ?_⟩
    have := k (.copy (bs.length + n) 0 0) st4 trivial t4 (k1.trans k4)
    simpa [insA, natA] using this
  rw [sp_next, sp_seq]
  simp only [sp_ifs, wp_gb, wp_bin, wp_var, wp_c, List.getElem?_cons_succ, List.getElem?_cons_zero, Option.some.injEq, ex_eq, w_eq, w_getB]
  split
  · simp only [sp_ret, wp_tup, wp_bin, wp_ca, wp_call, wp_lst, wp_cons, wp_nil, wp_var, wp_c, List.getElem?_cons_succ, List.getElem?_cons_zero, Option.some.injEq, ex_eq, w_add]
    refine DW t1 (by omega) fun n st4 hn t4 k4 _ => ?_
    refine ⟨by rw [hs]; simp, ?_⟩
    have := k (.copy x (1 + n) 0) st4 trivial t4 (k1.trans k4)
    simpa [insA, natA] using this
  rw [sp_next, sp_seq]
  simp only [sp_ifs, wp_gb, wp_bin, wp_var, wp_c, List.getElem?_cons_succ, List.getElem?_cons_zero, Option.some.injEq, ex_eq, w_eq, w_getB]
  split
  · simp only [sp_ret, wp_tup, wp_bin, wp_ca, wp_call, wp_lst, wp_cons, wp_nil, wp_var, wp_c, List.getElem?_cons_succ, List.getElem?_cons_zero, Option.some.injEq, ex_eq, w_add]
    refine DW t1 (by omega) fun n st4 hn t4 k4 _ => ?_
    refine ⟨by rw [hs]; simp, ?_⟩
    have := k (.copy x n (m + 1)) st4 trivial t4 (k1.trans k4)
    simpa [insA, natA] using this
  rw [sp_next, sp_seq]
  simp only [sp_ifs, wp_gb, wp_bin, wp_var, wp_c, List.getElem?_cons_succ, List.getElem?_cons_zero, Option.some.injEq, ex_eq, w_eq, w_getB]
  split
  · have em : (if (1 : Int) > ((place : Nat) : Int) then (1 : Int) else ((place : Nat) : Int)) - 1 = ((max place 1 - 1 : Nat) : Int) := by split <;> omega
    simp only [sp_ret, wp_tup, wp_bin, wp_ca, wp_call, wp_lst, wp_cons, wp_nil, wp_var, wp_c, List.getElem?_cons_succ, List.getElem?_cons_zero, Option.some.injEq, ex_eq, w_max2, w_sub, em]
    refine ⟨by rw [hs]; simp, pick t1 fun n hn st4 t4 k4 => ?_⟩
    rw [w_add]
    refine ⟨by rw [hs]; simp, by rw [hs]; simp, ?_⟩
    have := k (.cat [max place 1 - 1, place + n]) st4 (by show 2 ≤ 99; omega) t4 (k1.trans k4)
    simpa [insA, natA] using this
  rw [sp_next, sp_seq]
  simp only [sp_ifs, wp_gb, wp_bin, wp_var, wp_c, List.getElem?_cons_succ, List.getElem?_cons_zero, Option.some.injEq, ex_eq, w_eq, w_getB]
  split
  · simp only [sp_ret, wp_tup, wp_bin, wp_ca, wp_call, wp_lst, wp_cons, wp_nil, wp_var, wp_c, List.getElem?_cons_succ, List.getElem?_cons_zero, Option.some.injEq, ex_eq]
    refine ⟨by rw [hs]; simp, pick t1 fun n hn st4 t4 k4 => ?_⟩
    rw [w_add]
    refine DW t4 (by omega) fun y st5 hy t5 k5 _ => ?_
    refine ⟨by rw [hs]; simp, ?_⟩
    have := k (.rep (place + n) y) st5 (by show y ≤ 2000; omega) t5 ((k1.trans k4).trans k5)
    simpa [insA, natA] using this
  · rw [sp_next]
    simp only [sp_ret, wp_tup, wp_bin, wp_ca, wp_call, wp_lst, wp_cons, wp_nil, wp_var, wp_c, List.getElem?_cons_succ, List.getElem?_cons_zero, Option.some.injEq, ex_eq, w_max2]
    refine DW t1 (by split <;> omega) fun y st5 hy t5 k5 _ => ?_
    refine ⟨by rw [hs]; simp, ?_⟩
    have := k (.rep y 2000) st5 (by show 2000 ≤ 2000; omega) t5 (k1.trans k5)
    simpa [insA, natA] using this
end
end Law
namespace Law
open PySem PySem.Spec L2 ML
def m_law : MF := mFn 9 1 (mSeq (mSet 1 (mCall m_law_tape (mCons (mVar 0) mNil)))
    (mSeq (mSet 2 (mLc (mRng (mCons (mCall m_law_draw (mCons (mVar 1) (mCons (mC (.int 4)) mNil))) mNil)) (.one 5) [5] mYes (mCall m_law_contents (mCons (mVar 1) (mCons (mC (.int 20)) mNil)))))
    (mSeq (mSet 3 (mLst mNil))
    (mSeq (mSet 4 (mLst mNil))
    (mSeq (mFor (mRng (mCons (mCall m_law_draw (mCons (mVar 1) (mCons (mC (.int 9)) mNil))) mNil)) (.one 5) (mSeq (mSet 6 (mCall m_law_step (mCons (mVar 1) (mCons (mVar 2) (mCons (mVar 4) (mCons (mC (.int 300)) mNil))))))
    (mSeq (mExpr (mBm appendA (mVar 4) (mCons (mCall m_law_result (mCons (mVar 2) (mCons (mVar 4) (mCons (mVar 6) mNil)))) mNil)))
    (mExpr (mBm appendA (mVar 3) (mCons (mVar 6) mNil))))))
    (mSeq (mFor (mRng (mCons (mCa minA (mCons (mCa lenA (mCons (mVar 3) mNil)) (mCons (mCall m_law_draw (mCons (mVar 1) (mCons (mC (.int 3)) mNil))) mNil))) mNil)) (.one 5) (mSeq (mSet 7 (mCall m_law_draw (mCons (mVar 1) (mCons (mCa lenA (mCons (mVar 3) mNil)) mNil))))
    (mPut (mVar 3) (mVar 7) (mCall m_law_bad (mCons (mVar 1) (mCons (mVar 2) (mCons (mVar 7) mNil)))))))
    (mSeq (mIfS (mGB (mBin eqA (mCall m_law_draw (mCons (mVar 1) (mCons (mC (.int 8)) mNil))) (mC (.int 0)))) (mSeq (mSet 2 (mLst (mCons (mBin mulA (mLst (mCons (mC (.int 7)) mNil)) (mC (.int 2000))) mNil)))
    (mSet 3 (mBin addA (mBin mulA (mLst (mCons (mTup (mCons (mC (.str "literal")) (mCons (mC (.str "x")) mNil))) mNil)) (mCall m_law_draw (mCons (mVar 1) (mCons (mC (.int 2)) mNil)))) (mBin mulA (mLst (mCons (mTup (mCons (mC (.str "copy")) (mCons (mC (.int 0)) (mCons (mC (.int 0)) (mCons (mC (.int 2000)) mNil))))) mNil)) (mBin addA (mC (.int 98)) (mCall m_law_draw (mCons (mVar 1) (mCons (mC (.int 5)) mNil)))))))) mNext)
    (mSeq (mSet 8 (mCall m_law_outcome (mCons (mVar 2) (mCons (mVar 3) mNil))))
    (mRet (mCall (m_law_alike 40) (mCons (mCall m_law_told (mCons (mCall m_law_given (mCons (mVar 2) mNil)) (mCons (mCa tupleA (mCons (mVar 3) mNil)) mNil))) (mCons (mBin addA (mVar 8) (mTup (mCons (mC (.bl true)) mNil))) mNil))))))))))))
open Classical
structure S36 (b c : Nat) (bs : List A) (B : List (List A)) (Is : List Ins) (st : Store) : Prop where
  t : TpOk st
  hb : stL st b = some bs
  hc : stL st c = some (Is.map insA)
  b1 : 1 < b
  c1 : 1 < c
  bc : b ≠ c
  bB : BsL B bs st
  fB : ∀ (i r : Nat), bs[i]? = some (.ref r) → 1 < r ∧ r ≠ c
  nB : B.length ≤ 9
  xB : ∀ x ∈ B, x.length ≤ 2000
  sd : ∀ I ∈ Is, sdI I
  nI : Is.length ≤ 200
theorem S36.kp {b c : Nat} {bs : List A} {B : List (List A)} {Is : List Ins} {st st' : Store} (S : S36 b c bs B Is st) (t : TpOk st') (k : Kp st st') : S36 b c bs B Is st' := ⟨t, k.stL S.b1 S.hb, k.stL S.c1 S.hc, S.b1, S.c1, S.bc, S.bB.kp (fun i r e => (S.fB i r e).1) k, S.fB, S.nB, S.xB, S.sd, S.nI⟩
theorem tup_cmp36 {s : Str} {i : Int} {b : Bool} : plainA (.tup [.str s, .int i, .bl b]) = true ∧ fewA (.tup [.str s, .int i, .bl b]) = true ∧ depA (.tup [.str s, .int i, .bl b]) < 40 := by
  refine ⟨rfl, ?_, ?_⟩
  · simp [fewA, fewAs]
  · simp [depA, depAs]
theorem el_str36 : El (.str "x") := .inl (.inl ⟨_, rfl, by
  constructor <;> decide +kernel⟩)
theorem law_true : LawTrue m_law := fun ns0 h1 h2 => by
  have key : (m_law [.scr (ns0.map .int)] []).wp fun a _ => a = .bl true := by
    simp only [m_law, wp_fn]
    refine ⟨rfl, ?_⟩
    simp only [List.map_cons, List.map_nil, List.cons_append, List.nil_append, List.replicate, Nat.reduceSub]
    have KW := @conts_wp
    have SW := @stepG_wp
    have OW := @result_wp
    have BW := @bad_wp
    have CW := @outcome_wp
    have TO := @told36_ok
    have TE := @told36_er
    have GW := @given_wp
    have AL := @alike_wp 40
    generalize m_law_contents = mct at KW ⊢
    generalize m_law_step = mst at SW ⊢
    generalize m_law_result = mrs at OW ⊢
    generalize m_law_bad = mbd at BW ⊢
    generalize m_law_outcome = moc at CW ⊢
    generalize m_law_told = mtl at TO TE ⊢
    generalize m_law_given = mgv at GW ⊢
    generalize m_law_alike 40 = mal at AL ⊢
    generalize hF : @mFor = F
    generalize hL : @mLc = L
    generalize hM : @mulA = M
    refine seq_cut (fun ρ st => TpOk st ∧ ρ = [some (.scr (ns0.map .int)), some (.ref 1), none, none, none, none, none, none, none]) ?_ ?_
    · simp
      exact tape_wp fun st t0 l0 => ⟨t0, rfl⟩
    rintro ρ st ⟨t0, rfl⟩
    generalize hs0 : some (A.scr (ns0.map .int)) = s0
    refine seq_cut (fun ρ st => ∃ (b : Nat) (bs : List A) (B : List (List A)), TpOk st ∧ stL st b = some bs ∧ 1 < b ∧ b < st.length ∧ BsL B bs st ∧ (∀ (i r : Nat), bs[i]? = some (.ref r) → 1 < r ∧ r < b) ∧ B.length ≤ 9 ∧ (∀ x ∈ B, x.length ≤ 2000) ∧ ρ = [s0, some (.ref 1), some (.ref b), none, none, none, none, none, none]) ?_ ?_
    · subst hL
      simp only [sp_set, wp_lc, wp_rng, wp_bin, wp_call, wp_lst, wp_cons, wp_nil, wp_var, wp_c, List.getElem?_cons_succ, List.getElem?_cons_zero, Option.some.injEq, ex_eq, List.set_cons_zero, List.set_cons_succ, wipeA_cons, wipeA_nil]
      refine drawN_wp t0 (by omega) fun n st2 hn t2 k2 l2 => ?_
      rw [natA, w_rng1]
      refine ⟨by omega, ?_⟩
      refine lc_rng (fun j st' acc => ∃ B, TpOk st' ∧ B.length = j ∧ BsL B acc st' ∧ (∀ (i r : Nat), acc[i]? = some (.ref r) → 1 < r ∧ r < st'.length) ∧ (∀ x ∈ B, x.length ≤ 2000)) ⟨[], t2, rfl, ⟨rfl, fun i x e => (by cases e)⟩, fun i r e => (by cases e), by simp⟩ ?_ ?_
      · rintro j st' acc hj ⟨B, t', lB, bB, fB, xB⟩
        refine ⟨_, rfl, ?_⟩
        simp only [wp_yes, if_true, wp_call, wp_cons, wp_nil, wp_var, wp_c, List.set_cons_zero, List.set_cons_succ, List.getElem?_cons_succ, List.getElem?_cons_zero, Option.some.injEq, ex_eq]
        have lt := t'.len
        have la := bB.1
        refine KW t' (by decide) (by decide) fun r xs st3 he hl hl2 t3 k3 hr hx => ⟨by rw [size_eq]; omega, B ++ [xs], t3, by simp [lB], ?_, ?_, ?_⟩
        · exact (bB.kp (fun i r e => (fB i r e).1) k3).snoc hx
        · intro i q e
          have hq : q < st3.length → 1 < q → 1 < q ∧ q < st3.length := fun a b => ⟨b, a⟩
          by_cases c : i < acc.length
          · rw [List.getElem?_append_left c] at e
            have := fB i q e
            have := k3.len
            omega
          · rw [List.getElem?_append_right (by omega)] at e
            have hi := (List.getElem?_eq_some_iff.mp e).1
            simp at hi
            have hi : i - acc.length = 0 := by omega
            rw [hi] at e
            cases e
            have := (List.getElem?_eq_some_iff.mp (stL_eq hx)).1
            omega
        · intro x hx
          rcases List.mem_append.mp hx with h | h
          · exact xB x h
          · simp at h
            subst h
            omega
      · rintro st' acc ⟨B, t', lB, bB, fB, xB⟩
        have lt := t'.len
        refine ⟨st'.length, acc, B, t'.grown (.one _ _), stL_new, by omega, by simp, bB.grown (.one _ _), fun i r e => fB i r e, ?_, xB, rfl⟩
        omega
    clear t0 st
    rintro ρ st ⟨b, bs, B, t0, hb, b1, b2, bB, fB, nB, xB, rfl⟩
    refine seq_cut (fun ρ st' => Grown st st' ∧ stL st' st.length = some [] ∧ st'.length = st.length + 1 ∧ ρ = [s0, some (.ref 1), some (.ref b), some (.ref st.length), none, none, none, none, none]) ?_ ?_
    · simp only [sp_set, wp_lst, wp_nil, List.set_cons_zero, List.set_cons_succ]
      exact ⟨by simp [sizeLine], .one _ _, stL_new, by simp, by trivial⟩
    rintro ρ st1 ⟨g1, hc, l1, rfl⟩
    generalize hcc : st.length = c at *
    let S : Nat → ML.Env → Store → Prop := fun i ρ st' => ∃ (Is : List Ins) (R : List (List A)) (rs : List A) (v5 v6 : Option A), TpOk st' ∧ stL st' b = some bs ∧ stL st' c = some (Is.map insA) ∧ stL st' (c + 1) = some rs ∧ BsL B bs st' ∧ BsL R rs st' ∧ (∀ (i r : Nat), rs[i]? = some (.ref r) → c + 1 < r) ∧ (∀ I ∈ Is, sdI I) ∧ Is.length ≤ i ∧ R.length ≤ i ∧ (∀ x ∈ R, x.length ≤ 2000) ∧ ρ = [s0, some (.ref 1), some (.ref b), some (.ref c), some (.ref (c + 1)), v5, v6, none, none]
    refine seq_cut (S 0) ?_ ?_
    · simp only [sp_set, wp_lst, wp_nil, List.set_cons_zero, List.set_cons_succ]
      have g2 : Grown st1 (st1 ++ [.lst []]) := .one _ _
      have g := g1.trans g2
      refine ⟨by simp [sizeLine], [], [], [], none, none, t0.grown g, g.stL hb, g2.stL hc, by rw [← l1]; exact stL_new, bB.grown g, ⟨rfl, fun i x e => (by cases e)⟩, fun i r e => (by cases e), by simp, by simp, by simp, by simp, by rw [l1]⟩
    clear t0 hb bB g1 hc l1
    rintro ρ st2 h2
    refine seq_cut (S 9) ?_ ?_
    · subst hF
      have h2' := h2
      obtain ⟨Is, R, rs, v5, v6, t2, hb, hc, hd, bB, bR, fR, P, nI, nR, xR, rfl⟩ := h2
      simp only [sp_for, wp_rng, wp_call, wp_cons, wp_nil, wp_var, wp_c, List.getElem?_cons_succ, List.getElem?_cons_zero, Option.some.injEq, ex_eq]
      refine drawN_wp t2 (by decide) fun n st3 hn t3 k3 l3 => ?_
      rw [natA, w_rng1]
      refine ⟨by omega, ?_⟩
      refine for_rng S ⟨Is, R, rs, v5, v6, t3, k3.stL b1 hb, k3.stL (by omega) hc, k3.stL (by omega) hd, bB.kp (fun i r e => (fB i r e).1) k3, bR.kp (fun i r e => by have := fR i r e; omega) k3, fR, P, nI, nR, xR, rfl⟩ ?_ ?_
      · clear h2' hb hc hd bB bR fR P nI nR xR t2 t3 k3
        rintro i ρ st3 hi ⟨Is, R, rs, v5, v6, t3, hb, hc, hd, bB, bR, fR, P, nI, nR, xR, rfl⟩
        refine ⟨_, rfl, ?_⟩
        have E : StE B R b (c + 1) bs rs st3 := ⟨t3, hb, hd, b1, by omega, bB, bR, fun i r e => (fB i r e).1, fun i r e => by have := fR i r e; omega, nB, by omega, xB, xR⟩
        rw [sp_seq]
        simp only [sp_set, wp_call, wp_cons, wp_nil, wp_var, wp_c, List.set_cons_zero, List.set_cons_succ, List.getElem?_cons_succ, List.getElem?_cons_zero, Option.some.injEq, ex_eq]
        refine SW (M0 := 300) (by omega) (by omega) E fun I st4 o l4 t4 k4 => ?_
        have E4 := E.kp t4 k4
        have hc4 := k4.stL (by omega) hc
        rw [sp_seq]
        simp only [sp_expr, wp_bm, wp_call, wp_cons, wp_nil, wp_var, List.getElem?_cons_succ, List.getElem?_cons_zero, Option.some.injEq, ex_eq, isL_ref, E4.hd, Option.isSome_some]
        refine ⟨trivial, ?_⟩
        refine OW E4 o fun q st5 g5 q0 q1 hq => ?_
        have E5 := E4.kp (E4.t.grown g5) (Kp.grown g5)
        have hc5 := g5.stL hc4
        have lr := bR.1
        have dl := (List.getElem?_eq_some_iff.mp (stL_eq E4.hd)).1
        rw [w_append, E5.hd]
        refine ⟨_, rfl, by rw [size_eq]; omega, ?_⟩
        have hc6 : stL (st5.set (c + 1) (.lst (rs ++ [.ref q]))) c = some (Is.map insA) := by
          rw [stL_set_ne (by omega)]
          exact hc5
        refine ⟨by rw [hc6]; rfl, ?_⟩
        rw [w_append, hc6]
        refine ⟨_, rfl, by rw [size_eq, List.length_map]; omega, Is ++ [I], R ++ [resI B R I], rs ++ [.ref q], _, some (insA I), ?_, ?_, ?_, ?_, ?_, ?_, ?_, ?_, by simp; omega, by simp; omega, ?_, rfl⟩
        · obtain ⟨ns, p, r, t, a0, a1, a2⟩ := E5.t.ex
          exact ⟨ns, p, r, t, a0, by rw [List.getElem?_set_ne (by omega), List.getElem?_set_ne (by omega)]; exact a1, by rw [List.getElem?_set_ne (by omega), List.getElem?_set_ne (by omega)]; exact a2⟩
        · rw [stL_set_ne (by omega), stL_set_ne (by omega)]
          exact E5.hb
        · rw [stL_set_self hc6, List.map_append]
          rfl
        · rw [stL_set_ne (by omega)]
          exact stL_set_self E5.hd
        · exact (E5.RB.setNe fun i r e => by have := fB i r e; omega).setNe fun i r e => by have := fB i r e; omega
        · refine (BsL.snoc (E5.RR.setNe fun i r e => by have := fR i r e; omega) ?_).setNe ?_
          · rw [stL_set_ne (by omega)]
            exact hq
          · intro i r e
            by_cases cc : i < rs.length
            · rw [List.getElem?_append_left cc] at e
              have := fR i r e
              omega
            · rw [List.getElem?_append_right (by omega)] at e
              have hi := (List.getElem?_eq_some_iff.mp e).1
              simp at hi
              have hi : i - rs.length = 0 := by omega
              rw [hi] at e
              cases e
              omega
        · intro i r e
          by_cases cc : i < rs.length
          · rw [List.getElem?_append_left cc] at e
            exact fR i r e
          · rw [List.getElem?_append_right (by omega)] at e
            have hi := (List.getElem?_eq_some_iff.mp e).1
            simp at hi
            have hi : i - rs.length = 0 := by omega
            rw [hi] at e
            cases e
            omega
        · intro J hJ
          rcases List.mem_append.mp hJ with h | h
          · exact P J h
          · rw [List.mem_singleton.mp h]
            exact ok_sd o
        · intro x hx
          rcases List.mem_append.mp hx with h | h
          · exact xR x h
          · simp at h
            subst h
            rw [lenI_eq o]
            omega
      · rintro ρ st4 ⟨Is, R, rs, v5, v6, t3, hb, hc, hd, bB, bR, fR, P, nI, nR, xR, rfl⟩
        exact ⟨Is, R, rs, v5, v6, t3, hb, hc, hd, bB, bR, fR, P, by omega, by omega, xR, rfl⟩
    clear h2 st2
    rintro ρ st2 ⟨Is, R, rs, v5, v6, t3, hb, hc, hd, bB, bR, fR, P, nI, nR, xR, rfl⟩
    have b1c : b < c := b2
    have S0 : S36 b c bs B Is st2 := ⟨t3, hb, hc, b1, by omega, by omega, bB, fun i r e => by have := fB i r e; omega, nB, xB, P, by omega⟩
    clear t3 hb hc hd bB bR fR P nI nR xR
    have ixq : ∀ (n p : Nat), p < n → L2.ixN n (p : Int) = some p := fun n p h => by
      unfold L2.ixN
      rw [if_pos (by omega), if_pos (by omega)]
      simp
    refine seq_cut (fun ρ st => ∃ Is v5 v7, S36 b c bs B Is st ∧ ρ = [s0, some (.ref 1), some (.ref b), some (.ref c), some (.ref (c + 1)), v5, v6, v7, none]) ?_ ?_
    · rw [← hF]
      simp only [sp_for, wp_rng, wp_ca, wp_call, wp_cons, wp_nil, wp_var, wp_c, List.getElem?_cons_succ, List.getElem?_cons_zero, Option.some.injEq, ex_eq, w_lenL, S0.hc]
      refine drawN_wp S0.t (by decide) fun n st3 hn t3 k3 l3 => ?_
      have S3 := S0.kp t3 k3
      rw [natA, w_min2, w_rng1]
      have hnI := S0.nI
      rw [List.length_map]
      refine ⟨by split <;> omega, ?_⟩
      generalize hm : (if ((n : Nat) : Int) < ((Is.length : Nat) : Int) then ((n : Nat) : Int) else ((Is.length : Nat) : Int)) = m
      have hml : m.toNat ≤ Is.length := by
        rw [← hm]
        split <;> omega
      refine for_rng (fun i ρ st => ∃ Is' v5 v7, S36 b c bs B Is' st ∧ Is'.length = Is.length ∧ ρ = [s0, some (.ref 1), some (.ref b), some (.ref c), some (.ref (c + 1)), v5, v6, v7, none]) ⟨Is, v5, none, S3, rfl, rfl⟩ ?_ (fun ρ st ⟨Is', v5, v7, S, _, e⟩ => ⟨Is', v5, v7, S, e⟩)
      rintro i ρ st4 hi ⟨Is', v5', v7', S4, el, rfl⟩
      refine ⟨_, rfl, ?_⟩
      rw [sp_seq]
      simp only [sp_set, wp_ca, wp_call, wp_cons, wp_nil, wp_var, wp_c, List.set_cons_zero, List.set_cons_succ, List.getElem?_cons_succ, List.getElem?_cons_zero, Option.some.injEq, ex_eq, w_lenL, S4.hc]
      rw [List.length_map, el]
      refine drawN_wp S4.t (by omega) fun p st5 hp t5 k5 l5 => ?_
      have S5 := S4.kp t5 k5
      have hp' : p < Is'.length := by omega
      rw [natA]
      simp only [sp_put, wp_call, wp_cons, wp_nil, wp_var, List.getElem?_cons_succ, List.getElem?_cons_zero, Option.some.injEq, ex_eq]
      refine BW S5.t S5.b1 S5.hb S5.bB (fun i r e => (S5.fB i r e).1) (by have := S5.nB; omega) S5.xB (by omega) fun I st6 sI t6 k6 => ?_
      have S6 := S5.kp t6 k6
      rw [ex_setA]
      refine ⟨_, S6.hc, p, ixq _ _ (by rw [List.length_map]; exact hp'), Is'.set p I, _, _, ⟨tp_set25 S6.t S6.c1, ?_, ?_, S6.b1, S6.c1, S6.bc, S6.bB.setNe (fun i r e => fun q => (S6.fB i r e).2 q.symm), S6.fB, S6.nB, S6.xB, fun J hJ => ?_, by rw [List.length_set]; exact S6.nI⟩, by rw [List.length_set]; exact el, rfl⟩
      · rw [stL_set_ne (fun q => S6.bc q.symm)]; exact S6.hb
      · rw [stL_set_self S6.hc, List.map_set]
      · rcases List.mem_or_eq_of_mem_set hJ with h | h
        · exact S6.sd J h
        · rw [h]; exact sI
    clear S0
    rintro ρ st3 ⟨Is, v5, v7, S0, rfl⟩
    clear hL
    obtain ⟨z, hz⟩ : ∃ z : Int, z = 2000 := ⟨_, rfl⟩
    refine seq_cut (fun ρ st => ∃ b' c' bs B Is, S36 b' c' bs B Is st ∧ ρ = [s0, some (.ref 1), some (.ref b'), some (.ref c'), some (.ref (c + 1)), v5, v6, v7, none]) ?_ ?_
    · rw [← hz]
      simp only [sp_ifs, wp_gb, wp_bin, wp_call, wp_cons, wp_nil, wp_var, wp_c, List.getElem?_cons_succ, List.getElem?_cons_zero, Option.some.injEq, ex_eq]
      refine drawN_wp S0.t (by decide) fun n st4 hn t4 k4 l4 => ?_
      have S4 := S0.kp t4 k4
      rw [natA, w_eq, w_getB]
      split
      · have hs := size_eq
        have l4' := t4.len
        have flat1 : ∀ (n : Nat) (x : A), (List.replicate n [x]).flatten = List.replicate n x := fun n x => List.flatten_replicate_singleton
        have w_mulR : ∀ {r : Nat} {x : A} {k : Int} {st : Store} {Q : A → Store → Prop}, stL st r = some [x] → 0 ≤ k → k ≤ 100000 → Q (.ref st.length) (st ++ [.lst (List.replicate k.toNat x)]) → (mulA (.ref r) (.int k) st).wp Q := fun {r x k st Q} h h0 h1 q => by
          rw [w_mulL]
          refine ⟨_, h, ⟨by omega, by omega, by rw [hs]; simp; omega⟩, ?_⟩
          rw [flat1]
          exact q
        rw [hM] at w_mulR
        refine seq_cut (fun ρ st => ∃ b' q, Kp st4 st ∧ TpOk st ∧ 1 < b' ∧ 1 < q ∧ stL st b' = some [.ref q] ∧ stL st q = some (List.replicate z.toNat (.int 7)) ∧ ρ = [s0, some (.ref 1), some (.ref b'), some (.ref c), some (.ref (c + 1)), v5, v6, v7, none]) ?_ ?_
        · simp only [sp_set, wp_lst, wp_bin, wp_cons, wp_nil, wp_c, List.set_cons_zero, List.set_cons_succ]
          refine ⟨by rw [hs]; simp, w_mulR stL_new (by omega) (by omega) ⟨by rw [hs]; simp, ?_⟩⟩
          have g1 : Grown st4 (st4 ++ [.lst [.int 7]]) := .one _ _
          have g2 : Grown (st4 ++ [.lst [.int 7]]) (st4 ++ [.lst [.int 7]] ++ [.lst (List.replicate z.toNat (.int 7))]) := .one _ _
          have g3 : Grown (st4 ++ [.lst [.int 7]] ++ [.lst (List.replicate z.toNat (.int 7))]) (st4 ++ [.lst [.int 7]] ++ [.lst (List.replicate z.toNat (.int 7))] ++ [.lst [.ref (st4 ++ [Ob.lst [A.int 7]]).length]]) := .one _ _
          have g := (g1.trans g2).trans g3
          exact ⟨_, _, Kp.grown g, t4.grown g, by simp <;> omega, by simp <;> omega, stL_new, g3.stL stL_new, rfl⟩
        · rintro ρ st5 ⟨b', q, k5, t5, b1', q1, hb', hq, rfl⟩
          have S5 := S4.kp t5 k5
          simp only [sp_set, wp_bin, wp_lst, wp_tup, wp_call, wp_cons, wp_nil, wp_var, wp_c, List.getElem?_cons_succ, List.getElem?_cons_zero, Option.some.injEq, ex_eq, List.set_cons_zero, List.set_cons_succ]
          refine ⟨by rw [hs]; simp, by rw [hs]; simp, ?_⟩
          have l5 := t5.len
          have g1 : Grown st5 (st5 ++ [.lst [A.tup [.str "literal", .str "x"]]]) := .one _ _
          refine drawN_wp (t5.grown g1) (by decide) fun n1 st6 hn1 t6 k6 l6 => ?_
          have K6 : Kp st5 st6 := (Kp.grown g1).trans k6
          rw [natA]
          refine w_mulR (k6.stL (by omega) stL_new) (by omega) (by omega) ?_
          have l6' := t6.len
          have hx : stL (st6 ++ [Ob.lst (List.replicate ((n1 : Nat) : Int).toNat (A.tup [.str "literal", .str "x"]))]) st6.length = some (List.replicate ((n1 : Nat) : Int).toNat (A.tup [.str "literal", .str "x"])) := stL_new
          have g7 : Grown st6 (st6 ++ [Ob.lst (List.replicate ((n1 : Nat) : Int).toNat (A.tup [.str "literal", .str "x"]))]) := .one _ _
          have K7 := K6.trans (Kp.grown g7)
          have t7 := t6.grown g7
          generalize hst7 : st6 ++ [Ob.lst (List.replicate ((n1 : Nat) : Int).toNat (A.tup [.str "literal", .str "x"]))] = st7 at *
          refine ⟨by rw [hs]; simp, by rw [hs]; simp, ?_⟩
          have g8 : Grown st7 (st7 ++ [.lst [A.tup [.str "copy", .int 0, .int 0, .int z]]]) := .one _ _
          have l7 := t7.len
          refine drawN_wp (t7.grown g8) (by decide) fun n2 st9 hn2 t9 k9 l9 => ?_
          rw [natA, w_add]
          refine w_mulR (k9.stL (by omega) stL_new) (by omega) (by omega) ?_
          have g10 : Grown st9 (st9 ++ [.lst (List.replicate (98 + ((n2 : Nat) : Int)).toNat (A.tup [.str "copy", .int 0, .int 0, .int z]))]) := .one _ _
          rw [w_addL]
          refine ⟨_, g10.stL (k9.stL (by omega) (g8.stL hx)), _, stL_new, by rw [hs, List.length_replicate, List.length_replicate]; omega, ?_⟩
          generalize hL11 : List.replicate ((n1 : Nat) : Int).toNat (A.tup [.str "literal", .str "x"]) ++ List.replicate (98 + ((n2 : Nat) : Int)).toNat (A.tup [.str "copy", .int 0, .int 0, .int z]) = rec
          have g11 : Grown (st9 ++ [Ob.lst (List.replicate (98 + ((n2 : Nat) : Int)).toNat (A.tup [.str "copy", .int 0, .int 0, .int z]))]) (st9 ++ [Ob.lst (List.replicate (98 + ((n2 : Nat) : Int)).toNat (A.tup [.str "copy", .int 0, .int 0, .int z]))] ++ [.lst rec]) := .one _ _
          have K11 := (((K7.trans (Kp.grown g8)).trans k9).trans (Kp.grown g10)).trans (Kp.grown g11)
          have t11 := (t9.grown g10).grown g11
          have l9' := t9.len
          have hbl := stL_lt (K7.stL b1' hb')
          have hql := stL_lt (K7.stL q1 hq)
          have hk9 := k9.len
          rw [List.length_append, List.length_singleton] at hk9
          refine ⟨b', _, [.ref q], [List.replicate z.toNat (.int 7)], List.replicate n1 (.lit (.str "x")) ++ List.replicate (98 + n2) (.copy 0 0 2000), ⟨t11, K11.stL b1' hb', ?_, b1', by simp; omega, by simp; omega, ⟨rfl, fun i x e => ?_⟩, fun i r e => ?_, by simp, fun x hx => ?_, fun I hI => ?_, by simp; omega⟩, rfl⟩
          · rw [stL_new, ← hL11, List.map_append, List.map_replicate, List.map_replicate]
            have e1 : ((n1 : Nat) : Int).toNat = n1 := by omega
            have e2 : (98 + ((n2 : Nat) : Int)).toNat = 98 + n2 := by omega
            rw [e1, e2, hz]
            rfl
          · have h0 : i = 0 := by
              have := (List.getElem?_eq_some_iff.mp e).1
              simpa using this
            subst h0
            exact ⟨q, (Option.some.inj e).symm, K11.stL q1 hq⟩
          · have h0 : i = 0 := by
              have := (List.getElem?_eq_some_iff.mp e).1
              simpa using this
            subst h0
            have := Option.some.inj e
            cases this
            exact ⟨q1, by simp; omega⟩
          · rw [List.mem_singleton.mp hx, List.length_replicate]
            omega
          · rcases List.mem_append.mp hI with h | h
            · rw [(List.mem_replicate.mp h).2]
              exact el_str36
            · rw [(List.mem_replicate.mp h).2]
              trivial
      · exact sp_next.mpr ⟨b, c, bs, B, Is, S4, rfl⟩
    clear S0 hz z
    rintro ρ st4 ⟨b', c', bs', B', Is', S4, rfl⟩
    have hIl : Is'.length ≤ 100000 := by have := S4.nI; omega
    have out : ∃ (s : Str) (i : Int), (∀ {Q : A → Store → Prop}, (∀ st', Grown st4 st' → Q (.tup [.str s, .int i]) st') → (moc [.ref b', .ref c'] st4).wp Q) ∧ (∀ {Q : A → Store → Prop} (st' : Store), (∀ st2, Q (.tup [.str s, .int i, .bl true]) st2) → (mtl [.tup (B'.map A.tup), .tup (Is'.map insA)] st').wp Q) := by
      rcases stop_ex (B := B') S4.sd Is'.length (Nat.le_refl _) with ⟨R, G⟩ | ⟨j, I, R, o, e, h1, hI, G, F⟩
      · rw [List.take_length] at G
        exact ⟨"fine", _, fun {Q} k => CW S4.sd S4.hb S4.hc S4.bB (by have := S4.nB; omega) S4.xB hIl (.inl ⟨G, k⟩), fun {Q} st' k => TO G hIl k⟩
      · have sI := S4.sd I (List.mem_of_getElem? hI)
        have oc : ∀ {Q : A → Store → Prop}, (∀ st', Grown st4 st' → Q o st') → (moc [.ref b', .ref c'] st4).wp Q := fun {Q} k => CW S4.sd S4.hb S4.hc S4.bB (by have := S4.nB; omega) S4.xB hIl (.inr ⟨j, I, o, e, hI, G, F, k⟩)
        have tl : ∀ {Q : A → Store → Prop} (st' : Store), (∀ st2, Q (tuT o) st2) → (mtl [.tup (B'.map A.tup), .tup (Is'.map insA)] st').wp Q := fun {Q} st' k => TE hIl sI hI G F k
        cases F with
        | inv h => exact ⟨_, _, oc, tl⟩
        | elm h h2 => exact ⟨_, _, oc, tl⟩
        | lrg h h2 h3 => exact ⟨_, _, oc, tl⟩
    obtain ⟨s, i, oc, tl⟩ := out
    refine seq_cut (fun ρ st => Grown st4 st ∧ ρ = [s0, some (.ref 1), some (.ref b'), some (.ref c'), some (.ref (c + 1)), v5, v6, v7, some (.tup [.str s, .int i])]) ?_ ?_
    · simp only [sp_set, wp_call, wp_cons, wp_nil, wp_var, List.getElem?_cons_succ, List.getElem?_cons_zero, Option.some.injEq, ex_eq, List.set_cons_zero, List.set_cons_succ]
      exact oc fun st' g => ⟨g, rfl⟩
    rintro ρ st5 ⟨g5, rfl⟩
    simp only [sp_ret, wp_call, wp_ca, wp_bin, wp_tup, wp_cons, wp_nil, wp_var, wp_c, List.getElem?_cons_succ, List.getElem?_cons_zero, Option.some.injEq, ex_eq]
    refine GW (S4.bB.grown g5) (g5.stL S4.hb) (by have := S4.nB; omega) fun st6 g6 => ?_
    simp only [w_tupL, g6.stL (g5.stL S4.hc), Option.some.injEq, ex_eq]
    refine tl st6 fun st7 => ?_
    refine ⟨by rw [size_eq]; simp, ?_⟩
    rw [w_addT]
    refine ⟨by rw [size_eq]; simp, ?_⟩
    obtain ⟨p1, p2, p3⟩ := @tup_cmp36 s i true
    exact AL p1 p2 p3 rfl
  obtain ⟨a, st, e, h⟩ := R.wp.ex key
  subst h
  exact ⟨st, e⟩
def top (i : Nat) : Stmt := PySem.Challenge.pw_sameshape_k36_recipes_that_are_refused.main.body.getD i (.Pass ⟨0, 0, 0, 0⟩)
section
variable {P : Program} {w : World} {K : PySem.W.Frag} {mg : Str → Option Value} {base : Heap}
abbrev s_law_tape : Stmt := top 15
theorem sc_law_tape : FnScope ["_law_script", "_law_total", "_law_cell"] ["_law_script"] (defScope s_law_tape) := ⟨rfl, rfl, rfl, by decide +kernel, rfl, by decide +kernel, by decide +kernel⟩
theorem c_law_tape (G_law_tape : GF K mg "_law_tape" s_law_tape ["_law_script"]) (n_int : mg "int" = none) (n_abs : mg "abs" = none) (n_list : mg "list" = none) : Cal P w K mg base "_law_tape" 1 m_law_tape := cal_of G_law_tape sc_law_tape fun f cdv A outer s H E hr => (
    (mss_cons (ms_set sc_law_tape.nd me_int)
    (mss_cons (ms_for passesE (mi_it (me_var 0)) (mg_one sc_law_tape.nd) (mss_one (ms_set sc_law_tape.nd (me_bin op_modP os_mod (me_callTy call_int1 cs_int (by decide +kernel) n_int (ma_cons (me_bin op_addU os_add (me_bin op_mulU os_mul (me_var 1) me_int) (me_callB call_abs cs_abs PyProof.Rows.boot_abs n_abs (ma_cons (me_callTy call_int1 cs_int (by decide +kernel) n_int (ma_cons (me_var 2) ma_nil)) ma_nil))) ma_nil)) me_int))))
    (mss_one (ms_ret (me_lst (ma_cons (me_callTy call_list_of cs_list (by decide +kernel) n_list (ma_cons (me_var 0) ma_nil)) (ma_cons me_int (ma_cons me_int (ma_cons (me_var 1) ma_nil))))))))))
abbrev s_law_length : Stmt := top 27
theorem sc_law_length : FnScope ["_law_bases", "_law_lengths", "_law_step_here", "_law_part"] ["_law_bases", "_law_lengths", "_law_step_here"] (defScope s_law_length) := ⟨rfl, rfl, rfl, by decide +kernel, rfl, by decide +kernel, by decide +kernel⟩
theorem c_law_length (G_law_length : GF K mg "_law_length" s_law_length ["_law_bases", "_law_lengths", "_law_step_here"]) (n_len : mg "len" = none) (n_sum : mg "sum" = none) : Cal P w K mg base "_law_length" 1 m_law_length := cal_of G_law_length sc_law_length fun f cdv A outer s H E hr => (
    (mss_cons (ms_if (mt_cmp (op_eqU (units_ok hr)) os_eq (me_ix (me_var 2) me_int) me_str) (mss_one (ms_ret me_int)) mss_nil)
    (mss_cons (ms_if (mt_cmp (op_eqU (units_ok hr)) os_eq (me_ix (me_var 2) me_int) me_str) (mss_cons (ms_if (L2.PW.pt (mw_or (mt_cmp op_ge os_ge (me_ix (me_var 2) me_int) (me_callB call_len cs_len PySem.boot_len n_len (ma_cons (me_var 0) ma_nil))) (mw_or (mt_cmp op_gtU os_gt (me_ix (me_var 2) me_int) (me_ix (me_var 2) me_int)) (mw_or1 (mt_cmp op_gtU os_gt (me_ix (me_var 2) me_int) (me_callB call_len cs_len PySem.boot_len n_len (ma_cons (me_ix (me_var 0) (me_ix (me_var 2) me_int)) ma_nil))))))) (mss_one (ms_ret (me_neg me_int))) mss_nil)
    (mss_one (ms_ret (me_bin op_sub os_sub (me_ix (me_var 2) me_int) (me_ix (me_var 2) me_int))))) mss_nil)
    (mss_cons (ms_if (mt_cmp (op_eqU (units_ok hr)) os_eq (me_ix (me_var 2) me_int) me_str) (mss_cons (ms_if (mt_cmp op_ge os_ge (me_ix (me_var 2) me_int) (me_callB call_len cs_len PySem.boot_len n_len (ma_cons (me_var 1) ma_nil))) (mss_one (ms_ret (me_neg me_int))) mss_nil)
    (mss_one (ms_ret (me_bin op_mulU os_mul (me_ix (me_var 1) (me_ix (me_var 2) me_int)) (me_ix (me_var 2) me_int))))) mss_nil)
    (mss_cons (ms_if (mt_cmp op_gtU os_gt (me_callB call_len cs_len PySem.boot_len n_len (ma_cons (me_lc [("_law_part", 3)] sc_law_length.nd (mi_it (me_ix (me_var 2) me_int)) (blkOk_by (N := ["_law_bases", "_law_lengths", "_law_step_here", "_law_part"]) (sc := defScope s_law_length) (own := [("_law_part", 3)]) (by decide +kernel)) (fun _ _ _ _ _ => (mg_one sc_law_length.nd)) (fun _ _ _ _ _ => (mts_one (mt_cmp op_ge os_ge (me_var 3) (me_callB call_len cs_len PySem.boot_len n_len (ma_cons (me_var 1) ma_nil))))) (fun _ _ _ _ _ => (me_var 3))) ma_nil)) me_int) (mss_one (ms_ret (me_neg me_int))) mss_nil)
    (mss_one (ms_ret (me_callB (cr_sum rfl) cs_sum (by decide +kernel) n_sum (ma_cons (me_lc [("_law_part", 3)] sc_law_length.nd (mi_it (me_ix (me_var 2) me_int)) (blkOk_by (N := ["_law_bases", "_law_lengths", "_law_step_here", "_law_part"]) (sc := defScope s_law_length) (own := [("_law_part", 3)]) (by decide +kernel)) (fun _ _ _ _ _ => (mg_one sc_law_length.nd)) (fun _ _ _ _ _ => mts_nil) (fun _ _ _ _ _ => (me_ix (me_var 1) (me_var 3)))) ma_nil)))))))))
abbrev s_law_outcome : Stmt := top 28
theorem sc_law_outcome : FnScope ["_law_bases", "_law_recipe", "_law_lengths", "_law_place", "_law_many"] ["_law_bases", "_law_recipe"] (defScope s_law_outcome) := ⟨rfl, rfl, rfl, by decide +kernel, rfl, by decide +kernel, by decide +kernel⟩
theorem c_law_outcome (G_law_outcome : GF K mg "_law_outcome" s_law_outcome ["_law_bases", "_law_recipe"]) (C_law_length : Cal P w K mg base "_law_length" 1 m_law_length) (n_len : mg "len" = none) (n_range : mg "range" = none) (n_sum : mg "sum" = none) : Cal P w K mg base "_law_outcome" 2 m_law_outcome := cal_of G_law_outcome sc_law_outcome fun f cdv A outer s H E hr => (
    (mss_cons (ms_set sc_law_outcome.nd (me_lst ma_nil))
    (mss_cons (ms_for passesE (mi_range1 (x := "range") n_range (ma_cons (me_callB call_len cs_len PySem.boot_len n_len (ma_cons (me_var 1) ma_nil)) ma_nil) (hn := cons1)) (mg_one sc_law_outcome.nd) (mss_cons (ms_set sc_law_outcome.nd (me_call C_law_length (hr.mono (by decide)) takesE (ma_cons (me_var 0) (ma_cons (me_var 2) (ma_cons (me_ix (me_var 1) (me_var 3)) ma_nil)))))
    (mss_cons (ms_if (mt_cmp op_ltU os_lt (me_var 4) me_int) (mss_one (ms_ret (me_tup (ma_cons me_str (ma_cons (me_var 3) ma_nil))))) mss_nil)
    (mss_cons (ms_if (mt_cmp op_gtU os_gt (me_var 4) me_int) (mss_one (ms_ret (me_tup (ma_cons me_str (ma_cons (me_var 4) ma_nil))))) mss_nil)
    (mss_cons (ms_expr (me_bm PySem.F.slot_list_append PySem.F.type_list_append mt_append ms_append (me_var 2) (ma_cons (me_var 4) ma_nil)))
    (mss_one (ms_if (mt_cmp op_gtU os_gt (me_callB (cr_sum rfl) cs_sum (by decide +kernel) n_sum (ma_cons (me_var 2) ma_nil)) me_int) (mss_one (ms_ret (me_tup (ma_cons me_str (ma_cons (me_var 3) ma_nil))))) mss_nil)))))))
    (mss_one (ms_ret (me_tup (ma_cons me_str (ma_cons (me_callB (cr_sum rfl) cs_sum (by decide +kernel) n_sum (ma_cons (me_slice (me_var 2) (mo_some (me_neg me_int)) mo_none) ma_nil)) ma_nil))))))))
abbrev s_law_alike : Stmt := top 17
theorem sc_law_alike : FnScope ["_law_told_here", "_law_due", "_law_k"] ["_law_told_here", "_law_due"] (defScope s_law_alike) := ⟨rfl, rfl, rfl, by decide +kernel, rfl, by decide +kernel, by decide +kernel⟩
theorem c_law_alike (G_law_alike : GF K mg "_law_alike" s_law_alike ["_law_told_here", "_law_due"]) (n_isinstance : mg "isinstance" = none) (n_tuple : mg "tuple" = none) (n_len : mg "len" = none) (n_range : mg "range" = none) (n_str : mg "str" = none) (n_bool : mg "bool" = none) (n_int : mg "int" = none) : ∀ n : Nat, Cal P w K mg base "_law_alike" (n + 0) (m_law_alike n)
  | 0 => cal_bad G_law_alike
  | n + 1 => by
    have ih_law_alike := c_law_alike G_law_alike n_isinstance n_tuple n_len n_range n_str n_bool n_int n
    exact Cal.cast (by omega) (cal_of G_law_alike sc_law_alike fun f cdv A outer s H E hr => (
    (mss_cons (ms_if (mt_tru (me_isi .tup (me_var 1) rfl rfl n_isinstance n_tuple (by decide +kernel))) (mss_cons (ms_if (L2.PW.pt (mw_or (mt_not (mt_tru (me_isi .tup (me_var 0) rfl rfl n_isinstance n_tuple (by decide +kernel)))) (mw_or1 (mt_cmp (op_neU (units_ok hr)) os_ne (me_callB call_len cs_len PySem.boot_len n_len (ma_cons (me_var 0) ma_nil)) (me_callB call_len cs_len PySem.boot_len n_len (ma_cons (me_var 1) ma_nil)))))) (mss_one (ms_ret me_bl)) mss_nil)
    (mss_cons (ms_for passesE (mi_range1 (x := "range") n_range (ma_cons (me_callB call_len cs_len PySem.boot_len n_len (ma_cons (me_var 1) ma_nil)) ma_nil) (hn := cons1)) (mg_one sc_law_alike.nd) (mss_one (ms_if (mt_not (mt_tru (me_call ih_law_alike (hr.mono (Nat.le_refl _)) takesE (ma_cons (me_ix (me_var 0) (me_var 2)) (ma_cons (me_ix (me_var 1) (me_var 2)) ma_nil))))) (mss_one (ms_ret me_bl)) mss_nil)))
    (mss_one (ms_ret me_bl)))) mss_nil)
    (mss_cons (ms_if (mt_cmp op_isN os_isN (me_var 1) me_non) (mss_one (ms_ret (me_cmp op_isN os_isN (me_var 0) me_non))) mss_nil)
    (mss_cons (ms_if (mt_tru (me_isi .str (me_var 1) rfl rfl n_isinstance n_str (by decide +kernel))) (mss_one (ms_ret (me_and (me_isi .str (me_var 0) rfl rfl n_isinstance n_str (by decide +kernel)) (me_one (me_cmp (op_eqU (units_ok hr)) os_eq (me_var 0) (me_var 1)))))) mss_nil)
    (mss_cons (ms_if (mt_cmp (op_neU (units_ok hr)) os_ne (me_isi .bool (me_var 0) rfl rfl n_isinstance n_bool (by decide +kernel)) (me_isi .bool (me_var 1) rfl rfl n_isinstance n_bool (by decide +kernel))) (mss_one (ms_ret me_bl)) mss_nil)
    (mss_one (ms_ret (me_and (me_isi .int (me_var 0) rfl rfl n_isinstance n_int (by decide +kernel)) (me_one (me_cmp (op_eqU (units_ok hr)) os_eq (me_var 0) (me_var 1))))))))))))
abbrev s_law_draw : Stmt := top 16
theorem sc_law_draw : FnScope ["_law_tape_here", "_law_many", "_law_place", "_law_number"] ["_law_tape_here", "_law_many"] (defScope s_law_draw) := ⟨rfl, rfl, rfl, by decide +kernel, rfl, by decide +kernel, by decide +kernel⟩
theorem c_law_draw (G_law_draw : GF K mg "_law_draw" s_law_draw ["_law_tape_here", "_law_many"]) (n_len : mg "len" = none) (n_int : mg "int" = none) (n_abs : mg "abs" = none) (n_max : mg "max" = none) : Cal P w K mg base "_law_draw" 1 m_law_draw := cal_of G_law_draw sc_law_draw fun f cdv A outer s H E hr => (
    (mss_cons (ms_if (mt_cmp (op_eqU (units_ok hr)) os_eq (me_ix (me_var 0) me_int) me_int) (mss_cons (ms_set sc_law_draw.nd (me_ix (me_var 0) me_int))
    (mss_cons (ms_set sc_law_draw.nd me_int)
    (mss_cons (ms_if (mt_cmp op_ltU os_lt (me_var 2) (me_callB call_len cs_len PySem.boot_len n_len (ma_cons (me_ix (me_var 0) me_int) ma_nil))) (mss_one (ms_set sc_law_draw.nd (me_callB call_abs cs_abs PyProof.Rows.boot_abs n_abs (ma_cons (me_callTy call_int1 cs_int (by decide +kernel) n_int (ma_cons (me_ix (me_ix (me_var 0) me_int) (me_var 2)) ma_nil)) ma_nil)))) (mss_cons (ms_put (me_var 0) me_int (me_bin op_modP os_mod (me_callTy call_int1 cs_int (by decide +kernel) n_int (ma_cons (me_bin op_addU os_add (me_bin op_addU os_add (me_bin op_mulU os_mul (me_ix (me_var 0) me_int) me_int) (me_var 2)) me_int) ma_nil)) me_int))
    (mss_one (ms_set sc_law_draw.nd (me_ix (me_var 0) me_int)))))
    (mss_cons (ms_put (me_var 0) me_int (me_bin op_addU os_add (me_var 2) me_int))
    (mss_cons (ms_if (mt_cmp op_ltU os_lt (me_var 3) (me_bin op_pow os_pow me_int me_int)) (mss_cons (ms_set sc_law_draw.nd (me_bin op_modP os_mod (me_callTy call_int1 cs_int (by decide +kernel) n_int (ma_cons (me_bin op_addU os_add (me_bin op_addU os_add (me_bin op_mulU os_mul (me_var 3) me_int) (me_bin op_mulU os_mul (me_var 2) me_int)) me_int) ma_nil)) me_int))
    (mss_cons (ms_set sc_law_draw.nd (me_bin op_modP os_mod (me_callTy call_int1 cs_int (by decide +kernel) n_int (ma_cons (me_bin op_mulU os_mul (me_var 3) me_int) ma_nil)) me_int))
    (mss_one (ms_ret (me_bin op_modP os_mod (me_callTy call_int1 cs_int (by decide +kernel) n_int (ma_cons (me_var 3) ma_nil)) (me_callB (call_maxU rfl) cs_max PyProof.Rows.boot_max n_max (ma_cons (me_var 1) (ma_cons me_int ma_nil)))))))) mss_nil)
    (mss_one (ms_put (me_var 0) me_int (me_var 3)))))))) mss_nil)
    (mss_cons (ms_set sc_law_draw.nd (me_ix (me_var 0) me_int))
    (mss_cons (ms_put (me_var 0) me_int (me_bin op_fdivW os_fdiv (me_var 3) (me_callB (call_maxU rfl) cs_max PyProof.Rows.boot_max n_max (ma_cons (me_var 1) (ma_cons me_int ma_nil)))))
    (mss_one (ms_ret (me_bin op_modP os_mod (me_callTy call_int1 cs_int (by decide +kernel) n_int (ma_cons (me_var 3) ma_nil)) (me_callB (call_maxU rfl) cs_max PyProof.Rows.boot_max n_max (ma_cons (me_var 1) (ma_cons me_int ma_nil))))))))))
abbrev s_law_sign : Stmt := top 18
theorem sc_law_sign : FnScope ["_law_tape_here", "_law_signs"] ["_law_tape_here"] (defScope s_law_sign) := ⟨rfl, rfl, rfl, by decide +kernel, rfl, by decide +kernel, by decide +kernel⟩
theorem c_law_sign (G_law_sign : GF K mg "_law_sign" s_law_sign ["_law_tape_here"]) (C_law_draw : Cal P w K mg base "_law_draw" 1 m_law_draw) : Cal P w K mg base "_law_sign" 2 m_law_sign := cal_of G_law_sign sc_law_sign fun f cdv A outer s H E hr => (
    (mss_cons (ms_set sc_law_sign.nd me_str)
    (mss_cons (ms_set sc_law_sign.nd (me_bin op_addU os_add (me_var 1) me_str))
    (mss_one (ms_ret (me_ix (me_var 1) (me_call C_law_draw (hr.mono (by decide)) takesE (ma_cons (me_var 0) (ma_cons me_int ma_nil)))))))))
abbrev s_law_word : Stmt := top 19
theorem sc_law_word : FnScope ["_law_tape_here", "_law_word_here", "_law_k"] ["_law_tape_here"] (defScope s_law_word) := ⟨rfl, rfl, rfl, by decide +kernel, rfl, by decide +kernel, by decide +kernel⟩
theorem c_law_word (G_law_word : GF K mg "_law_word" s_law_word ["_law_tape_here"]) (C_law_draw : Cal P w K mg base "_law_draw" 1 m_law_draw) (C_law_sign : Cal P w K mg base "_law_sign" 2 m_law_sign) (n_range : mg "range" = none) : Cal P w K mg base "_law_word" 3 m_law_word := cal_of G_law_word sc_law_word fun f cdv A outer s H E hr => (
    (mss_cons (ms_set sc_law_word.nd (me_ix (me_lst (ma_cons me_str (ma_cons me_str (ma_cons me_str (ma_cons me_str ma_nil))))) (me_call C_law_draw (hr.mono (by decide)) takesE (ma_cons (me_var 0) (ma_cons me_int ma_nil)))))
    (mss_cons (ms_for passesE (mi_range1 (x := "range") n_range (ma_cons (me_call C_law_draw (hr.mono (by decide)) takesE (ma_cons (me_var 0) (ma_cons me_int ma_nil))) ma_nil) (hn := cons1)) (mg_one sc_law_word.nd) (mss_one (ms_set sc_law_word.nd (me_bin op_addU os_add (me_var 1) (me_call C_law_sign (hr.mono (by decide)) takesE (ma_cons (me_var 0) ma_nil))))))
    (mss_one (ms_ret (me_var 1))))))
abbrev s_law_scalar : Stmt := top 20
theorem sc_law_scalar : FnScope ["_law_tape_here", "_law_choice", "_law_edges"] ["_law_tape_here"] (defScope s_law_scalar) := ⟨rfl, rfl, rfl, by decide +kernel, rfl, by decide +kernel, by decide +kernel⟩
theorem c_law_scalar (G_law_scalar : GF K mg "_law_scalar" s_law_scalar ["_law_tape_here"]) (C_law_draw : Cal P w K mg base "_law_draw" 1 m_law_draw) (C_law_word : Cal P w K mg base "_law_word" 3 m_law_word) : Cal P w K mg base "_law_scalar" 4 m_law_scalar := cal_of G_law_scalar sc_law_scalar fun f cdv A outer s H E hr => (
    (mss_cons (ms_set sc_law_scalar.nd (me_call C_law_draw (hr.mono (by decide)) takesE (ma_cons (me_var 0) (ma_cons me_int ma_nil))))
    (mss_cons (ms_if (mt_cmp (op_eqU (units_ok hr)) os_eq (me_var 1) me_int) (mss_one (ms_ret (me_call C_law_word (hr.mono (by decide)) takesE (ma_cons (me_var 0) ma_nil)))) mss_nil)
    (mss_cons (ms_if (mt_cmp (op_eqU (units_ok hr)) os_eq (me_var 1) me_int) (mss_cons (ms_set sc_law_scalar.nd (me_lst (ma_cons me_int (ma_cons me_int (ma_cons me_int (ma_cons me_int (ma_cons me_int (ma_cons me_int (ma_cons me_int (ma_cons me_int (ma_cons (me_bin op_sub os_sub (me_bin op_pow os_pow me_int me_int) me_int) (ma_cons (me_bin op_pow os_pow me_int me_int) ma_nil))))))))))))
    (mss_one (ms_ret (me_bin op_mulU os_mul (me_ix (me_var 2) (me_call C_law_draw (hr.mono (by decide)) takesE (ma_cons (me_var 0) (ma_cons me_int ma_nil)))) (me_bin op_sub os_sub me_int (me_bin op_mulU os_mul me_int (me_call C_law_draw (hr.mono (by decide)) takesE (ma_cons (me_var 0) (ma_cons me_int ma_nil))))))))) mss_nil)
    (mss_cons (ms_if (mt_cmp (op_eqU (units_ok hr)) os_eq (me_var 1) me_int) (mss_one (ms_ret (me_bin op_mulU os_mul (me_bin op_sub os_sub (me_call C_law_draw (hr.mono (by decide)) takesE (ma_cons (me_var 0) (ma_cons me_int ma_nil))) me_int) (me_ix (me_lst (ma_cons me_int (ma_cons me_int (ma_cons me_int ma_nil)))) (me_call C_law_draw (hr.mono (by decide)) takesE (ma_cons (me_var 0) (ma_cons me_int ma_nil))))))) mss_nil)
    (mss_cons (ms_if (mt_cmp (op_eqU (units_ok hr)) os_eq (me_var 1) me_int) (mss_one (ms_ret (me_bin op_sub os_sub (me_call C_law_draw (hr.mono (by decide)) takesE (ma_cons (me_var 0) (ma_cons (me_bin op_addU os_add (me_bin op_mulU os_mul me_int (me_bin op_pow os_pow me_int me_int)) me_int) ma_nil))) (me_bin op_pow os_pow me_int me_int)))) mss_nil)
    (mss_one (ms_ret (me_call C_law_draw (hr.mono (by decide)) takesE (ma_cons (me_var 0) (ma_cons me_int ma_nil)))))))))))
abbrev s_law_element : Stmt := top 21
theorem sc_law_element : FnScope ["_law_tape_here", "_law_first"] ["_law_tape_here"] (defScope s_law_element) := ⟨rfl, rfl, rfl, by decide +kernel, rfl, by decide +kernel, by decide +kernel⟩
theorem c_law_element (G_law_element : GF K mg "_law_element" s_law_element ["_law_tape_here"]) (C_law_scalar : Cal P w K mg base "_law_scalar" 4 m_law_scalar) (C_law_draw : Cal P w K mg base "_law_draw" 1 m_law_draw) : Cal P w K mg base "_law_element" 5 m_law_element := cal_of G_law_element sc_law_element fun f cdv A outer s H E hr => (
    (mss_cons (ms_set sc_law_element.nd (me_call C_law_scalar (hr.mono (by decide)) takesE (ma_cons (me_var 0) ma_nil)))
    (mss_cons (ms_if (mt_cmp (op_eqU (units_ok hr)) os_eq (me_call C_law_draw (hr.mono (by decide)) takesE (ma_cons (me_var 0) (ma_cons me_int ma_nil))) me_int) (mss_one (ms_ret (me_tup (ma_cons (me_var 1) (ma_cons (me_call C_law_scalar (hr.mono (by decide)) takesE (ma_cons (me_var 0) ma_nil)) ma_nil))))) mss_nil)
    (mss_one (ms_ret (me_var 1))))))
abbrev s_law_contents : Stmt := top 22
theorem sc_law_contents : FnScope ["_law_tape_here", "_law_most", "_law_pool", "_law_row", "_law_k", "_law_choice", "_law_start", "_law_at", "_law_j"] ["_law_tape_here", "_law_most"] (defScope s_law_contents) := ⟨rfl, rfl, rfl, by decide +kernel, rfl, by decide +kernel, by decide +kernel⟩
theorem c_law_contents (G_law_contents : GF K mg "_law_contents" s_law_contents ["_law_tape_here", "_law_most"]) (C_law_draw : Cal P w K mg base "_law_draw" 1 m_law_draw) (C_law_element : Cal P w K mg base "_law_element" 5 m_law_element) (n_range : mg "range" = none) (n_len : mg "len" = none) : Cal P w K mg base "_law_contents" 6 m_law_contents := cal_of G_law_contents sc_law_contents fun f cdv A outer s H E hr => (
    (mss_cons (ms_set sc_law_contents.nd (me_lc [("_law_k", 4)] sc_law_contents.nd (mi_range1 (x := "range") n_range (ma_cons (me_bin op_addU os_add me_int (me_call C_law_draw (hr.mono (by decide)) takesE (ma_cons (me_var 0) (ma_cons me_int ma_nil)))) ma_nil) (hn := cons1)) (blkOk_by (N := ["_law_tape_here", "_law_most", "_law_pool", "_law_row", "_law_k", "_law_choice", "_law_start", "_law_at", "_law_j"]) (sc := defScope s_law_contents) (own := [("_law_k", 4)]) (by decide +kernel)) (fun _ _ _ _ _ => (mg_one sc_law_contents.nd)) (fun _ _ _ _ _ => mts_nil) (fun _ _ _ _ _ => (me_call C_law_element (hr.mono (by decide)) takes0 (ma_cons (me_var 0) ma_nil)))))
    (mss_cons (ms_set sc_law_contents.nd (me_lst ma_nil))
    (mss_cons (ms_for passesE (mi_range1 (x := "range") n_range (ma_cons (me_call C_law_draw (hr.mono (by decide)) takesE (ma_cons (me_var 0) (ma_cons me_int ma_nil))) ma_nil) (hn := cons1)) (mg_one sc_law_contents.nd) (mss_cons (ms_set sc_law_contents.nd (me_call C_law_draw (hr.mono (by decide)) takesE (ma_cons (me_var 0) (ma_cons me_int ma_nil))))
    (mss_one (ms_if (mt_cmp (op_eqU (units_ok hr)) os_eq (me_var 5) me_int) (mss_one (ms_set sc_law_contents.nd (me_bin op_addU os_add (me_var 3) (me_bin op_mulU os_mul (me_lst (ma_cons (me_ix (me_var 2) (me_call C_law_draw (hr.mono (by decide)) takesE (ma_cons (me_var 0) (ma_cons (me_callB call_len cs_len PySem.boot_len n_len (ma_cons (me_var 2) ma_nil)) ma_nil)))) ma_nil)) (me_bin op_addU os_add me_int (me_call C_law_draw (hr.mono (by decide)) takesE (ma_cons (me_var 0) (ma_cons me_int ma_nil)))))))) (mss_one (ms_if (mt_cmp (op_eqU (units_ok hr)) os_eq (me_var 5) me_int) (mss_cons (ms_set sc_law_contents.nd (me_call C_law_draw (hr.mono (by decide)) takesE (ma_cons (me_var 0) (ma_cons me_int ma_nil))))
    (mss_one (ms_set sc_law_contents.nd (me_bin op_addU os_add (me_var 3) (me_lc [("_law_j", 8)] sc_law_contents.nd (mi_range1 (x := "range") n_range (ma_cons (me_bin op_addU os_add me_int (me_call C_law_draw (hr.mono (by decide)) takesE (ma_cons (me_var 0) (ma_cons me_int ma_nil)))) ma_nil) (hn := cons1)) (blkOk_by (N := ["_law_tape_here", "_law_most", "_law_pool", "_law_row", "_law_k", "_law_choice", "_law_start", "_law_at", "_law_j"]) (sc := defScope s_law_contents) (own := [("_law_j", 8)]) (by decide +kernel)) (fun _ _ _ _ _ => (mg_one sc_law_contents.nd)) (fun _ _ _ _ _ => mts_nil) (fun _ _ _ _ _ => (me_bin op_addU os_add (me_var 6) (me_var 8)))))))) (mss_one (ms_if (mt_cmp (op_eqU (units_ok hr)) os_eq (me_var 5) me_int) (mss_cons (ms_set sc_law_contents.nd (me_call C_law_draw (hr.mono (by decide)) takesE (ma_cons (me_var 0) (ma_cons (me_bin op_addU os_add (me_callB call_len cs_len PySem.boot_len n_len (ma_cons (me_var 3) ma_nil)) me_int) ma_nil))))
    (mss_one (ms_set sc_law_contents.nd (me_bin op_addU os_add (me_var 3) (me_slice (me_var 3) (mo_some (me_var 7)) (mo_some (me_bin op_addU os_add (me_bin op_addU os_add (me_var 7) me_int) (me_call C_law_draw (hr.mono (by decide)) takesE (ma_cons (me_var 0) (ma_cons me_int ma_nil)))))))))) (mss_one (ms_if (mt_cmp (op_eqU (units_ok hr)) os_eq (me_var 5) me_int) (mss_one (ms_set sc_law_contents.nd (me_bin op_addU os_add (me_var 3) (me_bin op_mulU os_mul (me_bin op_addU os_add (me_slice (me_var 3) (mo_some (me_neg me_int)) mo_none) (me_lst (ma_cons (me_ix (me_var 2) (me_call C_law_draw (hr.mono (by decide)) takesE (ma_cons (me_var 0) (ma_cons (me_callB call_len cs_len PySem.boot_len n_len (ma_cons (me_var 2) ma_nil)) ma_nil)))) ma_nil))) (me_bin op_addU os_add me_int (me_call C_law_draw (hr.mono (by decide)) takesE (ma_cons (me_var 0) (ma_cons me_int ma_nil)))))))) (mss_one (ms_set sc_law_contents.nd (me_bin op_addU os_add (me_var 3) (me_lc [("_law_j", 8)] sc_law_contents.nd (mi_range1 (x := "range") n_range (ma_cons (me_bin op_addU os_add me_int (me_call C_law_draw (hr.mono (by decide)) takesE (ma_cons (me_var 0) (ma_cons me_int ma_nil)))) ma_nil) (hn := cons1)) (blkOk_by (N := ["_law_tape_here", "_law_most", "_law_pool", "_law_row", "_law_k", "_law_choice", "_law_start", "_law_at", "_law_j"]) (sc := defScope s_law_contents) (own := [("_law_j", 8)]) (by decide +kernel)) (fun _ _ _ _ _ => (mg_one sc_law_contents.nd)) (fun _ _ _ _ _ => mts_nil) (fun _ _ _ _ _ => (me_ix (me_var 2) (me_call C_law_draw (hr.mono (by decide)) takes0 (ma_cons (me_var 0) (ma_cons (me_callB call_len cs_len PySem.boot_len n_len (ma_cons (me_var 2) ma_nil)) ma_nil)))))))))))))))))))
    (mss_one (ms_ret (me_slice (me_var 3) mo_none (mo_some (me_var 1)))))))))
abbrev s_law_step : Stmt := top 24
theorem sc_law_step : FnScope ["_law_tape_here", "_law_bases", "_law_results", "_law_most", "_law_choice", "_law_step_here", "_law_base", "_law_many", "_law_start", "_law_size", "_law_k", "_law_part"] ["_law_tape_here", "_law_bases", "_law_results", "_law_most"] (defScope s_law_step) := ⟨rfl, rfl, rfl, by decide +kernel, rfl, by decide +kernel, by decide +kernel⟩
theorem c_law_step (G_law_step : GF K mg "_law_step" s_law_step ["_law_tape_here", "_law_bases", "_law_results", "_law_most"]) (C_law_draw : Cal P w K mg base "_law_draw" 1 m_law_draw) (C_law_element : Cal P w K mg base "_law_element" 5 m_law_element) (n_len : mg "len" = none) (n_min : mg "min" = none) (n_range : mg "range" = none) (n_tuple : mg "tuple" = none) (n_sum : mg "sum" = none) : Cal P w K mg base "_law_step" 6 m_law_step := cal_of G_law_step sc_law_step fun f cdv A outer s H E hr => (
    (mss_cons (ms_set sc_law_step.nd (me_call C_law_draw (hr.mono (by decide)) takesE (ma_cons (me_var 0) (ma_cons me_int ma_nil))))
    (mss_cons (ms_set sc_law_step.nd (me_tup (ma_cons me_str (ma_cons (me_call C_law_element (hr.mono (by decide)) takesE (ma_cons (me_var 0) ma_nil)) ma_nil))))
    (mss_cons (ms_if (L2.PW.pt (mw_and (mt_cmp op_ltU os_lt (me_var 4) me_int) (mw_and1 (mt_tru (me_var 1))))) (mss_cons (ms_set sc_law_step.nd (me_call C_law_draw (hr.mono (by decide)) takesE (ma_cons (me_var 0) (ma_cons (me_callB call_len cs_len PySem.boot_len n_len (ma_cons (me_var 1) ma_nil)) ma_nil))))
    (mss_cons (ms_set sc_law_step.nd (me_callB call_len cs_len PySem.boot_len n_len (ma_cons (me_ix (me_var 1) (me_var 6)) ma_nil)))
    (mss_cons (ms_set sc_law_step.nd (me_call C_law_draw (hr.mono (by decide)) takesE (ma_cons (me_var 0) (ma_cons (me_callB (call_minU rfl) cs_min PyProof.Rows.boot_min n_min (ma_cons (me_bin op_addU os_add (me_var 7) me_int) (ma_cons (me_ix (me_lst (ma_cons me_int (ma_cons me_int ma_nil))) (me_call C_law_draw (hr.mono (by decide)) takesE (ma_cons (me_var 0) (ma_cons me_int ma_nil)))) ma_nil))) ma_nil))))
    (mss_one (ms_set sc_law_step.nd (me_tup (ma_cons me_str (ma_cons (me_var 6) (ma_cons (me_var 8) (ma_cons (me_bin op_sub os_sub (me_var 7) (me_call C_law_draw (hr.mono (by decide)) takesE (ma_cons (me_var 0) (ma_cons (me_callB (call_minU rfl) cs_min PyProof.Rows.boot_min n_min (ma_cons (me_bin op_sub os_sub (me_bin op_addU os_add (me_var 7) me_int) (me_var 8)) (ma_cons (me_ix (me_lst (ma_cons me_int (ma_cons me_int ma_nil))) (me_call C_law_draw (hr.mono (by decide)) takesE (ma_cons (me_var 0) (ma_cons me_int ma_nil)))) ma_nil))) ma_nil)))) ma_nil)))))))))) mss_nil)
    (mss_cons (ms_if (L2.PW.pt (mw_and (mt_cmp op_gtU os_gt (me_var 4) me_int) (mw_and1 (mt_tru (me_var 2))))) (mss_one (ms_set sc_law_step.nd (me_tup (ma_cons me_str (ma_cons (me_bin op_mulU os_mul (me_callTy call_tupleP cs_tuple (by decide +kernel) n_tuple (ma_cons (me_lc [("_law_k", 10)] sc_law_step.nd (mi_range1 (x := "range") n_range (ma_cons (me_call C_law_draw (hr.mono (by decide)) takesE (ma_cons (me_var 0) (ma_cons me_int ma_nil))) ma_nil) (hn := cons1)) (blkOk_by (N := ["_law_tape_here", "_law_bases", "_law_results", "_law_most", "_law_choice", "_law_step_here", "_law_base", "_law_many", "_law_start", "_law_size", "_law_k", "_law_part"]) (sc := defScope s_law_step) (own := [("_law_k", 10)]) (by decide +kernel)) (fun _ _ _ _ _ => (mg_one sc_law_step.nd)) (fun _ _ _ _ _ => mts_nil) (fun _ _ _ _ _ => (me_call C_law_draw (hr.mono (by decide)) takes0 (ma_cons (me_var 0) (ma_cons (me_callB call_len cs_len PySem.boot_len n_len (ma_cons (me_var 2) ma_nil)) ma_nil))))) ma_nil)) (me_ix (me_lst (ma_cons me_int (ma_cons me_int (ma_cons me_int (ma_cons me_int ma_nil))))) (me_call C_law_draw (hr.mono (by decide)) takesE (ma_cons (me_var 0) (ma_cons me_int ma_nil))))) ma_nil))))) mss_nil)
    (mss_cons (ms_if (L2.PW.pt (mw_and (mt_cmp (op_eqU (units_ok hr)) os_eq (me_var 4) me_int) (mw_and1 (mt_tru (me_var 2))))) (mss_one (ms_set sc_law_step.nd (me_tup (ma_cons me_str (ma_cons (me_call C_law_draw (hr.mono (by decide)) takesE (ma_cons (me_var 0) (ma_cons (me_callB call_len cs_len PySem.boot_len n_len (ma_cons (me_var 2) ma_nil)) ma_nil))) (ma_cons (me_ix (me_lst (ma_cons me_int (ma_cons me_int (ma_cons me_int (ma_cons me_int (ma_cons me_int (ma_cons me_int (ma_cons me_int ma_nil)))))))) (me_call C_law_draw (hr.mono (by decide)) takesE (ma_cons (me_var 0) (ma_cons me_int ma_nil)))) ma_nil)))))) mss_nil)
    (mss_cons (ms_set sc_law_step.nd me_int)
    (mss_cons (ms_if (mt_cmp (op_eqU (units_ok hr)) os_eq (me_ix (me_var 5) me_int) me_str) (mss_one (ms_set sc_law_step.nd (me_bin op_sub os_sub (me_ix (me_var 5) me_int) (me_ix (me_var 5) me_int)))) (mss_one (ms_if (mt_cmp (op_eqU (units_ok hr)) os_eq (me_ix (me_var 5) me_int) me_str) (mss_one (ms_set sc_law_step.nd (me_bin op_mulU os_mul (me_callB call_len cs_len PySem.boot_len n_len (ma_cons (me_ix (me_var 2) (me_ix (me_var 5) me_int)) ma_nil)) (me_ix (me_var 5) me_int)))) (mss_one (ms_if (mt_cmp (op_eqU (units_ok hr)) os_eq (me_ix (me_var 5) me_int) me_str) (mss_one (ms_set sc_law_step.nd (me_callB (cr_sum rfl) cs_sum (by decide +kernel) n_sum (ma_cons (me_lc [("_law_part", 11)] sc_law_step.nd (mi_it (me_ix (me_var 5) me_int)) (blkOk_by (N := ["_law_tape_here", "_law_bases", "_law_results", "_law_most", "_law_choice", "_law_step_here", "_law_base", "_law_many", "_law_start", "_law_size", "_law_k", "_law_part"]) (sc := defScope s_law_step) (own := [("_law_part", 11)]) (by decide +kernel)) (fun _ _ _ _ _ => (mg_one sc_law_step.nd)) (fun _ _ _ _ _ => mts_nil) (fun _ _ _ _ _ => (me_callB call_len cs_len PySem.boot_len n_len (ma_cons (me_ix (me_var 2) (me_var 11)) ma_nil)))) ma_nil)))) mss_nil)))))
    (mss_cons (ms_if (mt_cmp op_gtU os_gt (me_var 9) (me_var 3)) (mss_one (ms_set sc_law_step.nd (me_tup (ma_cons me_str (ma_cons (me_var 4) ma_nil))))) mss_nil)
    (mss_one (ms_ret (me_var 5))))))))))))
abbrev s_law_bad : Stmt := top 26
theorem sc_law_bad : FnScope ["_law_tape_here", "_law_bases", "_law_place", "_law_choice", "_law_index", "_law_many"] ["_law_tape_here", "_law_bases", "_law_place"] (defScope s_law_bad) := ⟨rfl, rfl, rfl, by decide +kernel, rfl, by decide +kernel, by decide +kernel⟩
theorem c_law_bad (G_law_bad : GF K mg "_law_bad" s_law_bad ["_law_tape_here", "_law_bases", "_law_place"]) (C_law_draw : Cal P w K mg base "_law_draw" 1 m_law_draw) (n_len : mg "len" = none) (n_max : mg "max" = none) : Cal P w K mg base "_law_bad" 2 m_law_bad := cal_of G_law_bad sc_law_bad fun f cdv A outer s H E hr => (
    (mss_cons (ms_set sc_law_bad.nd (me_call C_law_draw (hr.mono (by decide)) takesE (ma_cons (me_var 0) (ma_cons me_int ma_nil))))
    (mss_cons (ms_set sc_law_bad.nd (me_call C_law_draw (hr.mono (by decide)) takesE (ma_cons (me_var 0) (ma_cons (me_bin op_addU os_add (me_callB call_len cs_len PySem.boot_len n_len (ma_cons (me_var 1) ma_nil)) me_int) ma_nil))))
    (mss_cons (ms_set sc_law_bad.nd me_int)
    (mss_cons (ms_if (mt_cmp op_ltU os_lt (me_var 4) (me_callB call_len cs_len PySem.boot_len n_len (ma_cons (me_var 1) ma_nil))) (mss_one (ms_set sc_law_bad.nd (me_callB call_len cs_len PySem.boot_len n_len (ma_cons (me_ix (me_var 1) (me_var 4)) ma_nil)))) mss_nil)
    (mss_cons (ms_if (mt_cmp (op_eqU (units_ok hr)) os_eq (me_var 3) me_int) (mss_one (ms_ret (me_tup (ma_cons me_str (ma_cons (me_bin op_addU os_add (me_callB call_len cs_len PySem.boot_len n_len (ma_cons (me_var 1) ma_nil)) (me_ix (me_lst (ma_cons me_int (ma_cons me_int (ma_cons me_int ma_nil)))) (me_call C_law_draw (hr.mono (by decide)) takesE (ma_cons (me_var 0) (ma_cons me_int ma_nil))))) (ma_cons me_int (ma_cons me_int ma_nil))))))) mss_nil)
    (mss_cons (ms_if (mt_cmp (op_eqU (units_ok hr)) os_eq (me_var 3) me_int) (mss_one (ms_ret (me_tup (ma_cons me_str (ma_cons (me_var 4) (ma_cons (me_bin op_addU os_add me_int (me_call C_law_draw (hr.mono (by decide)) takesE (ma_cons (me_var 0) (ma_cons (me_bin op_addU os_add (me_var 5) me_int) ma_nil)))) (ma_cons me_int ma_nil))))))) mss_nil)
    (mss_cons (ms_if (mt_cmp (op_eqU (units_ok hr)) os_eq (me_var 3) me_int) (mss_one (ms_ret (me_tup (ma_cons me_str (ma_cons (me_var 4) (ma_cons (me_call C_law_draw (hr.mono (by decide)) takesE (ma_cons (me_var 0) (ma_cons (me_bin op_addU os_add (me_var 5) me_int) ma_nil))) (ma_cons (me_bin op_addU os_add (me_var 5) me_int) ma_nil))))))) mss_nil)
    (mss_cons (ms_if (mt_cmp (op_eqU (units_ok hr)) os_eq (me_var 3) me_int) (mss_one (ms_ret (me_tup (ma_cons me_str (ma_cons (me_tup (ma_cons (me_bin op_sub os_sub (me_callB (call_maxU rfl) cs_max PyProof.Rows.boot_max n_max (ma_cons (me_var 2) (ma_cons me_int ma_nil))) me_int) (ma_cons (me_bin op_addU os_add (me_var 2) (me_ix (me_lst (ma_cons me_int (ma_cons me_int (ma_cons me_int ma_nil)))) (me_call C_law_draw (hr.mono (by decide)) takesE (ma_cons (me_var 0) (ma_cons me_int ma_nil))))) ma_nil))) ma_nil))))) mss_nil)
    (mss_cons (ms_if (mt_cmp (op_eqU (units_ok hr)) os_eq (me_var 3) me_int) (mss_one (ms_ret (me_tup (ma_cons me_str (ma_cons (me_bin op_addU os_add (me_var 2) (me_ix (me_lst (ma_cons me_int (ma_cons me_int (ma_cons me_int ma_nil)))) (me_call C_law_draw (hr.mono (by decide)) takesE (ma_cons (me_var 0) (ma_cons me_int ma_nil))))) (ma_cons (me_call C_law_draw (hr.mono (by decide)) takesE (ma_cons (me_var 0) (ma_cons me_int ma_nil))) ma_nil)))))) mss_nil)
    (mss_one (ms_ret (me_tup (ma_cons me_str (ma_cons (me_call C_law_draw (hr.mono (by decide)) takesE (ma_cons (me_var 0) (ma_cons (me_callB (call_maxU rfl) cs_max PyProof.Rows.boot_max n_max (ma_cons (me_var 2) (ma_cons me_int ma_nil))) ma_nil))) (ma_cons me_int ma_nil))))))))))))))))
abbrev s_result_length : Stmt := top 11
theorem sc_result_length : FnScope ["instruction", "results", "part"] ["instruction", "results"] (defScope s_result_length) := ⟨rfl, rfl, rfl, by decide +kernel, rfl, by decide +kernel, by decide +kernel⟩
theorem c_result_length (G_result_length : GF K mg "result_length" s_result_length ["instruction", "results"]) (n_len : mg "len" = none) (n_sum : mg "sum" = none) : Cal P w K mg base "result_length" 1 m_result_length := cal_of G_result_length sc_result_length fun f cdv A outer s H E hr => (
    (mss_cons (ms_if (mt_cmp (op_eqU (units_ok hr)) os_eq (me_ix (me_var 0) me_int) me_str) (mss_one (ms_ret (me_bin op_sub os_sub (me_ix (me_var 0) me_int) (me_ix (me_var 0) me_int)))) mss_nil)
    (mss_cons (ms_if (mt_cmp (op_eqU (units_ok hr)) os_eq (me_ix (me_var 0) me_int) me_str) (mss_one (ms_ret (me_callB (cr_sum rfl) cs_sum (by decide +kernel) n_sum (ma_cons (me_lc [("part", 2)] sc_result_length.nd (mi_it (me_ix (me_var 0) me_int)) (blkOk_by (N := ["instruction", "results", "part"]) (sc := defScope s_result_length) (own := [("part", 2)]) (by decide +kernel)) (fun _ _ _ _ _ => (mg_one sc_result_length.nd)) (fun _ _ _ _ _ => mts_nil) (fun _ _ _ _ _ => (me_callB call_len cs_len PySem.boot_len n_len (ma_cons (me_ix (me_var 1) (me_var 2)) ma_nil)))) ma_nil)))) mss_nil)
    (mss_cons (ms_if (mt_cmp (op_eqU (units_ok hr)) os_eq (me_ix (me_var 0) me_int) me_str) (mss_one (ms_ret (me_bin op_mulU os_mul (me_callB call_len cs_len PySem.boot_len n_len (ma_cons (me_ix (me_var 1) (me_ix (me_var 0) me_int)) ma_nil)) (me_ix (me_var 0) me_int)))) mss_nil)
    (mss_one (ms_ret me_int))))))
abbrev s_check_count : Stmt := top 7
theorem sc_check_count : FnScope ["count"] ["count"] (defScope s_check_count) := ⟨rfl, rfl, rfl, by decide +kernel, rfl, by decide +kernel, by decide +kernel⟩
theorem c_check_count {C_TooManyElements : Addr} {I_TooManyElements : Addr} (G_check_count : GF K mg "check_count" s_check_count ["count"]) (g_MOST_ELEMENTS : ∃ u, mg "MOST_ELEMENTS" = some (.int 2000 u)) (S_TooManyElements : PySem.SupX.SupTxt P K mg "TooManyElements" "count" "too many elements" C_TooManyElements I_TooManyElements) : Cal P w K mg base "check_count" 1 m_check_count := cal_of G_check_count sc_check_count fun f cdv A outer s H E hr => (
    (mss_one (ms_if (mt_cmp op_gtU os_gt (me_var 0) (g_MOST_ELEMENTS.elim fun _ hg => me_glob (v := .int 2000) (d := .int 2000) rfl hg ⟨_, rfl⟩ (fun _ _ => RV.int _))) (mss_one (ms_raise S_TooManyElements hr takesE (me_var 0))) mss_nil)))
abbrev s_is_valid : Stmt := top 10
theorem sc_is_valid : FnScope ["instruction", "place", "bases", "base", "start", "end", "part"] ["instruction", "place", "bases"] (defScope s_is_valid) := ⟨rfl, rfl, rfl, by decide +kernel, rfl, by decide +kernel, by decide +kernel⟩
theorem c_is_valid (G_is_valid : GF K mg "is_valid" s_is_valid ["instruction", "place", "bases"]) (n_len : mg "len" = none) (n_all : mg "all" = none) : Cal P w K mg base "is_valid" 1 m_is_valid := cal_of G_is_valid sc_is_valid fun f cdv A outer s H E hr => (
    (mss_cons (ms_if (mt_cmp (op_eqU (units_ok hr)) os_eq (me_ix (me_var 0) me_int) me_str) (mss_cons (ms_asg (me_slice (me_var 0) (mo_some me_int) mo_none) (mg_many (mgs_cons (mg_one (i := 3) sc_is_valid.nd) (mgs_cons (mg_one (i := 4) sc_is_valid.nd) (mgs_cons (mg_one (i := 5) sc_is_valid.nd) mgs_nil)))))
    (mss_one (ms_ret (me_and (me_cmp op_ltU os_lt (me_var 3) (me_callB call_len cs_len PySem.boot_len n_len (ma_cons (me_var 2) ma_nil))) (me_and (me_cmp op_le os_le (me_var 4) (me_var 5)) (me_one (me_cmp op_le os_le (me_var 5) (me_callB call_len cs_len PySem.boot_len n_len (ma_cons (me_ix (me_var 2) (me_var 3)) ma_nil))))))))) mss_nil)
    (mss_cons (ms_if (mt_cmp (op_eqU (units_ok hr)) os_eq (me_ix (me_var 0) me_int) me_str) (mss_one (ms_ret (me_callB (cr_all rfl) cs_all (by decide +kernel) n_all (ma_cons (me_lc [("part", 6)] sc_is_valid.nd (mi_it (me_ix (me_var 0) me_int)) (blkOk_by (N := ["instruction", "place", "bases", "base", "start", "end", "part"]) (sc := defScope s_is_valid) (own := [("part", 6)]) (by decide +kernel)) (fun _ _ _ _ _ => (mg_one sc_is_valid.nd)) (fun _ _ _ _ _ => mts_nil) (fun _ _ _ _ _ => (me_cmp op_ltU os_lt (me_var 6) (me_var 1)))) ma_nil)))) mss_nil)
    (mss_cons (ms_if (mt_cmp (op_eqU (units_ok hr)) os_eq (me_ix (me_var 0) me_int) me_str) (mss_one (ms_ret (me_cmp op_ltU os_lt (me_ix (me_var 0) me_int) (me_var 1)))) mss_nil)
    (mss_one (ms_ret me_bl))))))
abbrev s_result_of : Stmt := top 12
theorem sc_result_of : FnScope ["instruction", "results", "bases", "base", "start", "end", "found", "part"] ["instruction", "results", "bases"] (defScope s_result_of) := ⟨rfl, rfl, rfl, by decide +kernel, rfl, by decide +kernel, by decide +kernel⟩
theorem c_result_of (G_result_of : GF K mg "result_of" s_result_of ["instruction", "results", "bases"]) (n_tuple : mg "tuple" = none) : Cal P w K mg base "result_of" 1 m_result_of := cal_of G_result_of sc_result_of fun f cdv A outer s H E hr => (
    (mss_cons (ms_if (mt_cmp (op_eqU (units_ok hr)) os_eq (me_ix (me_var 0) me_int) me_str) (mss_cons (ms_asg (me_slice (me_var 0) (mo_some me_int) mo_none) (mg_many (mgs_cons (mg_one (i := 3) sc_result_of.nd) (mgs_cons (mg_one (i := 4) sc_result_of.nd) (mgs_cons (mg_one (i := 5) sc_result_of.nd) mgs_nil)))))
    (mss_one (ms_ret (me_slice (me_ix (me_var 2) (me_var 3)) (mo_some (me_var 4)) (mo_some (me_var 5)))))) mss_nil)
    (mss_cons (ms_if (mt_cmp (op_eqU (units_ok hr)) os_eq (me_ix (me_var 0) me_int) me_str) (mss_cons (ms_set sc_result_of.nd (me_lst ma_nil))
    (mss_cons (ms_for passesE (mi_it (me_ix (me_var 0) me_int)) (mg_one sc_result_of.nd) (mss_one (ms_expr (me_bm PySem.F.slot_list_extend PySem.F.type_list_extend mt_extendU ms_extend (me_var 6) (ma_cons (me_ix (me_var 1) (me_var 7)) ma_nil)))))
    (mss_one (ms_ret (me_callTy call_tupleP cs_tuple (by decide +kernel) n_tuple (ma_cons (me_var 6) ma_nil)))))) mss_nil)
    (mss_cons (ms_if (mt_cmp (op_eqU (units_ok hr)) os_eq (me_ix (me_var 0) me_int) me_str) (mss_one (ms_ret (me_bin op_mulU os_mul (me_ix (me_var 1) (me_ix (me_var 0) me_int)) (me_ix (me_var 0) me_int)))) mss_nil)
    (mss_one (ms_ret (me_tup (ma_cons (me_ix (me_var 0) me_int) ma_nil))))))))
abbrev s_run_recipe : Stmt := top 13
theorem sc_run_recipe : FnScope ["recipe", "bases", "results", "total", "place", "instruction", "count"] ["recipe", "bases"] (defScope s_run_recipe) := ⟨rfl, rfl, rfl, by decide +kernel, rfl, by decide +kernel, by decide +kernel⟩
theorem c_run_recipe {C_InvalidInstruction : Addr} {C_RecipeTooLarge : Addr} {I_InvalidInstruction : Addr} {I_RecipeTooLarge : Addr} (G_run_recipe : GK K mg "run_recipe" "bases" s_run_recipe ["recipe", "bases"]) (C_is_valid : Cal P w K mg base "is_valid" 1 m_is_valid) (C_result_length : Cal P w K mg base "result_length" 1 m_result_length) (C_check_count : Cal P w K mg base "check_count" 1 m_check_count) (C_result_of : Cal P w K mg base "result_of" 1 m_result_of) (n_enumerate : mg "enumerate" = none) (S_InvalidInstruction : PySem.SupX.SupTxt P K mg "InvalidInstruction" "place" "invalid instruction" C_InvalidInstruction I_InvalidInstruction) (g_MOST_RESULTS : ∃ u, mg "MOST_RESULTS" = some (.int 200000 u)) (S_RecipeTooLarge : PySem.SupX.SupTxt P K mg "RecipeTooLarge" "place" "recipe too large" C_RecipeTooLarge I_RecipeTooLarge) : CalK P w K mg base "run_recipe" "bases" 2 m_run_recipe := calk_of G_run_recipe sc_run_recipe fun f cdv A outer s H E hr => (
    (mss_cons (ms_set sc_run_recipe.nd (me_lst ma_nil))
    (mss_cons (ms_set sc_run_recipe.nd me_int)
    (mss_cons (ms_for passesE (mi_enumT n_enumerate (ma_cons (me_var 0) ma_nil)) (mg_many (mgs_cons (mg_one (i := 4) sc_run_recipe.nd) (mgs_cons (mg_one (i := 5) sc_run_recipe.nd) mgs_nil))) (mss_cons (ms_if (mt_not (mt_tru (me_call C_is_valid (hr.mono (by decide)) takesE (ma_cons (me_var 5) (ma_cons (me_var 4) (ma_cons (me_var 1) ma_nil)))))) (mss_one (ms_raise S_InvalidInstruction hr takesE (me_var 4))) mss_nil)
    (mss_cons (ms_set sc_run_recipe.nd (me_call C_result_length (hr.mono (by decide)) takesE (ma_cons (me_var 5) (ma_cons (me_var 2) ma_nil))))
    (mss_cons (ms_expr (me_call C_check_count (hr.mono (by decide)) takesE (ma_cons (me_var 6) ma_nil)))
    (mss_cons (ms_aug sc_run_recipe.nd ip_add os_iadd (me_var 6))
    (mss_cons (ms_if (mt_cmp op_gtU os_gt (me_var 3) (g_MOST_RESULTS.elim fun _ hg => me_glob (v := .int 200000) (d := .int 200000) rfl hg ⟨_, rfl⟩ (fun _ _ => RV.int _))) (mss_one (ms_raise S_RecipeTooLarge hr takesE (me_var 4))) mss_nil)
    (mss_one (ms_expr (me_bm PySem.F.slot_list_append PySem.F.type_list_append mt_append ms_append (me_var 2) (ma_cons (me_call C_result_of (hr.mono (by decide)) takesE (ma_cons (me_var 5) (ma_cons (me_var 2) (ma_cons (me_var 1) ma_nil)))) ma_nil))))))))))
    (mss_cons (ms_if (mt_not (mt_tru (me_var 2))) (mss_one (ms_ret (me_tup ma_nil))) mss_nil)
    (mss_one (ms_ret (me_ix (me_var 2) (me_neg me_int)))))))))
abbrev s_law_alone : Stmt := top 29
theorem sc_law_alone : FnScope ["_law_error", "_law_one"] ["_law_error"] (defScope s_law_alone) := ⟨rfl, rfl, rfl, by decide +kernel, rfl, by decide +kernel, by decide +kernel⟩
theorem c_law_alone {C_InvalidInstruction : Addr} {C_TooManyElements : Addr} {C_RecipeTooLarge : Addr} {C_ShapeError : Addr} (G_law_alone : GF K mg "_law_alone" s_law_alone ["_law_error"]) (X_InvalidInstruction : ClsX K C_InvalidInstruction ∧ PySem.W.exmOne K (.ref C_InvalidInstruction) (.ref C_InvalidInstruction) = some true) (K_InvalidInstruction_InvalidInstruction : PySem.W.kitOne K (.ref C_InvalidInstruction) (.ref C_InvalidInstruction) = some true) (n_isinstance : mg "isinstance" = none) (gc_InvalidInstruction : mg "InvalidInstruction" = some (.ref C_InvalidInstruction)) (n_int : mg "int" = none) (K_InvalidInstruction_TooManyElements : PySem.W.kitOne K (.ref C_InvalidInstruction) (.ref C_TooManyElements) = some false) (gc_TooManyElements : mg "TooManyElements" = some (.ref C_TooManyElements)) (K_InvalidInstruction_RecipeTooLarge : PySem.W.kitOne K (.ref C_InvalidInstruction) (.ref C_RecipeTooLarge) = some false) (gc_RecipeTooLarge : mg "RecipeTooLarge" = some (.ref C_RecipeTooLarge)) (K_InvalidInstruction_ValueError : PySem.W.kitOne K (.ref C_InvalidInstruction) (.type "ValueError") = some true) (n_ValueError : mg "ValueError" = none) (K_InvalidInstruction_ShapeError : PySem.W.kitOne K (.ref C_InvalidInstruction) (.ref C_ShapeError) = some true) (gc_ShapeError : mg "ShapeError" = some (.ref C_ShapeError)) (X_TooManyElements : ClsX K C_TooManyElements ∧ PySem.W.exmOne K (.ref C_TooManyElements) (.ref C_TooManyElements) = some true) (K_TooManyElements_InvalidInstruction : PySem.W.kitOne K (.ref C_TooManyElements) (.ref C_InvalidInstruction) = some false) (K_TooManyElements_TooManyElements : PySem.W.kitOne K (.ref C_TooManyElements) (.ref C_TooManyElements) = some true) (K_TooManyElements_RecipeTooLarge : PySem.W.kitOne K (.ref C_TooManyElements) (.ref C_RecipeTooLarge) = some false) (K_TooManyElements_ValueError : PySem.W.kitOne K (.ref C_TooManyElements) (.type "ValueError") = some true) (K_TooManyElements_ShapeError : PySem.W.kitOne K (.ref C_TooManyElements) (.ref C_ShapeError) = some true) (X_RecipeTooLarge : ClsX K C_RecipeTooLarge ∧ PySem.W.exmOne K (.ref C_RecipeTooLarge) (.ref C_RecipeTooLarge) = some true) (K_RecipeTooLarge_InvalidInstruction : PySem.W.kitOne K (.ref C_RecipeTooLarge) (.ref C_InvalidInstruction) = some false) (K_RecipeTooLarge_TooManyElements : PySem.W.kitOne K (.ref C_RecipeTooLarge) (.ref C_TooManyElements) = some false) (K_RecipeTooLarge_RecipeTooLarge : PySem.W.kitOne K (.ref C_RecipeTooLarge) (.ref C_RecipeTooLarge) = some true) (K_RecipeTooLarge_ValueError : PySem.W.kitOne K (.ref C_RecipeTooLarge) (.type "ValueError") = some true) (K_RecipeTooLarge_ShapeError : PySem.W.kitOne K (.ref C_RecipeTooLarge) (.ref C_ShapeError) = some true) : CalEs P w K mg base "_law_alone" [C_InvalidInstruction, C_TooManyElements, C_RecipeTooLarge] 1  := fun C hC => by
  simp only [List.mem_cons, List.not_mem_nil, or_false] at hC
  rcases hC with hC | hC | hC
  · rw [hC]; exact calE_of G_law_alone sc_law_alone rfl (by decide) (fun f cdv A outer s H E a oe d hz hf => kx_body_at sc_law_alone.nd (fun hpn => (kx_add (kx_int (kx_isi X_InvalidInstruction.1 hpn hz hf (pv 0) (pe_glob (v := .ref C_InvalidInstruction) rfl gc_InvalidInstruction rfl) (fun u hu => hu) K_InvalidInstruction_InvalidInstruction n_isinstance) n_int) (kx_int (kx_isi X_InvalidInstruction.1 hpn hz hf (pv 0) (pe_glob (v := .ref C_TooManyElements) rfl gc_TooManyElements rfl) (fun u hu => hu) K_InvalidInstruction_TooManyElements n_isinstance) n_int))) (fun hpn => (kx_add (kx_var (pv 1)) (kx_int (kx_isi X_InvalidInstruction.1 hpn hz hf (pv 0) (pe_glob (v := .ref C_RecipeTooLarge) rfl gc_RecipeTooLarge rfl) (fun u hu => hu) K_InvalidInstruction_RecipeTooLarge n_isinstance) n_int))) (fun hpn => (kx_and (kx_isi X_InvalidInstruction.1 hpn hz hf (pv 0) (pe_glob (v := .ref C_ShapeError) rfl gc_ShapeError rfl) (fun u hu => hu) K_InvalidInstruction_ShapeError n_isinstance) (kx_and (kx_isi X_InvalidInstruction.1 hpn hz hf (pv 0) (pe_bltn (v := .ty "ValueError") rfl n_ValueError (by decide +kernel) rfl) (fun u hu => hu) K_InvalidInstruction_ValueError n_isinstance) (kx_one (kx_eq (kx_var (pv 1)) kx_lit))))) (by decide))
  · rw [hC]; exact calE_of G_law_alone sc_law_alone rfl (by decide) (fun f cdv A outer s H E a oe d hz hf => kx_body_at sc_law_alone.nd (fun hpn => (kx_add (kx_int (kx_isi X_TooManyElements.1 hpn hz hf (pv 0) (pe_glob (v := .ref C_InvalidInstruction) rfl gc_InvalidInstruction rfl) (fun u hu => hu) K_TooManyElements_InvalidInstruction n_isinstance) n_int) (kx_int (kx_isi X_TooManyElements.1 hpn hz hf (pv 0) (pe_glob (v := .ref C_TooManyElements) rfl gc_TooManyElements rfl) (fun u hu => hu) K_TooManyElements_TooManyElements n_isinstance) n_int))) (fun hpn => (kx_add (kx_var (pv 1)) (kx_int (kx_isi X_TooManyElements.1 hpn hz hf (pv 0) (pe_glob (v := .ref C_RecipeTooLarge) rfl gc_RecipeTooLarge rfl) (fun u hu => hu) K_TooManyElements_RecipeTooLarge n_isinstance) n_int))) (fun hpn => (kx_and (kx_isi X_TooManyElements.1 hpn hz hf (pv 0) (pe_glob (v := .ref C_ShapeError) rfl gc_ShapeError rfl) (fun u hu => hu) K_TooManyElements_ShapeError n_isinstance) (kx_and (kx_isi X_TooManyElements.1 hpn hz hf (pv 0) (pe_bltn (v := .ty "ValueError") rfl n_ValueError (by decide +kernel) rfl) (fun u hu => hu) K_TooManyElements_ValueError n_isinstance) (kx_one (kx_eq (kx_var (pv 1)) kx_lit))))) (by decide))
  · rw [hC]; exact calE_of G_law_alone sc_law_alone rfl (by decide) (fun f cdv A outer s H E a oe d hz hf => kx_body_at sc_law_alone.nd (fun hpn => (kx_add (kx_int (kx_isi X_RecipeTooLarge.1 hpn hz hf (pv 0) (pe_glob (v := .ref C_InvalidInstruction) rfl gc_InvalidInstruction rfl) (fun u hu => hu) K_RecipeTooLarge_InvalidInstruction n_isinstance) n_int) (kx_int (kx_isi X_RecipeTooLarge.1 hpn hz hf (pv 0) (pe_glob (v := .ref C_TooManyElements) rfl gc_TooManyElements rfl) (fun u hu => hu) K_RecipeTooLarge_TooManyElements n_isinstance) n_int))) (fun hpn => (kx_add (kx_var (pv 1)) (kx_int (kx_isi X_RecipeTooLarge.1 hpn hz hf (pv 0) (pe_glob (v := .ref C_RecipeTooLarge) rfl gc_RecipeTooLarge rfl) (fun u hu => hu) K_RecipeTooLarge_RecipeTooLarge n_isinstance) n_int))) (fun hpn => (kx_and (kx_isi X_RecipeTooLarge.1 hpn hz hf (pv 0) (pe_glob (v := .ref C_ShapeError) rfl gc_ShapeError rfl) (fun u hu => hu) K_RecipeTooLarge_ShapeError n_isinstance) (kx_and (kx_isi X_RecipeTooLarge.1 hpn hz hf (pv 0) (pe_bltn (v := .ty "ValueError") rfl n_ValueError (by decide +kernel) rfl) (fun u hu => hu) K_RecipeTooLarge_ValueError n_isinstance) (kx_one (kx_eq (kx_var (pv 1)) kx_lit))))) (by decide))
abbrev s_law_told : Stmt := top 30
theorem sc_law_told : FnScope ["_law_bases", "_law_recipe", "_law_told_here", "e"] ["_law_bases", "_law_recipe"] (defScope s_law_told) := ⟨rfl, rfl, rfl, by decide +kernel, rfl, by decide +kernel, by decide +kernel⟩
theorem c_law_told {C_InvalidInstruction : Addr} {C_TooManyElements : Addr} {C_RecipeTooLarge : Addr} {I_InvalidInstruction : Addr} {I_TooManyElements : Addr} {I_RecipeTooLarge : Addr} (G_law_told : GF K mg "_law_told" s_law_told ["_law_bases", "_law_recipe"]) (C_run_recipe : CalK P w K mg base "run_recipe" "bases" 2 m_run_recipe) (C_law_alone : CalEs P w K mg base "_law_alone" [C_InvalidInstruction, C_TooManyElements, C_RecipeTooLarge] 1 ) (X_InvalidInstruction : ClsX K C_InvalidInstruction ∧ PySem.W.exmOne K (.ref C_InvalidInstruction) (.ref C_InvalidInstruction) = some true) (S_InvalidInstruction : PySem.SupX.SupTxt P K mg "InvalidInstruction" "place" "invalid instruction" C_InvalidInstruction I_InvalidInstruction) (X_TooManyElements : ClsX K C_TooManyElements ∧ PySem.W.exmOne K (.ref C_TooManyElements) (.ref C_TooManyElements) = some true) (S_TooManyElements : PySem.SupX.SupTxt P K mg "TooManyElements" "count" "too many elements" C_TooManyElements I_TooManyElements) (X_RecipeTooLarge : ClsX K C_RecipeTooLarge ∧ PySem.W.exmOne K (.ref C_RecipeTooLarge) (.ref C_RecipeTooLarge) = some true) (S_RecipeTooLarge : PySem.SupX.SupTxt P K mg "RecipeTooLarge" "place" "recipe too large" C_RecipeTooLarge I_RecipeTooLarge) (E_TooManyElements_InvalidInstruction : PySem.W.exmOne K (.ref C_TooManyElements) (.ref C_InvalidInstruction) = some false) (E_RecipeTooLarge_InvalidInstruction : PySem.W.exmOne K (.ref C_RecipeTooLarge) (.ref C_InvalidInstruction) = some false) (E_RecipeTooLarge_TooManyElements : PySem.W.exmOne K (.ref C_RecipeTooLarge) (.ref C_TooManyElements) = some false) (n_isinstance : mg "isinstance" = none) (n_tuple : mg "tuple" = none) (n_len : mg "len" = none) : Cal P w K mg base "_law_told" 3 m_law_told := cal_of G_law_told sc_law_told fun f cdv A outer s H E hr => (
    (mss_cons (ms_try3 (i := 3) (g1 := fun er => (.tup [(.str "invalid"), (fldE "place" er), (.bl true)])) (fl1 := ["place"]) (g2 := fun er => (.tup [(.str "elements"), (fldE "count" er), (.bl true)])) (fl2 := ["count"]) (g3 := fun er => (.tup [(.str "large"), (fldE "place" er), (.bl true)])) (fl3 := ["place"]) rfl rfl sc_law_told.nd rfl rfl rfl S_InvalidInstruction.gC X_InvalidInstruction.2 rfl S_TooManyElements.gC X_TooManyElements.2 E_TooManyElements_InvalidInstruction rfl S_RecipeTooLarge.gC X_RecipeTooLarge.2 E_RecipeTooLarge_InvalidInstruction E_RecipeTooLarge_TooManyElements (fun W pn xe tk po => (mss_one (ms_set sc_law_told.nd (me_callK1 C_run_recipe (hr.mono (by decide)) tk (me_var 1) (me_var 0))))) (fun a oe cls d pn hz hf => pss_retE (xv_tup (xvs_cons xv_str (xvs_cons (xv_fld X_InvalidInstruction.1 S_InvalidInstruction.noN hz hf (pv 3)) (xvs_cons (xv_alone (C_law_alone C_InvalidInstruction (by simp)) (hr.mono (by decide)) hz hf (pv 3)) xvs_nil))) (fun _ => by simp))) (fun a oe cls d pn hz hf => pss_retE (xv_tup (xvs_cons xv_str (xvs_cons (xv_fld X_TooManyElements.1 S_TooManyElements.noN hz hf (pv 3)) (xvs_cons (xv_alone (C_law_alone C_TooManyElements (by simp)) (hr.mono (by decide)) hz hf (pv 3)) xvs_nil))) (fun _ => by simp))) (fun a oe cls d pn hz hf => pss_retE (xv_tup (xvs_cons xv_str (xvs_cons (xv_fld X_RecipeTooLarge.1 S_RecipeTooLarge.noN hz hf (pv 3)) (xvs_cons (xv_alone (C_law_alone C_RecipeTooLarge (by simp)) (hr.mono (by decide)) hz hf (pv 3)) xvs_nil))) (fun _ => by simp))))
    (mss_one (ms_ret (me_tup (ma_cons me_str (ma_cons (me_callB call_len cs_len PySem.boot_len n_len (ma_cons (me_var 2) ma_nil)) (ma_cons (me_isi .tup (me_var 2) rfl rfl n_isinstance n_tuple (by decide +kernel)) ma_nil))))))))
abbrev s_law_result : Stmt := top 23
theorem sc_law_result : FnScope ["_law_bases", "_law_results", "_law_step_here", "_law_found", "_law_part"] ["_law_bases", "_law_results", "_law_step_here"] (defScope s_law_result) := ⟨rfl, rfl, rfl, by decide +kernel, rfl, by decide +kernel, by decide +kernel⟩
theorem c_law_result (G_law_result : GF K mg "_law_result" s_law_result ["_law_bases", "_law_results", "_law_step_here"]) : Cal P w K mg base "_law_result" 1 m_law_result := cal_of G_law_result sc_law_result fun f cdv A outer s H E hr => (
    (mss_cons (ms_if (mt_cmp (op_eqU (units_ok hr)) os_eq (me_ix (me_var 2) me_int) me_str) (mss_one (ms_ret (me_lst (ma_cons (me_ix (me_var 2) me_int) ma_nil)))) mss_nil)
    (mss_cons (ms_if (mt_cmp (op_eqU (units_ok hr)) os_eq (me_ix (me_var 2) me_int) me_str) (mss_one (ms_ret (me_slice (me_ix (me_var 0) (me_ix (me_var 2) me_int)) (mo_some (me_ix (me_var 2) me_int)) (mo_some (me_ix (me_var 2) me_int))))) mss_nil)
    (mss_cons (ms_if (mt_cmp (op_eqU (units_ok hr)) os_eq (me_ix (me_var 2) me_int) me_str) (mss_one (ms_ret (me_bin op_mulU os_mul (me_ix (me_var 1) (me_ix (me_var 2) me_int)) (me_ix (me_var 2) me_int)))) mss_nil)
    (mss_cons (ms_set sc_law_result.nd (me_lst ma_nil))
    (mss_cons (ms_for passesE (mi_it (me_ix (me_var 2) me_int)) (mg_one sc_law_result.nd) (mss_one (ms_set sc_law_result.nd (me_bin op_addU os_add (me_var 3) (me_ix (me_var 1) (me_var 4))))))
    (mss_one (ms_ret (me_var 3)))))))))
abbrev s_law_given : Stmt := top 25
theorem sc_law_given : FnScope ["_law_rows", "_law_row"] ["_law_rows"] (defScope s_law_given) := ⟨rfl, rfl, rfl, by decide +kernel, rfl, by decide +kernel, by decide +kernel⟩
theorem c_law_given (G_law_given : GF K mg "_law_given" s_law_given ["_law_rows"]) (n_tuple : mg "tuple" = none) : Cal P w K mg base "_law_given" 1 m_law_given := cal_of G_law_given sc_law_given fun f cdv A outer s H E hr => (
    (mss_one (ms_ret (me_callTy call_tupleP cs_tuple (by decide +kernel) n_tuple (ma_cons (me_lc [("_law_row", 1)] sc_law_given.nd (mi_it (me_var 0)) (blkOk_by (N := ["_law_rows", "_law_row"]) (sc := defScope s_law_given) (own := [("_law_row", 1)]) (by decide +kernel)) (fun _ _ _ _ _ => (mg_one sc_law_given.nd)) (fun _ _ _ _ _ => mts_nil) (fun _ _ _ _ _ => (me_callTy call_tupleP cs_tuple (by decide +kernel) n_tuple (ma_cons (me_var 1) ma_nil)))) ma_nil)))))
abbrev s_law : Stmt := top 31
theorem sc_law : FnScope ["_law_script", "_law_tape_here", "_law_bases", "_law_recipe", "_law_results", "_law_k", "_law_step_here", "_law_place", "_law_due"] ["_law_script"] (defScope s_law) := ⟨rfl, rfl, rfl, by decide +kernel, rfl, by decide +kernel, by decide +kernel⟩
theorem c_law_body (C_law_tape : Cal P w K mg base "_law_tape" 1 m_law_tape) (C_law_draw : Cal P w K mg base "_law_draw" 1 m_law_draw) (C_law_contents : Cal P w K mg base "_law_contents" 6 m_law_contents) (C_law_step : Cal P w K mg base "_law_step" 6 m_law_step) (C_law_result : Cal P w K mg base "_law_result" 1 m_law_result) (C_law_bad : Cal P w K mg base "_law_bad" 2 m_law_bad) (C_law_outcome : Cal P w K mg base "_law_outcome" 2 m_law_outcome) (C_law_given : Cal P w K mg base "_law_given" 1 m_law_given) (C_law_told : Cal P w K mg base "_law_told" 3 m_law_told) (C_law_alike : Cal P w K mg base "_law_alike" 40 (m_law_alike 40)) (n_range : mg "range" = none) (n_len : mg "len" = none) (n_min : mg "min" = none) (n_tuple : mg "tuple" = none) {f : Addr} (cdv : Value) (A : Around) (outer : List PySem.Env) (s : Shared) (H : Hp) (E : XK) (hr : Room 40 (A.deeper (PyProof.Rows.envOfC "law" (defScope s_law) s.heap.objs.size f cdv))) : PSs (cxOf (L2.CX P w) P w K mg base ["_law_script", "_law_tape_here", "_law_bases", "_law_recipe", "_law_results", "_law_k", "_law_step_here", "_law_place", "_law_due"] "law" (defScope s_law) f cdv A outer s H E) (defBody s_law) (tS (cxOf (L2.CX P w) P w K mg base ["_law_script", "_law_tape_here", "_law_bases", "_law_recipe", "_law_results", "_law_k", "_law_step_here", "_law_place", "_law_due"] "law" (defScope s_law) f cdv A outer s H E) (fun c d _ H' => E c d H') ((mSeq (mSet 1 (mCall m_law_tape (mCons (mVar 0) mNil)))
    (mSeq (mSet 2 (mLc (mRng (mCons (mCall m_law_draw (mCons (mVar 1) (mCons (mC (.int 4)) mNil))) mNil)) (.one 5) [5] mYes (mCall m_law_contents (mCons (mVar 1) (mCons (mC (.int 20)) mNil)))))
    (mSeq (mSet 3 (mLst mNil))
    (mSeq (mSet 4 (mLst mNil))
    (mSeq (mFor (mRng (mCons (mCall m_law_draw (mCons (mVar 1) (mCons (mC (.int 9)) mNil))) mNil)) (.one 5) (mSeq (mSet 6 (mCall m_law_step (mCons (mVar 1) (mCons (mVar 2) (mCons (mVar 4) (mCons (mC (.int 300)) mNil))))))
    (mSeq (mExpr (mBm appendA (mVar 4) (mCons (mCall m_law_result (mCons (mVar 2) (mCons (mVar 4) (mCons (mVar 6) mNil)))) mNil)))
    (mExpr (mBm appendA (mVar 3) (mCons (mVar 6) mNil))))))
    (mSeq (mFor (mRng (mCons (mCa minA (mCons (mCa lenA (mCons (mVar 3) mNil)) (mCons (mCall m_law_draw (mCons (mVar 1) (mCons (mC (.int 3)) mNil))) mNil))) mNil)) (.one 5) (mSeq (mSet 7 (mCall m_law_draw (mCons (mVar 1) (mCons (mCa lenA (mCons (mVar 3) mNil)) mNil))))
    (mPut (mVar 3) (mVar 7) (mCall m_law_bad (mCons (mVar 1) (mCons (mVar 2) (mCons (mVar 7) mNil)))))))
    (mSeq (mIfS (mGB (mBin eqA (mCall m_law_draw (mCons (mVar 1) (mCons (mC (.int 8)) mNil))) (mC (.int 0)))) (mSeq (mSet 2 (mLst (mCons (mBin mulA (mLst (mCons (mC (.int 7)) mNil)) (mC (.int 2000))) mNil)))
    (mSet 3 (mBin addA (mBin mulA (mLst (mCons (mTup (mCons (mC (.str "literal")) (mCons (mC (.str "x")) mNil))) mNil)) (mCall m_law_draw (mCons (mVar 1) (mCons (mC (.int 2)) mNil)))) (mBin mulA (mLst (mCons (mTup (mCons (mC (.str "copy")) (mCons (mC (.int 0)) (mCons (mC (.int 0)) (mCons (mC (.int 2000)) mNil))))) mNil)) (mBin addA (mC (.int 98)) (mCall m_law_draw (mCons (mVar 1) (mCons (mC (.int 5)) mNil)))))))) mNext)
    (mSeq (mSet 8 (mCall m_law_outcome (mCons (mVar 2) (mCons (mVar 3) mNil))))
    (mRet (mCall (m_law_alike 40) (mCons (mCall m_law_told (mCons (mCall m_law_given (mCons (mVar 2) mNil)) (mCons (mCa tupleA (mCons (mVar 3) mNil)) mNil))) (mCons (mBin addA (mVar 8) (mTup (mCons (mC (.bl true)) mNil))) mNil)))))))))))))) := (
    (mss_cons (ms_set sc_law.nd (me_call C_law_tape (hr.mono (by decide)) takesE (ma_cons (me_var 0) ma_nil)))
    (mss_cons (ms_setLc [("_law_k", 5)] sc_law.nd (sw_true rfl rfl rfl (by decide +kernel)) (mi_range1 (x := "range") n_range (ma_cons (me_call C_law_draw (hr.mono (by decide)) takesE (ma_cons (me_var 1) (ma_cons me_int ma_nil))) ma_nil) (hn := cons1)) (blkOk_by (N := ["_law_script", "_law_tape_here", "_law_bases", "_law_recipe", "_law_results", "_law_k", "_law_step_here", "_law_place", "_law_due"]) (sc := defScope s_law) (own := [("_law_k", 5)]) (by decide +kernel)) (fun _ _ _ _ _ => (mg_one sc_law.nd)) (fun _ _ _ _ _ => mts_nil) (fun _ _ _ _ _ => (me_call C_law_contents (hr.mono (by decide)) takes0 (ma_cons (me_var 1) (ma_cons me_int ma_nil)))))
    (mss_cons (ms_set sc_law.nd (me_lst ma_nil))
    (mss_cons (ms_set sc_law.nd (me_lst ma_nil))
    (mss_cons (ms_for passesE (mi_range1 (x := "range") n_range (ma_cons (me_call C_law_draw (hr.mono (by decide)) takesE (ma_cons (me_var 1) (ma_cons me_int ma_nil))) ma_nil) (hn := cons1)) (mg_one sc_law.nd) (mss_cons (ms_set sc_law.nd (me_call C_law_step (hr.mono (by decide)) takesE (ma_cons (me_var 1) (ma_cons (me_var 2) (ma_cons (me_var 4) (ma_cons me_int ma_nil))))))
    (mss_cons (ms_expr (me_bm PySem.F.slot_list_append PySem.F.type_list_append mt_append ms_append (me_var 4) (ma_cons (me_call C_law_result (hr.mono (by decide)) takesE (ma_cons (me_var 2) (ma_cons (me_var 4) (ma_cons (me_var 6) ma_nil)))) ma_nil)))
    (mss_one (ms_expr (me_bm PySem.F.slot_list_append PySem.F.type_list_append mt_append ms_append (me_var 3) (ma_cons (me_var 6) ma_nil)))))))
    (mss_cons (ms_for passesE (mi_range1 (x := "range") n_range (ma_cons (me_callB (call_minU rfl) cs_min PyProof.Rows.boot_min n_min (ma_cons (me_callB call_len cs_len PySem.boot_len n_len (ma_cons (me_var 3) ma_nil)) (ma_cons (me_call C_law_draw (hr.mono (by decide)) takesE (ma_cons (me_var 1) (ma_cons me_int ma_nil))) ma_nil))) ma_nil) (hn := cons1)) (mg_one sc_law.nd) (mss_cons (ms_set sc_law.nd (me_call C_law_draw (hr.mono (by decide)) takesE (ma_cons (me_var 1) (ma_cons (me_callB call_len cs_len PySem.boot_len n_len (ma_cons (me_var 3) ma_nil)) ma_nil))))
    (mss_one (ms_put (me_var 3) (me_var 7) (me_call C_law_bad (hr.mono (by decide)) takesE (ma_cons (me_var 1) (ma_cons (me_var 2) (ma_cons (me_var 7) ma_nil))))))))
    (mss_cons (ms_if (mt_cmp (op_eqU (units_ok hr)) os_eq (me_call C_law_draw (hr.mono (by decide)) takesE (ma_cons (me_var 1) (ma_cons me_int ma_nil))) me_int) (mss_cons (ms_set sc_law.nd (me_lst (ma_cons (me_bin op_mulU os_mul (me_lst (ma_cons me_int ma_nil)) me_int) ma_nil)))
    (mss_one (ms_set sc_law.nd (me_bin op_addU os_add (me_bin op_mulU os_mul (me_lst (ma_cons (me_tup (ma_cons me_str (ma_cons me_str ma_nil))) ma_nil)) (me_call C_law_draw (hr.mono (by decide)) takesE (ma_cons (me_var 1) (ma_cons me_int ma_nil)))) (me_bin op_mulU os_mul (me_lst (ma_cons (me_tup (ma_cons me_str (ma_cons me_int (ma_cons me_int (ma_cons me_int ma_nil))))) ma_nil)) (me_bin op_addU os_add me_int (me_call C_law_draw (hr.mono (by decide)) takesE (ma_cons (me_var 1) (ma_cons me_int ma_nil))))))))) mss_nil)
    (mss_cons (ms_set sc_law.nd (me_call C_law_outcome (hr.mono (by decide)) takesE (ma_cons (me_var 2) (ma_cons (me_var 3) ma_nil))))
    (mss_one (ms_ret (me_call C_law_alike (hr.mono (by decide)) takesE (ma_cons (me_call C_law_told (hr.mono (by decide)) takesE (ma_cons (me_call C_law_given (hr.mono (by decide)) takesE (ma_cons (me_var 2) ma_nil)) (ma_cons (me_callTy call_tupleP cs_tuple (by decide +kernel) n_tuple (ma_cons (me_var 3) ma_nil)) ma_nil))) (ma_cons (me_bin op_addU os_add (me_var 8) (me_tup (ma_cons me_bl ma_nil))) ma_nil))))))))))))))
end
theorem all_mk {P : Program} {w : World} {K : PySem.W.Frag} {h : Heap} {mg : Str → Option Value} {fa : Addr} (X : K.In h) (G : h.Ns mainGlobals mg) (hfa : mg "law" = some (.ref fa))
    {f1 : Addr} {od1 an1 : Option Addr} {sl1 : Array (Option Value)} {oc1 kV1 dc1 pm1 cd1 ct1 : Value} (a1 : PySem.W.nsIn K mainGlobals "_law_tape" = some (some (.ref f1))) (l1 : K.lookup f1 = some ⟨oc1, od1, .func (PySem.W.fnOf "_law_tape" "_law_tape" (defArgs s_law_tape) (defBody s_law_tape) (defScope s_law_tape) .none kV1 dc1 pm1 an1 cd1 ct1), sl1⟩) (e1 : PySem.W.codeIn K cd1 "_law_tape" = true) (k1 : PySem.W.keepIn K (.ref f1) = true)
    {f2 : Addr} {od2 an2 : Option Addr} {sl2 : Array (Option Value)} {oc2 kV2 dc2 pm2 cd2 ct2 : Value} (a2 : PySem.W.nsIn K mainGlobals "_law_length" = some (some (.ref f2))) (l2 : K.lookup f2 = some ⟨oc2, od2, .func (PySem.W.fnOf "_law_length" "_law_length" (defArgs s_law_length) (defBody s_law_length) (defScope s_law_length) .none kV2 dc2 pm2 an2 cd2 ct2), sl2⟩) (e2 : PySem.W.codeIn K cd2 "_law_length" = true) (k2 : PySem.W.keepIn K (.ref f2) = true)
    {f3 : Addr} {od3 an3 : Option Addr} {sl3 : Array (Option Value)} {oc3 kV3 dc3 pm3 cd3 ct3 : Value} (a3 : PySem.W.nsIn K mainGlobals "_law_outcome" = some (some (.ref f3))) (l3 : K.lookup f3 = some ⟨oc3, od3, .func (PySem.W.fnOf "_law_outcome" "_law_outcome" (defArgs s_law_outcome) (defBody s_law_outcome) (defScope s_law_outcome) .none kV3 dc3 pm3 an3 cd3 ct3), sl3⟩) (e3 : PySem.W.codeIn K cd3 "_law_outcome" = true) (k3 : PySem.W.keepIn K (.ref f3) = true)
    {f4 : Addr} {od4 an4 : Option Addr} {sl4 : Array (Option Value)} {oc4 kV4 dc4 pm4 cd4 ct4 : Value} (a4 : PySem.W.nsIn K mainGlobals "_law_alike" = some (some (.ref f4))) (l4 : K.lookup f4 = some ⟨oc4, od4, .func (PySem.W.fnOf "_law_alike" "_law_alike" (defArgs s_law_alike) (defBody s_law_alike) (defScope s_law_alike) .none kV4 dc4 pm4 an4 cd4 ct4), sl4⟩) (e4 : PySem.W.codeIn K cd4 "_law_alike" = true) (k4 : PySem.W.keepIn K (.ref f4) = true)
    {f5 : Addr} {od5 an5 : Option Addr} {sl5 : Array (Option Value)} {oc5 kV5 dc5 pm5 cd5 ct5 : Value} (a5 : PySem.W.nsIn K mainGlobals "_law_draw" = some (some (.ref f5))) (l5 : K.lookup f5 = some ⟨oc5, od5, .func (PySem.W.fnOf "_law_draw" "_law_draw" (defArgs s_law_draw) (defBody s_law_draw) (defScope s_law_draw) .none kV5 dc5 pm5 an5 cd5 ct5), sl5⟩) (e5 : PySem.W.codeIn K cd5 "_law_draw" = true) (k5 : PySem.W.keepIn K (.ref f5) = true)
    {f6 : Addr} {od6 an6 : Option Addr} {sl6 : Array (Option Value)} {oc6 kV6 dc6 pm6 cd6 ct6 : Value} (a6 : PySem.W.nsIn K mainGlobals "_law_sign" = some (some (.ref f6))) (l6 : K.lookup f6 = some ⟨oc6, od6, .func (PySem.W.fnOf "_law_sign" "_law_sign" (defArgs s_law_sign) (defBody s_law_sign) (defScope s_law_sign) .none kV6 dc6 pm6 an6 cd6 ct6), sl6⟩) (e6 : PySem.W.codeIn K cd6 "_law_sign" = true) (k6 : PySem.W.keepIn K (.ref f6) = true)
    {f7 : Addr} {od7 an7 : Option Addr} {sl7 : Array (Option Value)} {oc7 kV7 dc7 pm7 cd7 ct7 : Value} (a7 : PySem.W.nsIn K mainGlobals "_law_word" = some (some (.ref f7))) (l7 : K.lookup f7 = some ⟨oc7, od7, .func (PySem.W.fnOf "_law_word" "_law_word" (defArgs s_law_word) (defBody s_law_word) (defScope s_law_word) .none kV7 dc7 pm7 an7 cd7 ct7), sl7⟩) (e7 : PySem.W.codeIn K cd7 "_law_word" = true) (k7 : PySem.W.keepIn K (.ref f7) = true)
    {f8 : Addr} {od8 an8 : Option Addr} {sl8 : Array (Option Value)} {oc8 kV8 dc8 pm8 cd8 ct8 : Value} (a8 : PySem.W.nsIn K mainGlobals "_law_scalar" = some (some (.ref f8))) (l8 : K.lookup f8 = some ⟨oc8, od8, .func (PySem.W.fnOf "_law_scalar" "_law_scalar" (defArgs s_law_scalar) (defBody s_law_scalar) (defScope s_law_scalar) .none kV8 dc8 pm8 an8 cd8 ct8), sl8⟩) (e8 : PySem.W.codeIn K cd8 "_law_scalar" = true) (k8 : PySem.W.keepIn K (.ref f8) = true)
    {f9 : Addr} {od9 an9 : Option Addr} {sl9 : Array (Option Value)} {oc9 kV9 dc9 pm9 cd9 ct9 : Value} (a9 : PySem.W.nsIn K mainGlobals "_law_element" = some (some (.ref f9))) (l9 : K.lookup f9 = some ⟨oc9, od9, .func (PySem.W.fnOf "_law_element" "_law_element" (defArgs s_law_element) (defBody s_law_element) (defScope s_law_element) .none kV9 dc9 pm9 an9 cd9 ct9), sl9⟩) (e9 : PySem.W.codeIn K cd9 "_law_element" = true) (k9 : PySem.W.keepIn K (.ref f9) = true)
    {f10 : Addr} {od10 an10 : Option Addr} {sl10 : Array (Option Value)} {oc10 kV10 dc10 pm10 cd10 ct10 : Value} (a10 : PySem.W.nsIn K mainGlobals "_law_contents" = some (some (.ref f10))) (l10 : K.lookup f10 = some ⟨oc10, od10, .func (PySem.W.fnOf "_law_contents" "_law_contents" (defArgs s_law_contents) (defBody s_law_contents) (defScope s_law_contents) .none kV10 dc10 pm10 an10 cd10 ct10), sl10⟩) (e10 : PySem.W.codeIn K cd10 "_law_contents" = true) (k10 : PySem.W.keepIn K (.ref f10) = true)
    {f11 : Addr} {od11 an11 : Option Addr} {sl11 : Array (Option Value)} {oc11 kV11 dc11 pm11 cd11 ct11 : Value} (a11 : PySem.W.nsIn K mainGlobals "_law_step" = some (some (.ref f11))) (l11 : K.lookup f11 = some ⟨oc11, od11, .func (PySem.W.fnOf "_law_step" "_law_step" (defArgs s_law_step) (defBody s_law_step) (defScope s_law_step) .none kV11 dc11 pm11 an11 cd11 ct11), sl11⟩) (e11 : PySem.W.codeIn K cd11 "_law_step" = true) (k11 : PySem.W.keepIn K (.ref f11) = true)
    {f12 : Addr} {od12 an12 : Option Addr} {sl12 : Array (Option Value)} {oc12 kV12 dc12 pm12 cd12 ct12 : Value} (a12 : PySem.W.nsIn K mainGlobals "_law_bad" = some (some (.ref f12))) (l12 : K.lookup f12 = some ⟨oc12, od12, .func (PySem.W.fnOf "_law_bad" "_law_bad" (defArgs s_law_bad) (defBody s_law_bad) (defScope s_law_bad) .none kV12 dc12 pm12 an12 cd12 ct12), sl12⟩) (e12 : PySem.W.codeIn K cd12 "_law_bad" = true) (k12 : PySem.W.keepIn K (.ref f12) = true)
    {f13 : Addr} {od13 an13 : Option Addr} {sl13 : Array (Option Value)} {oc13 kV13 dc13 pm13 cd13 ct13 : Value} (a13 : PySem.W.nsIn K mainGlobals "result_length" = some (some (.ref f13))) (l13 : K.lookup f13 = some ⟨oc13, od13, .func (PySem.W.fnOf "result_length" "result_length" (defArgs s_result_length) (defBody s_result_length) (defScope s_result_length) .none kV13 dc13 pm13 an13 cd13 ct13), sl13⟩) (e13 : PySem.W.codeIn K cd13 "result_length" = true) (k13 : PySem.W.keepIn K (.ref f13) = true)
    {f14 : Addr} {od14 an14 : Option Addr} {sl14 : Array (Option Value)} {oc14 kV14 dc14 pm14 cd14 ct14 : Value} (a14 : PySem.W.nsIn K mainGlobals "check_count" = some (some (.ref f14))) (l14 : K.lookup f14 = some ⟨oc14, od14, .func (PySem.W.fnOf "check_count" "check_count" (defArgs s_check_count) (defBody s_check_count) (defScope s_check_count) .none kV14 dc14 pm14 an14 cd14 ct14), sl14⟩) (e14 : PySem.W.codeIn K cd14 "check_count" = true) (k14 : PySem.W.keepIn K (.ref f14) = true)
    {f15 : Addr} {od15 an15 : Option Addr} {sl15 : Array (Option Value)} {oc15 kV15 dc15 pm15 cd15 ct15 : Value} (a15 : PySem.W.nsIn K mainGlobals "is_valid" = some (some (.ref f15))) (l15 : K.lookup f15 = some ⟨oc15, od15, .func (PySem.W.fnOf "is_valid" "is_valid" (defArgs s_is_valid) (defBody s_is_valid) (defScope s_is_valid) .none kV15 dc15 pm15 an15 cd15 ct15), sl15⟩) (e15 : PySem.W.codeIn K cd15 "is_valid" = true) (k15 : PySem.W.keepIn K (.ref f15) = true)
    {f16 : Addr} {od16 an16 : Option Addr} {sl16 : Array (Option Value)} {oc16 kV16 dc16 pm16 cd16 ct16 : Value} (a16 : PySem.W.nsIn K mainGlobals "result_of" = some (some (.ref f16))) (l16 : K.lookup f16 = some ⟨oc16, od16, .func (PySem.W.fnOf "result_of" "result_of" (defArgs s_result_of) (defBody s_result_of) (defScope s_result_of) .none kV16 dc16 pm16 an16 cd16 ct16), sl16⟩) (e16 : PySem.W.codeIn K cd16 "result_of" = true) (k16 : PySem.W.keepIn K (.ref f16) = true)
    {D17 T17 : Addr} {tn17 : Nat} {tsl17 : Array (Option Value)} 
    {f17 : Addr} {od17 an17 : Option Addr} {sl17 : Array (Option Value)} {oc17 dc17 pm17 cd17 ct17 : Value} (a17 : PySem.W.nsIn K mainGlobals "run_recipe" = some (some (.ref f17))) (l17 : K.lookup f17 = some ⟨oc17, od17, .func (PySem.W.fnOf "run_recipe" "run_recipe" (defArgs s_run_recipe) (defBody s_run_recipe) (defScope s_run_recipe) .none (.ref D17) dc17 pm17 an17 cd17 ct17), sl17⟩) (e17 : PySem.W.codeIn K cd17 "run_recipe" = true) (k17 : PySem.W.keepIn K (.ref f17) = true)
    (kd17 : PySem.W.nsIn K D17 "bases" = some (some (.ref T17))) (kt17 : K.lookup T17 = some ⟨.type "tuple", none, .seq #[] tn17, tsl17⟩)
    {f18 : Addr} {od18 an18 : Option Addr} {sl18 : Array (Option Value)} {oc18 kV18 dc18 pm18 cd18 ct18 : Value} (a18 : PySem.W.nsIn K mainGlobals "_law_alone" = some (some (.ref f18))) (l18 : K.lookup f18 = some ⟨oc18, od18, .func (PySem.W.fnOf "_law_alone" "_law_alone" (defArgs s_law_alone) (defBody s_law_alone) (defScope s_law_alone) .none kV18 dc18 pm18 an18 cd18 ct18), sl18⟩) (e18 : PySem.W.codeIn K cd18 "_law_alone" = true) (k18 : PySem.W.keepIn K (.ref f18) = true)
    {f19 : Addr} {od19 an19 : Option Addr} {sl19 : Array (Option Value)} {oc19 kV19 dc19 pm19 cd19 ct19 : Value} (a19 : PySem.W.nsIn K mainGlobals "_law_told" = some (some (.ref f19))) (l19 : K.lookup f19 = some ⟨oc19, od19, .func (PySem.W.fnOf "_law_told" "_law_told" (defArgs s_law_told) (defBody s_law_told) (defScope s_law_told) .none kV19 dc19 pm19 an19 cd19 ct19), sl19⟩) (e19 : PySem.W.codeIn K cd19 "_law_told" = true) (k19 : PySem.W.keepIn K (.ref f19) = true)
    {f20 : Addr} {od20 an20 : Option Addr} {sl20 : Array (Option Value)} {oc20 kV20 dc20 pm20 cd20 ct20 : Value} (a20 : PySem.W.nsIn K mainGlobals "_law_result" = some (some (.ref f20))) (l20 : K.lookup f20 = some ⟨oc20, od20, .func (PySem.W.fnOf "_law_result" "_law_result" (defArgs s_law_result) (defBody s_law_result) (defScope s_law_result) .none kV20 dc20 pm20 an20 cd20 ct20), sl20⟩) (e20 : PySem.W.codeIn K cd20 "_law_result" = true) (k20 : PySem.W.keepIn K (.ref f20) = true)
    {f21 : Addr} {od21 an21 : Option Addr} {sl21 : Array (Option Value)} {oc21 kV21 dc21 pm21 cd21 ct21 : Value} (a21 : PySem.W.nsIn K mainGlobals "_law_given" = some (some (.ref f21))) (l21 : K.lookup f21 = some ⟨oc21, od21, .func (PySem.W.fnOf "_law_given" "_law_given" (defArgs s_law_given) (defBody s_law_given) (defScope s_law_given) .none kV21 dc21 pm21 an21 cd21 ct21), sl21⟩) (e21 : PySem.W.codeIn K cd21 "_law_given" = true) (k21 : PySem.W.keepIn K (.ref f21) = true)
    {f22 : Addr} {od22 an22 : Option Addr} {sl22 : Array (Option Value)} {oc22 kV22 dc22 pm22 cd22 ct22 : Value} (a22 : PySem.W.nsIn K mainGlobals "law" = some (some (.ref f22))) (l22 : K.lookup f22 = some ⟨oc22, od22, .func (PySem.W.fnOf "law" "law" (defArgs s_law) (defBody s_law) (defScope s_law) .none kV22 dc22 pm22 an22 cd22 ct22), sl22⟩) (e22 : PySem.W.codeIn K cd22 "law" = true) (k22 : PySem.W.keepIn K (.ref f22) = true)
    (z_int : PySem.W.nsIn K mainGlobals "int" = some none)
    (z_abs : PySem.W.nsIn K mainGlobals "abs" = some none)
    (z_list : PySem.W.nsIn K mainGlobals "list" = some none)
    (z_len : PySem.W.nsIn K mainGlobals "len" = some none)
    (z_sum : PySem.W.nsIn K mainGlobals "sum" = some none)
    (z_range : PySem.W.nsIn K mainGlobals "range" = some none)
    (z_isinstance : PySem.W.nsIn K mainGlobals "isinstance" = some none)
    (z_tuple : PySem.W.nsIn K mainGlobals "tuple" = some none)
    (z_str : PySem.W.nsIn K mainGlobals "str" = some none)
    (z_bool : PySem.W.nsIn K mainGlobals "bool" = some none)
    (z_max : PySem.W.nsIn K mainGlobals "max" = some none)
    (z_min : PySem.W.nsIn K mainGlobals "min" = some none)
    {u_MOST_ELEMENTS : Tok} (z_MOST_ELEMENTS : PySem.W.nsIn K mainGlobals "MOST_ELEMENTS" = some (some (.int 2000 u_MOST_ELEMENTS)))
    (z_all : PySem.W.nsIn K mainGlobals "all" = some none)
    (z_enumerate : PySem.W.nsIn K mainGlobals "enumerate" = some none)
    {u_MOST_RESULTS : Tok} (z_MOST_RESULTS : PySem.W.nsIn K mainGlobals "MOST_RESULTS" = some (some (.int 200000 u_MOST_RESULTS)))
    (z_ValueError : PySem.W.nsIn K mainGlobals "ValueError" = some none)
    (z_third : PySem.W.nsIn K cStatics "thirdparty.any" = some none)
    (z_super : PySem.W.nsIn K mainGlobals "super" = some none)
    (z_top : (P.main.scope.names.lookup ("super" : Str)).isSome = false)
    {C_TooManyElements : Addr} (c1_TooManyElements : PySem.W.nsIn K mainGlobals "TooManyElements" = some (some (.ref C_TooManyElements)))
    {B_TooManyElements_ShapeError : Addr} {nm_TooManyElements q_TooManyElements : Str} {N_TooManyElements : Addr} {bs_TooManyElements sub_TooManyElements : List Value} {sn_TooManyElements : List Str} {ab_TooManyElements : Bool} {col_TooManyElements : Option Bool} {dd_TooManyElements : Option Addr} {m0_TooManyElements m1_TooManyElements m2_TooManyElements m3_TooManyElements m5_TooManyElements : Option Value}
    (xL_TooManyElements : K.lookup C_TooManyElements = some (excClassObj nm_TooManyElements q_TooManyElements C_TooManyElements N_TooManyElements bs_TooManyElements [.ref B_TooManyElements_ShapeError, .type "ValueError", .type "Exception", .type "BaseException", .type "object"] true sn_TooManyElements sub_TooManyElements ab_TooManyElements col_TooManyElements dd_TooManyElements m0_TooManyElements m1_TooManyElements m2_TooManyElements m3_TooManyElements m5_TooManyElements "ValueError.__new__"))
    (sa_TooManyElements : PySem.W.findIn K (.ref C_TooManyElements) "__setattr__" = some (some (.builtin "object.__setattr__")))
    (nb_TooManyElements : PySem.W.findIn K (.ref C_TooManyElements) "count" = some none)
    {I_TooManyElements : Addr}
    (a1_TooManyElements : PySem.W.findIn K (.ref C_TooManyElements) "__init__" = some (some (.ref I_TooManyElements)))
    (t1_TooManyElements : PySem.W.typeIn K (.ref I_TooManyElements) = some (.type "function"))
    (su_TooManyElements : PySem.W.ks_superIn K C_TooManyElements C_TooManyElements "__init__" = some (some (.builtin "ValueError.__init__")))
    (ve_TooManyElements : PySem.W.subIn K (.ref C_TooManyElements) (.type "ValueError") = some true)
    (sf_TooManyElements : PySem.W.mroIn K C_TooManyElements (.ref C_TooManyElements) = some true)
    {oc_TooManyElements dc_TooManyElements pm_TooManyElements ct_TooManyElements cl_TooManyElements cc2_TooManyElements : Value} {od_TooManyElements an_TooManyElements cld_TooManyElements cdd_TooManyElements : Option Addr} {cda_TooManyElements cc_TooManyElements : Addr} {osl_TooManyElements csl_TooManyElements ccs_TooManyElements : Array (Option Value)} {vs_TooManyElements : Array Value} {fl_TooManyElements : Str} {tf_TooManyElements : Tok}
    (l1_TooManyElements : K.lookup I_TooManyElements = some ⟨oc_TooManyElements, od_TooManyElements, .func (PySem.W.ksFn "__init__" "TooManyElements.__init__" (PySem.SupX.iA "count" ⟨16, 17, 16, 21⟩ ⟨16, 23, 16, 28⟩) (PySem.SupX.iB "count" "too many elements" ⟨17, 8, 17, 13⟩ ⟨17, 8, 17, 15⟩ ⟨17, 8, 17, 24⟩ ⟨17, 25, 17, 44⟩ ⟨17, 8, 17, 45⟩ ⟨17, 8, 17, 45⟩ ⟨18, 8, 18, 12⟩ ⟨18, 8, 18, 18⟩ ⟨18, 21, 18, 26⟩ ⟨18, 8, 18, 26⟩) (PySem.SupX.iS "count") .none .none dc_TooManyElements pm_TooManyElements an_TooManyElements (.ref cda_TooManyElements) ct_TooManyElements cc_TooManyElements), osl_TooManyElements⟩)
    (e1_TooManyElements : PySem.W.codeIn K (.ref cda_TooManyElements) "TooManyElements.__init__" = true)
    (ce_TooManyElements : K.lookup cc_TooManyElements = some ⟨cl_TooManyElements, cld_TooManyElements, .cell (some (.ref C_TooManyElements)), csl_TooManyElements⟩)
    (co_TooManyElements : K.lookup cda_TooManyElements = some ⟨cc2_TooManyElements, cdd_TooManyElements, .fields vs_TooManyElements, ccs_TooManyElements⟩)
    (v2_TooManyElements : vs_TooManyElements[2]? = some (.str fl_TooManyElements tf_TooManyElements))
    (fi_TooManyElements : ((P.main.file : Str) == fl_TooManyElements) = true)
    (ga_TooManyElements : PySem.W.findIn K (.ref C_TooManyElements) "__getattribute__" = some (some (.builtin "BaseException.__getattribute__")))
    (gg_TooManyElements : PySem.W.findIn K (.ref C_TooManyElements) "__getattr__" = some none)
    (hC_TooManyElements : PySem.W.hasDictIn K C_TooManyElements = true)
    (kC_TooManyElements : PySem.W.keepIn K (.ref C_TooManyElements) = true)
    (eC_TooManyElements : PySem.W.subIn K (.ref C_TooManyElements) (.type "BaseException") = some true)
    (tC_TooManyElements : PySem.W.typeIn K (.ref C_TooManyElements) = some (.type "type"))
    (iC_TooManyElements : PySem.W.isClsIn K C_TooManyElements = true)
    (hk_TooManyElements : PySem.W.findIn K (.ref C_TooManyElements) "__class__" = some (some (.builtin "object.__class__")))
    (hs_TooManyElements : PySem.W.specialIn K (.builtin "object.__class__") "__get__" = some (some (.builtin "getset_descriptor.__get__")))
    (ht_TooManyElements : PySem.W.takesIn K (.builtin "object.__class__") = some true)
    (hm_TooManyElements : PySem.W.mroIn K C_TooManyElements (.type "object") = some true)
    (sC_TooManyElements : PySem.W.subIn K (.ref C_TooManyElements) (.ref C_TooManyElements) = some true)
    {C_InvalidInstruction : Addr} (c1_InvalidInstruction : PySem.W.nsIn K mainGlobals "InvalidInstruction" = some (some (.ref C_InvalidInstruction)))
    {B_InvalidInstruction_ShapeError : Addr} {nm_InvalidInstruction q_InvalidInstruction : Str} {N_InvalidInstruction : Addr} {bs_InvalidInstruction sub_InvalidInstruction : List Value} {sn_InvalidInstruction : List Str} {ab_InvalidInstruction : Bool} {col_InvalidInstruction : Option Bool} {dd_InvalidInstruction : Option Addr} {m0_InvalidInstruction m1_InvalidInstruction m2_InvalidInstruction m3_InvalidInstruction m5_InvalidInstruction : Option Value}
    (xL_InvalidInstruction : K.lookup C_InvalidInstruction = some (excClassObj nm_InvalidInstruction q_InvalidInstruction C_InvalidInstruction N_InvalidInstruction bs_InvalidInstruction [.ref B_InvalidInstruction_ShapeError, .type "ValueError", .type "Exception", .type "BaseException", .type "object"] true sn_InvalidInstruction sub_InvalidInstruction ab_InvalidInstruction col_InvalidInstruction dd_InvalidInstruction m0_InvalidInstruction m1_InvalidInstruction m2_InvalidInstruction m3_InvalidInstruction m5_InvalidInstruction "ValueError.__new__"))
    (sa_InvalidInstruction : PySem.W.findIn K (.ref C_InvalidInstruction) "__setattr__" = some (some (.builtin "object.__setattr__")))
    (nb_InvalidInstruction : PySem.W.findIn K (.ref C_InvalidInstruction) "place" = some none)
    {I_InvalidInstruction : Addr}
    (a1_InvalidInstruction : PySem.W.findIn K (.ref C_InvalidInstruction) "__init__" = some (some (.ref I_InvalidInstruction)))
    (t1_InvalidInstruction : PySem.W.typeIn K (.ref I_InvalidInstruction) = some (.type "function"))
    (su_InvalidInstruction : PySem.W.ks_superIn K C_InvalidInstruction C_InvalidInstruction "__init__" = some (some (.builtin "ValueError.__init__")))
    (ve_InvalidInstruction : PySem.W.subIn K (.ref C_InvalidInstruction) (.type "ValueError") = some true)
    (sf_InvalidInstruction : PySem.W.mroIn K C_InvalidInstruction (.ref C_InvalidInstruction) = some true)
    {oc_InvalidInstruction dc_InvalidInstruction pm_InvalidInstruction ct_InvalidInstruction cl_InvalidInstruction cc2_InvalidInstruction : Value} {od_InvalidInstruction an_InvalidInstruction cld_InvalidInstruction cdd_InvalidInstruction : Option Addr} {cda_InvalidInstruction cc_InvalidInstruction : Addr} {osl_InvalidInstruction csl_InvalidInstruction ccs_InvalidInstruction : Array (Option Value)} {vs_InvalidInstruction : Array Value} {fl_InvalidInstruction : Str} {tf_InvalidInstruction : Tok}
    (l1_InvalidInstruction : K.lookup I_InvalidInstruction = some ⟨oc_InvalidInstruction, od_InvalidInstruction, .func (PySem.W.ksFn "__init__" "InvalidInstruction.__init__" (PySem.SupX.iA "place" ⟨6, 17, 6, 21⟩ ⟨6, 23, 6, 28⟩) (PySem.SupX.iB "place" "invalid instruction" ⟨7, 8, 7, 13⟩ ⟨7, 8, 7, 15⟩ ⟨7, 8, 7, 24⟩ ⟨7, 25, 7, 46⟩ ⟨7, 8, 7, 47⟩ ⟨7, 8, 7, 47⟩ ⟨8, 8, 8, 12⟩ ⟨8, 8, 8, 18⟩ ⟨8, 21, 8, 26⟩ ⟨8, 8, 8, 26⟩) (PySem.SupX.iS "place") .none .none dc_InvalidInstruction pm_InvalidInstruction an_InvalidInstruction (.ref cda_InvalidInstruction) ct_InvalidInstruction cc_InvalidInstruction), osl_InvalidInstruction⟩)
    (e1_InvalidInstruction : PySem.W.codeIn K (.ref cda_InvalidInstruction) "InvalidInstruction.__init__" = true)
    (ce_InvalidInstruction : K.lookup cc_InvalidInstruction = some ⟨cl_InvalidInstruction, cld_InvalidInstruction, .cell (some (.ref C_InvalidInstruction)), csl_InvalidInstruction⟩)
    (co_InvalidInstruction : K.lookup cda_InvalidInstruction = some ⟨cc2_InvalidInstruction, cdd_InvalidInstruction, .fields vs_InvalidInstruction, ccs_InvalidInstruction⟩)
    (v2_InvalidInstruction : vs_InvalidInstruction[2]? = some (.str fl_InvalidInstruction tf_InvalidInstruction))
    (fi_InvalidInstruction : ((P.main.file : Str) == fl_InvalidInstruction) = true)
    (ga_InvalidInstruction : PySem.W.findIn K (.ref C_InvalidInstruction) "__getattribute__" = some (some (.builtin "BaseException.__getattribute__")))
    (gg_InvalidInstruction : PySem.W.findIn K (.ref C_InvalidInstruction) "__getattr__" = some none)
    (hC_InvalidInstruction : PySem.W.hasDictIn K C_InvalidInstruction = true)
    (kC_InvalidInstruction : PySem.W.keepIn K (.ref C_InvalidInstruction) = true)
    (eC_InvalidInstruction : PySem.W.subIn K (.ref C_InvalidInstruction) (.type "BaseException") = some true)
    (tC_InvalidInstruction : PySem.W.typeIn K (.ref C_InvalidInstruction) = some (.type "type"))
    (iC_InvalidInstruction : PySem.W.isClsIn K C_InvalidInstruction = true)
    (hk_InvalidInstruction : PySem.W.findIn K (.ref C_InvalidInstruction) "__class__" = some (some (.builtin "object.__class__")))
    (hs_InvalidInstruction : PySem.W.specialIn K (.builtin "object.__class__") "__get__" = some (some (.builtin "getset_descriptor.__get__")))
    (ht_InvalidInstruction : PySem.W.takesIn K (.builtin "object.__class__") = some true)
    (hm_InvalidInstruction : PySem.W.mroIn K C_InvalidInstruction (.type "object") = some true)
    (sC_InvalidInstruction : PySem.W.subIn K (.ref C_InvalidInstruction) (.ref C_InvalidInstruction) = some true)
    {C_RecipeTooLarge : Addr} (c1_RecipeTooLarge : PySem.W.nsIn K mainGlobals "RecipeTooLarge" = some (some (.ref C_RecipeTooLarge)))
    {B_RecipeTooLarge_ShapeError : Addr} {nm_RecipeTooLarge q_RecipeTooLarge : Str} {N_RecipeTooLarge : Addr} {bs_RecipeTooLarge sub_RecipeTooLarge : List Value} {sn_RecipeTooLarge : List Str} {ab_RecipeTooLarge : Bool} {col_RecipeTooLarge : Option Bool} {dd_RecipeTooLarge : Option Addr} {m0_RecipeTooLarge m1_RecipeTooLarge m2_RecipeTooLarge m3_RecipeTooLarge m5_RecipeTooLarge : Option Value}
    (xL_RecipeTooLarge : K.lookup C_RecipeTooLarge = some (excClassObj nm_RecipeTooLarge q_RecipeTooLarge C_RecipeTooLarge N_RecipeTooLarge bs_RecipeTooLarge [.ref B_RecipeTooLarge_ShapeError, .type "ValueError", .type "Exception", .type "BaseException", .type "object"] true sn_RecipeTooLarge sub_RecipeTooLarge ab_RecipeTooLarge col_RecipeTooLarge dd_RecipeTooLarge m0_RecipeTooLarge m1_RecipeTooLarge m2_RecipeTooLarge m3_RecipeTooLarge m5_RecipeTooLarge "ValueError.__new__"))
    (sa_RecipeTooLarge : PySem.W.findIn K (.ref C_RecipeTooLarge) "__setattr__" = some (some (.builtin "object.__setattr__")))
    (nb_RecipeTooLarge : PySem.W.findIn K (.ref C_RecipeTooLarge) "place" = some none)
    {I_RecipeTooLarge : Addr}
    (a1_RecipeTooLarge : PySem.W.findIn K (.ref C_RecipeTooLarge) "__init__" = some (some (.ref I_RecipeTooLarge)))
    (t1_RecipeTooLarge : PySem.W.typeIn K (.ref I_RecipeTooLarge) = some (.type "function"))
    (su_RecipeTooLarge : PySem.W.ks_superIn K C_RecipeTooLarge C_RecipeTooLarge "__init__" = some (some (.builtin "ValueError.__init__")))
    (ve_RecipeTooLarge : PySem.W.subIn K (.ref C_RecipeTooLarge) (.type "ValueError") = some true)
    (sf_RecipeTooLarge : PySem.W.mroIn K C_RecipeTooLarge (.ref C_RecipeTooLarge) = some true)
    {oc_RecipeTooLarge dc_RecipeTooLarge pm_RecipeTooLarge ct_RecipeTooLarge cl_RecipeTooLarge cc2_RecipeTooLarge : Value} {od_RecipeTooLarge an_RecipeTooLarge cld_RecipeTooLarge cdd_RecipeTooLarge : Option Addr} {cda_RecipeTooLarge cc_RecipeTooLarge : Addr} {osl_RecipeTooLarge csl_RecipeTooLarge ccs_RecipeTooLarge : Array (Option Value)} {vs_RecipeTooLarge : Array Value} {fl_RecipeTooLarge : Str} {tf_RecipeTooLarge : Tok}
    (l1_RecipeTooLarge : K.lookup I_RecipeTooLarge = some ⟨oc_RecipeTooLarge, od_RecipeTooLarge, .func (PySem.W.ksFn "__init__" "RecipeTooLarge.__init__" (PySem.SupX.iA "place" ⟨11, 17, 11, 21⟩ ⟨11, 23, 11, 28⟩) (PySem.SupX.iB "place" "recipe too large" ⟨12, 8, 12, 13⟩ ⟨12, 8, 12, 15⟩ ⟨12, 8, 12, 24⟩ ⟨12, 25, 12, 43⟩ ⟨12, 8, 12, 44⟩ ⟨12, 8, 12, 44⟩ ⟨13, 8, 13, 12⟩ ⟨13, 8, 13, 18⟩ ⟨13, 21, 13, 26⟩ ⟨13, 8, 13, 26⟩) (PySem.SupX.iS "place") .none .none dc_RecipeTooLarge pm_RecipeTooLarge an_RecipeTooLarge (.ref cda_RecipeTooLarge) ct_RecipeTooLarge cc_RecipeTooLarge), osl_RecipeTooLarge⟩)
    (e1_RecipeTooLarge : PySem.W.codeIn K (.ref cda_RecipeTooLarge) "RecipeTooLarge.__init__" = true)
    (ce_RecipeTooLarge : K.lookup cc_RecipeTooLarge = some ⟨cl_RecipeTooLarge, cld_RecipeTooLarge, .cell (some (.ref C_RecipeTooLarge)), csl_RecipeTooLarge⟩)
    (co_RecipeTooLarge : K.lookup cda_RecipeTooLarge = some ⟨cc2_RecipeTooLarge, cdd_RecipeTooLarge, .fields vs_RecipeTooLarge, ccs_RecipeTooLarge⟩)
    (v2_RecipeTooLarge : vs_RecipeTooLarge[2]? = some (.str fl_RecipeTooLarge tf_RecipeTooLarge))
    (fi_RecipeTooLarge : ((P.main.file : Str) == fl_RecipeTooLarge) = true)
    (ga_RecipeTooLarge : PySem.W.findIn K (.ref C_RecipeTooLarge) "__getattribute__" = some (some (.builtin "BaseException.__getattribute__")))
    (gg_RecipeTooLarge : PySem.W.findIn K (.ref C_RecipeTooLarge) "__getattr__" = some none)
    (hC_RecipeTooLarge : PySem.W.hasDictIn K C_RecipeTooLarge = true)
    (kC_RecipeTooLarge : PySem.W.keepIn K (.ref C_RecipeTooLarge) = true)
    (eC_RecipeTooLarge : PySem.W.subIn K (.ref C_RecipeTooLarge) (.type "BaseException") = some true)
    (tC_RecipeTooLarge : PySem.W.typeIn K (.ref C_RecipeTooLarge) = some (.type "type"))
    (iC_RecipeTooLarge : PySem.W.isClsIn K C_RecipeTooLarge = true)
    (hk_RecipeTooLarge : PySem.W.findIn K (.ref C_RecipeTooLarge) "__class__" = some (some (.builtin "object.__class__")))
    (hs_RecipeTooLarge : PySem.W.specialIn K (.builtin "object.__class__") "__get__" = some (some (.builtin "getset_descriptor.__get__")))
    (ht_RecipeTooLarge : PySem.W.takesIn K (.builtin "object.__class__") = some true)
    (hm_RecipeTooLarge : PySem.W.mroIn K C_RecipeTooLarge (.type "object") = some true)
    (sC_RecipeTooLarge : PySem.W.subIn K (.ref C_RecipeTooLarge) (.ref C_RecipeTooLarge) = some true)
    {C_ShapeError : Addr} (c1_ShapeError : PySem.W.nsIn K mainGlobals "ShapeError" = some (some (.ref C_ShapeError)))
    (kk_InvalidInstruction_InvalidInstruction : PySem.W.kitOne K (.ref C_InvalidInstruction) (.ref C_InvalidInstruction) = some true)
    (kk_InvalidInstruction_TooManyElements : PySem.W.kitOne K (.ref C_InvalidInstruction) (.ref C_TooManyElements) = some false)
    (kk_InvalidInstruction_RecipeTooLarge : PySem.W.kitOne K (.ref C_InvalidInstruction) (.ref C_RecipeTooLarge) = some false)
    (kk_InvalidInstruction_ValueError : PySem.W.kitOne K (.ref C_InvalidInstruction) (.type "ValueError") = some true)
    (kk_InvalidInstruction_ShapeError : PySem.W.kitOne K (.ref C_InvalidInstruction) (.ref C_ShapeError) = some true)
    (kk_TooManyElements_InvalidInstruction : PySem.W.kitOne K (.ref C_TooManyElements) (.ref C_InvalidInstruction) = some false)
    (kk_TooManyElements_TooManyElements : PySem.W.kitOne K (.ref C_TooManyElements) (.ref C_TooManyElements) = some true)
    (kk_TooManyElements_RecipeTooLarge : PySem.W.kitOne K (.ref C_TooManyElements) (.ref C_RecipeTooLarge) = some false)
    (kk_TooManyElements_ValueError : PySem.W.kitOne K (.ref C_TooManyElements) (.type "ValueError") = some true)
    (kk_TooManyElements_ShapeError : PySem.W.kitOne K (.ref C_TooManyElements) (.ref C_ShapeError) = some true)
    (kk_RecipeTooLarge_InvalidInstruction : PySem.W.kitOne K (.ref C_RecipeTooLarge) (.ref C_InvalidInstruction) = some false)
    (kk_RecipeTooLarge_TooManyElements : PySem.W.kitOne K (.ref C_RecipeTooLarge) (.ref C_TooManyElements) = some false)
    (kk_RecipeTooLarge_RecipeTooLarge : PySem.W.kitOne K (.ref C_RecipeTooLarge) (.ref C_RecipeTooLarge) = some true)
    (kk_RecipeTooLarge_ValueError : PySem.W.kitOne K (.ref C_RecipeTooLarge) (.type "ValueError") = some true)
    (kk_RecipeTooLarge_ShapeError : PySem.W.kitOne K (.ref C_RecipeTooLarge) (.ref C_ShapeError) = some true)
    (ee_TooManyElements_InvalidInstruction : PySem.W.subIn K (.ref C_TooManyElements) (.ref C_InvalidInstruction) = some false)
    (ee_RecipeTooLarge_InvalidInstruction : PySem.W.subIn K (.ref C_RecipeTooLarge) (.ref C_InvalidInstruction) = some false)
    (ee_RecipeTooLarge_TooManyElements : PySem.W.subIn K (.ref C_RecipeTooLarge) (.ref C_TooManyElements) = some false) :
    ∃ fd : FuncData, (∀ (s : Shared) (v : Value), BindsTo s fd ⟨[v], []⟩ [("_law_script", v)]) ∧ ∀ base : Heap, K.In base → base.Ns mainGlobals mg → FnOk P w K mg base (L2.CX P w) 41 fa fd ["_law_script"] (spM K w mg m_law) := by
  have F1 := fun_mk (st := s_law_tape) l1 e1 k1
  have b1 := F1.binds (ps := ["_law_script"]) fun _ _ _ _ _ _ us hl => match us, hl with | [_], _ => rfl
  have G_law_tape : GF K mg "_law_tape" s_law_tape ["_law_script"] := ⟨_, _, PySem.W.mg_of X G a1, F1, b1⟩
  have F2 := fun_mk (st := s_law_length) l2 e2 k2
  have b2 := F2.binds (ps := ["_law_bases", "_law_lengths", "_law_step_here"]) fun _ _ _ _ _ _ us hl => match us, hl with | [_, _, _], _ => rfl
  have G_law_length : GF K mg "_law_length" s_law_length ["_law_bases", "_law_lengths", "_law_step_here"] := ⟨_, _, PySem.W.mg_of X G a2, F2, b2⟩
  have F3 := fun_mk (st := s_law_outcome) l3 e3 k3
  have b3 := F3.binds (ps := ["_law_bases", "_law_recipe"]) fun _ _ _ _ _ _ us hl => match us, hl with | [_, _], _ => rfl
  have G_law_outcome : GF K mg "_law_outcome" s_law_outcome ["_law_bases", "_law_recipe"] := ⟨_, _, PySem.W.mg_of X G a3, F3, b3⟩
  have F4 := fun_mk (st := s_law_alike) l4 e4 k4
  have b4 := F4.binds (ps := ["_law_told_here", "_law_due"]) fun _ _ _ _ _ _ us hl => match us, hl with | [_, _], _ => rfl
  have G_law_alike : GF K mg "_law_alike" s_law_alike ["_law_told_here", "_law_due"] := ⟨_, _, PySem.W.mg_of X G a4, F4, b4⟩
  have F5 := fun_mk (st := s_law_draw) l5 e5 k5
  have b5 := F5.binds (ps := ["_law_tape_here", "_law_many"]) fun _ _ _ _ _ _ us hl => match us, hl with | [_, _], _ => rfl
  have G_law_draw : GF K mg "_law_draw" s_law_draw ["_law_tape_here", "_law_many"] := ⟨_, _, PySem.W.mg_of X G a5, F5, b5⟩
  have F6 := fun_mk (st := s_law_sign) l6 e6 k6
  have b6 := F6.binds (ps := ["_law_tape_here"]) fun _ _ _ _ _ _ us hl => match us, hl with | [_], _ => rfl
  have G_law_sign : GF K mg "_law_sign" s_law_sign ["_law_tape_here"] := ⟨_, _, PySem.W.mg_of X G a6, F6, b6⟩
  have F7 := fun_mk (st := s_law_word) l7 e7 k7
  have b7 := F7.binds (ps := ["_law_tape_here"]) fun _ _ _ _ _ _ us hl => match us, hl with | [_], _ => rfl
  have G_law_word : GF K mg "_law_word" s_law_word ["_law_tape_here"] := ⟨_, _, PySem.W.mg_of X G a7, F7, b7⟩
  have F8 := fun_mk (st := s_law_scalar) l8 e8 k8
  have b8 := F8.binds (ps := ["_law_tape_here"]) fun _ _ _ _ _ _ us hl => match us, hl with | [_], _ => rfl
  have G_law_scalar : GF K mg "_law_scalar" s_law_scalar ["_law_tape_here"] := ⟨_, _, PySem.W.mg_of X G a8, F8, b8⟩
  have F9 := fun_mk (st := s_law_element) l9 e9 k9
  have b9 := F9.binds (ps := ["_law_tape_here"]) fun _ _ _ _ _ _ us hl => match us, hl with | [_], _ => rfl
  have G_law_element : GF K mg "_law_element" s_law_element ["_law_tape_here"] := ⟨_, _, PySem.W.mg_of X G a9, F9, b9⟩
  have F10 := fun_mk (st := s_law_contents) l10 e10 k10
  have b10 := F10.binds (ps := ["_law_tape_here", "_law_most"]) fun _ _ _ _ _ _ us hl => match us, hl with | [_, _], _ => rfl
  have G_law_contents : GF K mg "_law_contents" s_law_contents ["_law_tape_here", "_law_most"] := ⟨_, _, PySem.W.mg_of X G a10, F10, b10⟩
  have F11 := fun_mk (st := s_law_step) l11 e11 k11
  have b11 := F11.binds (ps := ["_law_tape_here", "_law_bases", "_law_results", "_law_most"]) fun _ _ _ _ _ _ us hl => match us, hl with | [_, _, _, _], _ => rfl
  have G_law_step : GF K mg "_law_step" s_law_step ["_law_tape_here", "_law_bases", "_law_results", "_law_most"] := ⟨_, _, PySem.W.mg_of X G a11, F11, b11⟩
  have F12 := fun_mk (st := s_law_bad) l12 e12 k12
  have b12 := F12.binds (ps := ["_law_tape_here", "_law_bases", "_law_place"]) fun _ _ _ _ _ _ us hl => match us, hl with | [_, _, _], _ => rfl
  have G_law_bad : GF K mg "_law_bad" s_law_bad ["_law_tape_here", "_law_bases", "_law_place"] := ⟨_, _, PySem.W.mg_of X G a12, F12, b12⟩
  have F13 := fun_mk (st := s_result_length) l13 e13 k13
  have b13 := F13.binds (ps := ["instruction", "results"]) fun _ _ _ _ _ _ us hl => match us, hl with | [_, _], _ => rfl
  have G_result_length : GF K mg "result_length" s_result_length ["instruction", "results"] := ⟨_, _, PySem.W.mg_of X G a13, F13, b13⟩
  have F14 := fun_mk (st := s_check_count) l14 e14 k14
  have b14 := F14.binds (ps := ["count"]) fun _ _ _ _ _ _ us hl => match us, hl with | [_], _ => rfl
  have G_check_count : GF K mg "check_count" s_check_count ["count"] := ⟨_, _, PySem.W.mg_of X G a14, F14, b14⟩
  have F15 := fun_mk (st := s_is_valid) l15 e15 k15
  have b15 := F15.binds (ps := ["instruction", "place", "bases"]) fun _ _ _ _ _ _ us hl => match us, hl with | [_, _, _], _ => rfl
  have G_is_valid : GF K mg "is_valid" s_is_valid ["instruction", "place", "bases"] := ⟨_, _, PySem.W.mg_of X G a15, F15, b15⟩
  have F16 := fun_mk (st := s_result_of) l16 e16 k16
  have b16 := F16.binds (ps := ["instruction", "results", "bases"]) fun _ _ _ _ _ _ us hl => match us, hl with | [_, _, _], _ => rfl
  have G_result_of : GF K mg "result_of" s_result_of ["instruction", "results", "bases"] := ⟨_, _, PySem.W.mg_of X G a16, F16, b16⟩
  have G_run_recipe : GK K mg "run_recipe" "bases" s_run_recipe ["recipe", "bases"] := gk_mk (PySem.W.mg_of X G a17) l17 e17 k17 kd17 kt17 rfl (fun D doc pm an cdv ct us ks h1 h2 => match us, ks, h1, h2 with | [_], [_], _, _ => ⟨_, _, _, _, _, _, rfl, rfl, rfl⟩) (fun _ _ _ _ _ _ _ _ => rfl)
  have F18 := fun_mk (st := s_law_alone) l18 e18 k18
  have b18 := F18.binds (ps := ["_law_error"]) fun _ _ _ _ _ _ us hl => match us, hl with | [_], _ => rfl
  have G_law_alone : GF K mg "_law_alone" s_law_alone ["_law_error"] := ⟨_, _, PySem.W.mg_of X G a18, F18, b18⟩
  have F19 := fun_mk (st := s_law_told) l19 e19 k19
  have b19 := F19.binds (ps := ["_law_bases", "_law_recipe"]) fun _ _ _ _ _ _ us hl => match us, hl with | [_, _], _ => rfl
  have G_law_told : GF K mg "_law_told" s_law_told ["_law_bases", "_law_recipe"] := ⟨_, _, PySem.W.mg_of X G a19, F19, b19⟩
  have F20 := fun_mk (st := s_law_result) l20 e20 k20
  have b20 := F20.binds (ps := ["_law_bases", "_law_results", "_law_step_here"]) fun _ _ _ _ _ _ us hl => match us, hl with | [_, _, _], _ => rfl
  have G_law_result : GF K mg "_law_result" s_law_result ["_law_bases", "_law_results", "_law_step_here"] := ⟨_, _, PySem.W.mg_of X G a20, F20, b20⟩
  have F21 := fun_mk (st := s_law_given) l21 e21 k21
  have b21 := F21.binds (ps := ["_law_rows"]) fun _ _ _ _ _ _ us hl => match us, hl with | [_], _ => rfl
  have G_law_given : GF K mg "_law_given" s_law_given ["_law_rows"] := ⟨_, _, PySem.W.mg_of X G a21, F21, b21⟩
  have F22 := fun_mk (st := s_law) l22 e22 k22
  have b22 := F22.binds (ps := ["_law_script"]) fun _ _ _ _ _ _ us hl => match us, hl with | [_], _ => rfl
  have G_law : GF K mg "law" s_law ["_law_script"] := ⟨_, _, PySem.W.mg_of X G a22, F22, b22⟩
  have n_int : mg "int" = none := PySem.W.mg_none_of X G z_int
  have n_abs : mg "abs" = none := PySem.W.mg_none_of X G z_abs
  have n_list : mg "list" = none := PySem.W.mg_none_of X G z_list
  have n_len : mg "len" = none := PySem.W.mg_none_of X G z_len
  have n_sum : mg "sum" = none := PySem.W.mg_none_of X G z_sum
  have n_range : mg "range" = none := PySem.W.mg_none_of X G z_range
  have n_isinstance : mg "isinstance" = none := PySem.W.mg_none_of X G z_isinstance
  have n_tuple : mg "tuple" = none := PySem.W.mg_none_of X G z_tuple
  have n_str : mg "str" = none := PySem.W.mg_none_of X G z_str
  have n_bool : mg "bool" = none := PySem.W.mg_none_of X G z_bool
  have n_max : mg "max" = none := PySem.W.mg_none_of X G z_max
  have n_min : mg "min" = none := PySem.W.mg_none_of X G z_min
  have g_MOST_ELEMENTS : ∃ u, mg "MOST_ELEMENTS" = some (.int 2000 u) := ⟨_, PySem.W.mg_of X G z_MOST_ELEMENTS⟩
  have S_TooManyElements : PySem.SupX.SupTxt P K mg "TooManyElements" "count" "too many elements" C_TooManyElements I_TooManyElements := { fok := by first | exact Or.inl rfl | exact Or.inr rfl, gC := PySem.W.mg_of X G c1_TooManyElements, cls := ⟨_, _, _, _, _, _, _, _, _, _, _, _, _, _, _, xL_TooManyElements, by first | rfl | decide +kernel⟩, sa := sa_TooManyElements, ga := ga_TooManyElements, gg := gg_TooManyElements, noN := nb_TooManyElements, iC := a1_TooManyElements, tC := t1_TooManyElements, kC := kC_TooManyElements, exC := eC_TooManyElements, tyC := tC_TooManyElements, hdC := hC_TooManyElements, sup := su_TooManyElements, veC := ve_TooManyElements, slf := sf_TooManyElements, third := z_third, nosup := PySem.W.mg_none_of X G z_super, top := z_top, fn := ⟨_, _, _, _, _, _, _, _, _, _, _, _, _, _, _, _, _, _, _, _, _, _, l1_TooManyElements, e1_TooManyElements, fun env => ⟨_, rfl⟩, ⟨_, _, _, ce_TooManyElements⟩, _, _, _, _, _, _, co_TooManyElements, v2_TooManyElements, fi_TooManyElements⟩ }
  have n_all : mg "all" = none := PySem.W.mg_none_of X G z_all
  have n_enumerate : mg "enumerate" = none := PySem.W.mg_none_of X G z_enumerate
  have S_InvalidInstruction : PySem.SupX.SupTxt P K mg "InvalidInstruction" "place" "invalid instruction" C_InvalidInstruction I_InvalidInstruction := { fok := by first | exact Or.inl rfl | exact Or.inr rfl, gC := PySem.W.mg_of X G c1_InvalidInstruction, cls := ⟨_, _, _, _, _, _, _, _, _, _, _, _, _, _, _, xL_InvalidInstruction, by first | rfl | decide +kernel⟩, sa := sa_InvalidInstruction, ga := ga_InvalidInstruction, gg := gg_InvalidInstruction, noN := nb_InvalidInstruction, iC := a1_InvalidInstruction, tC := t1_InvalidInstruction, kC := kC_InvalidInstruction, exC := eC_InvalidInstruction, tyC := tC_InvalidInstruction, hdC := hC_InvalidInstruction, sup := su_InvalidInstruction, veC := ve_InvalidInstruction, slf := sf_InvalidInstruction, third := z_third, nosup := PySem.W.mg_none_of X G z_super, top := z_top, fn := ⟨_, _, _, _, _, _, _, _, _, _, _, _, _, _, _, _, _, _, _, _, _, _, l1_InvalidInstruction, e1_InvalidInstruction, fun env => ⟨_, rfl⟩, ⟨_, _, _, ce_InvalidInstruction⟩, _, _, _, _, _, _, co_InvalidInstruction, v2_InvalidInstruction, fi_InvalidInstruction⟩ }
  have g_MOST_RESULTS : ∃ u, mg "MOST_RESULTS" = some (.int 200000 u) := ⟨_, PySem.W.mg_of X G z_MOST_RESULTS⟩
  have S_RecipeTooLarge : PySem.SupX.SupTxt P K mg "RecipeTooLarge" "place" "recipe too large" C_RecipeTooLarge I_RecipeTooLarge := { fok := by first | exact Or.inl rfl | exact Or.inr rfl, gC := PySem.W.mg_of X G c1_RecipeTooLarge, cls := ⟨_, _, _, _, _, _, _, _, _, _, _, _, _, _, _, xL_RecipeTooLarge, by first | rfl | decide +kernel⟩, sa := sa_RecipeTooLarge, ga := ga_RecipeTooLarge, gg := gg_RecipeTooLarge, noN := nb_RecipeTooLarge, iC := a1_RecipeTooLarge, tC := t1_RecipeTooLarge, kC := kC_RecipeTooLarge, exC := eC_RecipeTooLarge, tyC := tC_RecipeTooLarge, hdC := hC_RecipeTooLarge, sup := su_RecipeTooLarge, veC := ve_RecipeTooLarge, slf := sf_RecipeTooLarge, third := z_third, nosup := PySem.W.mg_none_of X G z_super, top := z_top, fn := ⟨_, _, _, _, _, _, _, _, _, _, _, _, _, _, _, _, _, _, _, _, _, _, l1_RecipeTooLarge, e1_RecipeTooLarge, fun env => ⟨_, rfl⟩, ⟨_, _, _, ce_RecipeTooLarge⟩, _, _, _, _, _, _, co_RecipeTooLarge, v2_RecipeTooLarge, fi_RecipeTooLarge⟩ }
  have X_InvalidInstruction : ClsX K C_InvalidInstruction ∧ PySem.W.exmOne K (.ref C_InvalidInstruction) (.ref C_InvalidInstruction) = some true := ⟨⟨iC_InvalidInstruction, ga_InvalidInstruction, gg_InvalidInstruction, eC_InvalidInstruction, hC_InvalidInstruction, hk_InvalidInstruction, hs_InvalidInstruction, ht_InvalidInstruction, hm_InvalidInstruction⟩, PySem.W.exm_ref eC_InvalidInstruction hC_InvalidInstruction tC_InvalidInstruction sC_InvalidInstruction⟩
  have K_InvalidInstruction_InvalidInstruction := kk_InvalidInstruction_InvalidInstruction
  have gc_InvalidInstruction : mg "InvalidInstruction" = some (.ref C_InvalidInstruction) := PySem.W.mg_of X G c1_InvalidInstruction
  have K_InvalidInstruction_TooManyElements := kk_InvalidInstruction_TooManyElements
  have gc_TooManyElements : mg "TooManyElements" = some (.ref C_TooManyElements) := PySem.W.mg_of X G c1_TooManyElements
  have K_InvalidInstruction_RecipeTooLarge := kk_InvalidInstruction_RecipeTooLarge
  have gc_RecipeTooLarge : mg "RecipeTooLarge" = some (.ref C_RecipeTooLarge) := PySem.W.mg_of X G c1_RecipeTooLarge
  have K_InvalidInstruction_ValueError := kk_InvalidInstruction_ValueError
  have n_ValueError : mg "ValueError" = none := PySem.W.mg_none_of X G z_ValueError
  have K_InvalidInstruction_ShapeError := kk_InvalidInstruction_ShapeError
  have gc_ShapeError : mg "ShapeError" = some (.ref C_ShapeError) := PySem.W.mg_of X G c1_ShapeError
  have X_TooManyElements : ClsX K C_TooManyElements ∧ PySem.W.exmOne K (.ref C_TooManyElements) (.ref C_TooManyElements) = some true := ⟨⟨iC_TooManyElements, ga_TooManyElements, gg_TooManyElements, eC_TooManyElements, hC_TooManyElements, hk_TooManyElements, hs_TooManyElements, ht_TooManyElements, hm_TooManyElements⟩, PySem.W.exm_ref eC_TooManyElements hC_TooManyElements tC_TooManyElements sC_TooManyElements⟩
  have K_TooManyElements_InvalidInstruction := kk_TooManyElements_InvalidInstruction
  have K_TooManyElements_TooManyElements := kk_TooManyElements_TooManyElements
  have K_TooManyElements_RecipeTooLarge := kk_TooManyElements_RecipeTooLarge
  have K_TooManyElements_ValueError := kk_TooManyElements_ValueError
  have K_TooManyElements_ShapeError := kk_TooManyElements_ShapeError
  have X_RecipeTooLarge : ClsX K C_RecipeTooLarge ∧ PySem.W.exmOne K (.ref C_RecipeTooLarge) (.ref C_RecipeTooLarge) = some true := ⟨⟨iC_RecipeTooLarge, ga_RecipeTooLarge, gg_RecipeTooLarge, eC_RecipeTooLarge, hC_RecipeTooLarge, hk_RecipeTooLarge, hs_RecipeTooLarge, ht_RecipeTooLarge, hm_RecipeTooLarge⟩, PySem.W.exm_ref eC_RecipeTooLarge hC_RecipeTooLarge tC_RecipeTooLarge sC_RecipeTooLarge⟩
  have K_RecipeTooLarge_InvalidInstruction := kk_RecipeTooLarge_InvalidInstruction
  have K_RecipeTooLarge_TooManyElements := kk_RecipeTooLarge_TooManyElements
  have K_RecipeTooLarge_RecipeTooLarge := kk_RecipeTooLarge_RecipeTooLarge
  have K_RecipeTooLarge_ValueError := kk_RecipeTooLarge_ValueError
  have K_RecipeTooLarge_ShapeError := kk_RecipeTooLarge_ShapeError
  have E_TooManyElements_InvalidInstruction := PySem.W.exm_ref eC_InvalidInstruction hC_InvalidInstruction tC_InvalidInstruction ee_TooManyElements_InvalidInstruction
  have E_RecipeTooLarge_InvalidInstruction := PySem.W.exm_ref eC_InvalidInstruction hC_InvalidInstruction tC_InvalidInstruction ee_RecipeTooLarge_InvalidInstruction
  have E_RecipeTooLarge_TooManyElements := PySem.W.exm_ref eC_TooManyElements hC_TooManyElements tC_TooManyElements ee_RecipeTooLarge_TooManyElements
  have e := hfa.symm.trans (PySem.W.mg_of X G a22)
  cases e
  refine ⟨PySem.W.fnOf "law" "law" (defArgs s_law) (defBody s_law) (defScope s_law) .none kV22 dc22 pm22 an22 cd22 ct22, fun s v => .of_eq rfl, fun base _ _ => ?_⟩
  have C_law_tape : Cal P w K mg base "_law_tape" 1 m_law_tape := c_law_tape G_law_tape n_int n_abs n_list
  have C_law_length : Cal P w K mg base "_law_length" 1 m_law_length := c_law_length G_law_length n_len n_sum
  have C_law_outcome : Cal P w K mg base "_law_outcome" 2 m_law_outcome := c_law_outcome G_law_outcome C_law_length n_len n_range n_sum
  have C_law_alike : Cal P w K mg base "_law_alike" 40 (m_law_alike 40) := (c_law_alike G_law_alike n_isinstance n_tuple n_len n_range n_str n_bool n_int 40)
  have C_law_draw : Cal P w K mg base "_law_draw" 1 m_law_draw := c_law_draw G_law_draw n_len n_int n_abs n_max
  have C_law_sign : Cal P w K mg base "_law_sign" 2 m_law_sign := c_law_sign G_law_sign C_law_draw
  have C_law_word : Cal P w K mg base "_law_word" 3 m_law_word := c_law_word G_law_word C_law_draw C_law_sign n_range
  have C_law_scalar : Cal P w K mg base "_law_scalar" 4 m_law_scalar := c_law_scalar G_law_scalar C_law_draw C_law_word
  have C_law_element : Cal P w K mg base "_law_element" 5 m_law_element := c_law_element G_law_element C_law_scalar C_law_draw
  have C_law_contents : Cal P w K mg base "_law_contents" 6 m_law_contents := c_law_contents G_law_contents C_law_draw C_law_element n_range n_len
  have C_law_step : Cal P w K mg base "_law_step" 6 m_law_step := c_law_step G_law_step C_law_draw C_law_element n_len n_min n_range n_tuple n_sum
  have C_law_bad : Cal P w K mg base "_law_bad" 2 m_law_bad := c_law_bad G_law_bad C_law_draw n_len n_max
  have C_result_length : Cal P w K mg base "result_length" 1 m_result_length := c_result_length G_result_length n_len n_sum
  have C_check_count : Cal P w K mg base "check_count" 1 m_check_count := c_check_count G_check_count g_MOST_ELEMENTS S_TooManyElements
  have C_is_valid : Cal P w K mg base "is_valid" 1 m_is_valid := c_is_valid G_is_valid n_len n_all
  have C_result_of : Cal P w K mg base "result_of" 1 m_result_of := c_result_of G_result_of n_tuple
  have C_run_recipe : CalK P w K mg base "run_recipe" "bases" 2 m_run_recipe := c_run_recipe G_run_recipe C_is_valid C_result_length C_check_count C_result_of n_enumerate S_InvalidInstruction g_MOST_RESULTS S_RecipeTooLarge
  have C_law_alone : CalEs P w K mg base "_law_alone" [C_InvalidInstruction, C_TooManyElements, C_RecipeTooLarge] 1  := c_law_alone G_law_alone X_InvalidInstruction K_InvalidInstruction_InvalidInstruction n_isinstance gc_InvalidInstruction n_int K_InvalidInstruction_TooManyElements gc_TooManyElements K_InvalidInstruction_RecipeTooLarge gc_RecipeTooLarge K_InvalidInstruction_ValueError n_ValueError K_InvalidInstruction_ShapeError gc_ShapeError X_TooManyElements K_TooManyElements_InvalidInstruction K_TooManyElements_TooManyElements K_TooManyElements_RecipeTooLarge K_TooManyElements_ValueError K_TooManyElements_ShapeError X_RecipeTooLarge K_RecipeTooLarge_InvalidInstruction K_RecipeTooLarge_TooManyElements K_RecipeTooLarge_RecipeTooLarge K_RecipeTooLarge_ValueError K_RecipeTooLarge_ShapeError
  have C_law_told : Cal P w K mg base "_law_told" 3 m_law_told := c_law_told G_law_told C_run_recipe C_law_alone X_InvalidInstruction S_InvalidInstruction X_TooManyElements S_TooManyElements X_RecipeTooLarge S_RecipeTooLarge E_TooManyElements_InvalidInstruction E_RecipeTooLarge_InvalidInstruction E_RecipeTooLarge_TooManyElements n_isinstance n_tuple n_len
  have C_law_result : Cal P w K mg base "_law_result" 1 m_law_result := c_law_result G_law_result
  have C_law_given : Cal P w K mg base "_law_given" 1 m_law_given := c_law_given G_law_given n_tuple
  exact fn_ok F22 sc_law (c_law_body C_law_tape C_law_draw C_law_contents C_law_step C_law_result C_law_bad C_law_outcome C_law_given C_law_told C_law_alike n_range n_len n_min n_tuple)
end Law
open PySem PySem.W PyProof.Rows
theorem PySem.Challenge.cw_sameshape_k36_recipes_that_are_refused_holds : PySem.Challenge.rw_sameshape_k36_recipes_that_are_refused.Holds := by
  w_on; o_law; k_head; (case hw => w_witness2)
  k_fill
  refine ML.law_end (l := PySem.Challenge.rw_sameshape_k36_recipes_that_are_refused) (k := 41) (x := "_law_script") (m := Law.m_law) rfl rfl ⟨rfl, by decide, by decide⟩ (fun w h Y => PySem.W.kIn_of Y) Law.law_true ?F
  case F =>
    intro w mg fa h KX G hmg
    refine' Law.all_mk KX G hmg ?a1 ?l1 ?e1 ?k1 ?a2 ?l2 ?e2 ?k2 ?a3 ?l3 ?e3 ?k3 ?a4 ?l4 ?e4 ?k4 ?a5 ?l5 ?e5 ?k5 ?a6 ?l6 ?e6 ?k6 ?a7 ?l7 ?e7 ?k7 ?a8 ?l8 ?e8 ?k8 ?a9 ?l9 ?e9 ?k9 ?a10 ?l10 ?e10 ?k10 ?a11 ?l11 ?e11 ?k11 ?a12 ?l12 ?e12 ?k12 ?a13 ?l13 ?e13 ?k13 ?a14 ?l14 ?e14 ?k14 ?a15 ?l15 ?e15 ?k15 ?a16 ?l16 ?e16 ?k16 ?a17 ?l17 ?e17 ?k17 ?kd17 ?kt17 ?a18 ?l18 ?e18 ?k18 ?a19 ?l19 ?e19 ?k19 ?a20 ?l20 ?e20 ?k20 ?a21 ?l21 ?e21 ?k21 ?a22 ?l22 ?e22 ?k22 ?z_int ?z_abs ?z_list ?z_len ?z_sum ?z_range ?z_isinstance ?z_tuple ?z_str ?z_bool ?z_max ?z_min ?z_MOST_ELEMENTS ?z_all ?z_enumerate ?z_MOST_RESULTS ?z_ValueError ?z_third ?z_super ?z_top ?c1_TooManyElements ?xL_TooManyElements ?sa_TooManyElements ?nb_TooManyElements ?a1_TooManyElements ?t1_TooManyElements ?su_TooManyElements ?ve_TooManyElements ?sf_TooManyElements ?l1_TooManyElements ?e1_TooManyElements ?ce_TooManyElements ?co_TooManyElements ?v2_TooManyElements ?fi_TooManyElements ?ga_TooManyElements ?gg_TooManyElements ?hC_TooManyElements ?kC_TooManyElements ?eC_TooManyElements ?tC_TooManyElements ?iC_TooManyElements ?hk_TooManyElements ?hs_TooManyElements ?ht_TooManyElements ?hm_TooManyElements ?sC_TooManyElements ?c1_InvalidInstruction ?xL_InvalidInstruction ?sa_InvalidInstruction ?nb_InvalidInstruction ?a1_InvalidInstruction ?t1_InvalidInstruction ?su_InvalidInstruction ?ve_InvalidInstruction ?sf_InvalidInstruction ?l1_InvalidInstruction ?e1_InvalidInstruction ?ce_InvalidInstruction ?co_InvalidInstruction ?v2_InvalidInstruction ?fi_InvalidInstruction ?ga_InvalidInstruction ?gg_InvalidInstruction ?hC_InvalidInstruction ?kC_InvalidInstruction ?eC_InvalidInstruction ?tC_InvalidInstruction ?iC_InvalidInstruction ?hk_InvalidInstruction ?hs_InvalidInstruction ?ht_InvalidInstruction ?hm_InvalidInstruction ?sC_InvalidInstruction ?c1_RecipeTooLarge ?xL_RecipeTooLarge ?sa_RecipeTooLarge ?nb_RecipeTooLarge ?a1_RecipeTooLarge ?t1_RecipeTooLarge ?su_RecipeTooLarge ?ve_RecipeTooLarge ?sf_RecipeTooLarge ?l1_RecipeTooLarge ?e1_RecipeTooLarge ?ce_RecipeTooLarge ?co_RecipeTooLarge ?v2_RecipeTooLarge ?fi_RecipeTooLarge ?ga_RecipeTooLarge ?gg_RecipeTooLarge ?hC_RecipeTooLarge ?kC_RecipeTooLarge ?eC_RecipeTooLarge ?tC_RecipeTooLarge ?iC_RecipeTooLarge ?hk_RecipeTooLarge ?hs_RecipeTooLarge ?ht_RecipeTooLarge ?hm_RecipeTooLarge ?sC_RecipeTooLarge ?c1_ShapeError ?kk_InvalidInstruction_InvalidInstruction ?kk_InvalidInstruction_TooManyElements ?kk_InvalidInstruction_RecipeTooLarge ?kk_InvalidInstruction_ValueError ?kk_InvalidInstruction_ShapeError ?kk_TooManyElements_InvalidInstruction ?kk_TooManyElements_TooManyElements ?kk_TooManyElements_RecipeTooLarge ?kk_TooManyElements_ValueError ?kk_TooManyElements_ShapeError ?kk_RecipeTooLarge_InvalidInstruction ?kk_RecipeTooLarge_TooManyElements ?kk_RecipeTooLarge_RecipeTooLarge ?kk_RecipeTooLarge_ValueError ?kk_RecipeTooLarge_ShapeError ?ee_TooManyElements_InvalidInstruction ?ee_RecipeTooLarge_InvalidInstruction ?ee_RecipeTooLarge_TooManyElements
    (case a1 => k_is); (case l1 => k_is); (case e1 => k_is); (case k1 => k_is); (case a2 => k_is); (case l2 => k_is); (case e2 => k_is); (case k2 => k_is); (case a3 => k_is); (case l3 => k_is); (case e3 => k_is); (case k3 => k_is); (case a4 => k_is); (case l4 => k_is); (case e4 => k_is); (case k4 => k_is); (case a5 => k_is); (case l5 => k_is); (case e5 => k_is); (case k5 => k_is); (case a6 => k_is); (case l6 => k_is); (case e6 => k_is); (case k6 => k_is); (case a7 => k_is); (case l7 => k_is); (case e7 => k_is); (case k7 => k_is); (case a8 => k_is); (case l8 => k_is); (case e8 => k_is); (case k8 => k_is); (case a9 => k_is); (case l9 => k_is); (case e9 => k_is); (case k9 => k_is); (case a10 => k_is); (case l10 => k_is); (case e10 => k_is); (case k10 => k_is); (case a11 => k_is); (case l11 => k_is); (case e11 => k_is); (case k11 => k_is); (case a12 => k_is); (case l12 => k_is); (case e12 => k_is); (case k12 => k_is); (case a13 => k_is); (case l13 => k_is); (case e13 => k_is); (case k13 => k_is); (case a14 => k_is); (case l14 => k_is); (case e14 => k_is); (case k14 => k_is); (case a15 => k_is); (case l15 => k_is); (case e15 => k_is); (case k15 => k_is); (case a16 => k_is); (case l16 => k_is); (case e16 => k_is); (case k16 => k_is); (case a17 => k_is); (case l17 => k_is); (case e17 => k_is); (case k17 => k_is); (case kd17 => k_is); (case kt17 => k_is); (case a18 => k_is); (case l18 => k_is); (case e18 => k_is); (case k18 => k_is); (case a19 => k_is); (case l19 => k_is); (case e19 => k_is); (case k19 => k_is); (case a20 => k_is); (case l20 => k_is); (case e20 => k_is); (case k20 => k_is); (case a21 => k_is); (case l21 => k_is); (case e21 => k_is); (case k21 => k_is); (case a22 => k_is); (case l22 => k_is); (case e22 => k_is); (case k22 => k_is); (case z_int => k_is); (case z_abs => k_is); (case z_list => k_is); (case z_len => k_is); (case z_sum => k_is); (case z_range => k_is); (case z_isinstance => k_is); (case z_tuple => k_is); (case z_str => k_is); (case z_bool => k_is); (case z_max => k_is); (case z_min => k_is); (case z_MOST_ELEMENTS => k_is); (case z_all => k_is); (case z_enumerate => k_is); (case z_MOST_RESULTS => k_is); (case z_ValueError => k_is); (case z_third => k_is); (case z_super => k_is); (case z_top => first | rfl | decide +kernel); (case c1_TooManyElements => k_is); (case xL_TooManyElements => k_is); (case sa_TooManyElements => k_is); (case nb_TooManyElements => k_is); (case a1_TooManyElements => k_is); (case t1_TooManyElements => k_is); (case su_TooManyElements => ks_is); (case ve_TooManyElements => k_is); (case sf_TooManyElements => k_is); (case l1_TooManyElements => k_is); (case e1_TooManyElements => k_is); (case ce_TooManyElements => k_is); (case co_TooManyElements => k_is); (case v2_TooManyElements => rfl); (case fi_TooManyElements => first | rfl | decide +kernel); (case ga_TooManyElements => k_is); (case gg_TooManyElements => k_is); (case hC_TooManyElements => k_is); (case kC_TooManyElements => k_is); (case eC_TooManyElements => k_is); (case tC_TooManyElements => k_is); (case iC_TooManyElements => k_is); (case hk_TooManyElements => k_is); (case hs_TooManyElements => k_is); (case ht_TooManyElements => k_is); (case hm_TooManyElements => k_is); (case sC_TooManyElements => first | rfl | k_is); (case c1_InvalidInstruction => k_is); (case xL_InvalidInstruction => k_is); (case sa_InvalidInstruction => k_is); (case nb_InvalidInstruction => k_is); (case a1_InvalidInstruction => k_is); (case t1_InvalidInstruction => k_is); (case su_InvalidInstruction => ks_is); (case ve_InvalidInstruction => k_is); (case sf_InvalidInstruction => k_is); (case l1_InvalidInstruction => k_is); (case e1_InvalidInstruction => k_is); (case ce_InvalidInstruction => k_is); (case co_InvalidInstruction => k_is); (case v2_InvalidInstruction => rfl); (case fi_InvalidInstruction => first | rfl | decide +kernel); (case ga_InvalidInstruction => k_is); (case gg_InvalidInstruction => k_is); (case hC_InvalidInstruction => k_is); (case kC_InvalidInstruction => k_is); (case eC_InvalidInstruction => k_is); (case tC_InvalidInstruction => k_is); (case iC_InvalidInstruction => k_is); (case hk_InvalidInstruction => k_is); (case hs_InvalidInstruction => k_is); (case ht_InvalidInstruction => k_is); (case hm_InvalidInstruction => k_is); (case sC_InvalidInstruction => first | rfl | k_is); (case c1_RecipeTooLarge => k_is); (case xL_RecipeTooLarge => k_is); (case sa_RecipeTooLarge => k_is); (case nb_RecipeTooLarge => k_is); (case a1_RecipeTooLarge => k_is); (case t1_RecipeTooLarge => k_is); (case su_RecipeTooLarge => ks_is); (case ve_RecipeTooLarge => k_is); (case sf_RecipeTooLarge => k_is); (case l1_RecipeTooLarge => k_is); (case e1_RecipeTooLarge => k_is); (case ce_RecipeTooLarge => k_is); (case co_RecipeTooLarge => k_is); (case v2_RecipeTooLarge => rfl); (case fi_RecipeTooLarge => first | rfl | decide +kernel); (case ga_RecipeTooLarge => k_is); (case gg_RecipeTooLarge => k_is); (case hC_RecipeTooLarge => k_is); (case kC_RecipeTooLarge => k_is); (case eC_RecipeTooLarge => k_is); (case tC_RecipeTooLarge => k_is); (case iC_RecipeTooLarge => k_is); (case hk_RecipeTooLarge => k_is); (case hs_RecipeTooLarge => k_is); (case ht_RecipeTooLarge => k_is); (case hm_RecipeTooLarge => k_is); (case sC_RecipeTooLarge => first | rfl | k_is); (case c1_ShapeError => k_is); (case kk_InvalidInstruction_InvalidInstruction => first | k_is | rfl); (case kk_InvalidInstruction_TooManyElements => first | k_is | rfl); (case kk_InvalidInstruction_RecipeTooLarge => first | k_is | rfl); (case kk_InvalidInstruction_ValueError => first | k_is | rfl); (case kk_InvalidInstruction_ShapeError => first | k_is | rfl); (case kk_TooManyElements_InvalidInstruction => first | k_is | rfl); (case kk_TooManyElements_TooManyElements => first | k_is | rfl); (case kk_TooManyElements_RecipeTooLarge => first | k_is | rfl); (case kk_TooManyElements_ValueError => first | k_is | rfl); (case kk_TooManyElements_ShapeError => first | k_is | rfl); (case kk_RecipeTooLarge_InvalidInstruction => first | k_is | rfl); (case kk_RecipeTooLarge_TooManyElements => first | k_is | rfl); (case kk_RecipeTooLarge_RecipeTooLarge => first | k_is | rfl); (case kk_RecipeTooLarge_ValueError => first | k_is | rfl); (case kk_RecipeTooLarge_ShapeError => first | k_is | rfl); (case ee_TooManyElements_InvalidInstruction => first | k_is | rfl); (case ee_RecipeTooLarge_InvalidInstruction => first | k_is | rfl); (case ee_RecipeTooLarge_TooManyElements => first | k_is | rfl)
