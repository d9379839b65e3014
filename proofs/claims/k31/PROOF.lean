import PyProof.Rows.All
import Wide.All
import OpenK.AllK
import Wide.FinOn
import HandS.ForMost
import HandS.ForExc
import HandS.Wide
import HandS.WideBits
import HandS.TupAny
import HandS.TupMul
import HandS.IsInst
import HandS.CallSlots
import HandS.Zip
import HandS.Rev
import HandS.Style
import HandS.Dict
import KE.KeyNested
import KE.KDictKeyed
import HandS.Lambda
import HandS.EndBits
import KE.KExcSuper
import KE.KSuper
import KE.KExcIs
import HandS.ExcField
import HandS.ExcIs
import HandS.TryMany
import HandS.Conv
import KE.GoesEnum
import HandS.HotCalls
import HandS.GenList
import PyProof.TupleOfGen
import PyProof.CollectWalk
import KE.GoesEnumKw
import HandS.TupLen
import HandS.Deep
import HandS.More
import HandS.SortInts
import KE.KDictWalk
import HandS.SortKw
import KE.SortKeyHeap
import PyProof.TupleOfSeq
import PyProof.ReprRoads
import PyProof.ReprText
import KE.LtData
import KE.DataCmp
import PyProof.FactsAll.tuple_2
import HandS.DictTup
import KE.KDictItemsList
import KE.KDictPairs
import HandS.EndTab
import HandS.Property
import HandS.NamedTupGet
import HandS.Defaults
import PyProof.SeqIndex
import PyProof.FactsAll.tuple_3
import PyProof.MaxThree
import PySem.Challenge.RW_sameshape_k31_settlements_as_they_come
set_option Elab.async false
set_option linter.all false
set_option maxRecDepth 100000
set_option maxHeartbeats 8000000
namespace ML
open PySem PySem.Spec L2
inductive A where
  | non | bl (b : Bool) | int (i : Int) | str (x : Str) | tup (xs : List A) | scr (xs : List A) | ref (i : Nat)
inductive Ob2 where
  | dct (kvs : List (PySem.NestedKey × A))
  | frd (kvs : List (PySem.NestedKey × A))
  | ins (cls : Str) (fs : List (Str × A))
  | tab (n : Str)
inductive Ob where
  | lst (xs : List A)
  | oth (u : Ob2)
structure Er where
  cls : Str
  fs : List (Str × A)
inductive R (α : Type) where
  | ok (a : α) (st : List Ob) | er (e : Er) (st : List Ob) | bad
abbrev Store := List Ob
abbrev Env := List (Option A)
def R.bind {α β : Type} (r : R α) (f : α → Store → R β) : R β := match r with
  | .ok a st => f a st
  | .er e st => .er e st
  | .bad => .bad
abbrev MX := Env → Store → R A
abbrev MT := Env → Store → R Bool
abbrev MA := Env → Store → R (List A)
def KTup (K : PySem.W.Frag) (a : Addr) (xs : List V) : Prop := ∃ (o : Obj) (its : Array Value) (n : Nat), K.lookup a = some o ∧ o.cls = .type "tuple" ∧ o.dict = none ∧ o.data = .seq its n ∧ its.size ≤ sizeLine ∧ Vals xs its.toList
def KLst (K : PySem.W.Frag) (a : Addr) (xs : List V) : Prop := ∃ (o : Obj) (its : Array Value) (n : Nat), K.lookup a = some o ∧ o.cls = .type "list" ∧ o.dict = none ∧ o.data = .seq its n ∧ its.size ≤ sizeLine ∧ Vals xs its.toList
def HPl (H : Hp) (a : Addr) (xs : List V) : Prop := ∃ o : Obj, o.dict = none ∧ H a = some (.frz o (.tup xs))
def StT (K : PySem.W.Frag) (φ : List Addr) (H : Hp) (a : Addr) (xs : List V) : Prop := (HPl H a xs ∧ a ∉ φ) ∨ KTup K a xs
abbrev NewT (H : Hp) (xs : List V) (Q : V → Hp → Prop) : Prop := ∀ (p : Addr) (o : Obj), o.dict = none → H p = none → Q (.ref p) (upd H p (.frz o (.tup xs)))
def StL (K : PySem.W.Frag) (φ : List Addr) (H : Hp) (a : Addr) (xs : List V) : Prop := ((∃ o, H a = some (.frz o (.lst xs))) ∧ a ∉ φ) ∨ KLst K a xs
mutual
inductive RV (K : PySem.W.Frag) (φ : List Addr) (H : Hp) : V → A → Prop
  | non : RV K φ H .non .non
  | bl (b : Bool) : RV K φ H (.bl b) (.bl b)
  | int (i : Int) : RV K φ H (.int i) (.int i)
  | str (x : Str) : RV K φ H (.str x) (.str x)
  | tup {a : Addr} {xs : List V} {ds : List A} : StT K φ H a xs → RVs K φ H xs ds → RV K φ H (.ref a) (.tup ds)
  | scr {a : Addr} {xs : List V} {ds : List A} : StL K φ H a xs → RVs K φ H xs ds → RV K φ H (.ref a) (.scr ds)
  | ref {a : Addr} {i : Nat} : φ[i]? = some a → RV K φ H (.ref a) (.ref i)
inductive RVs (K : PySem.W.Frag) (φ : List Addr) (H : Hp) : List V → List A → Prop
  | nil : RVs K φ H [] []
  | cons {v : V} {vs : List V} {d : A} {ds : List A} : RV K φ H v d → RVs K φ H vs ds → RVs K φ H (v :: vs) (d :: ds)
end
mutual
def aOf : PySem.NestedKey → A
  | .none => .non
  | .num i => .int i
  | .text x => .str x
  | .tup ks => .tup (aOfs ks)
def aOfs : List PySem.NestedKey → List A
  | [] => []
  | k :: ks => aOf k :: aOfs ks
end
mutual
def keyOf : A → Option PySem.NestedKey
  | .non => some .none
  | .int i => some (.num i)
  | .str x => some (.text x)
  | .tup xs => match keysOf xs with
    | some ks => some (.tup ks)
    | none => none
  | _ => none
def keysOf : List A → Option (List PySem.NestedKey)
  | [] => some []
  | x :: xs => match keyOf x, keysOf xs with
    | some k, some ks => some (k :: ks)
    | _, _ => none
end
def nk : Key → PySem.NestedKey
  | .inl i => .num i
  | .inr x => .text x
def DRaw (w : World) (a : Addr) (xs : List (PySem.NestedKey × Addr × Value)) (h : Heap) : Prop :=
  ∃ o es ep, h.get? a = some o ∧ o.ExactDict ∧ o.data = .dict es ep ∧ es.toList = xs.map (fun x => ⟨x.1.hash w, .ref x.2.1, x.2.2⟩) ∧ (xs.map (·.1)).Nodup
def RDk (K : PySem.W.Frag) (φ : List Addr) (H : Hp) (a : Addr) (kvs : List (PySem.NestedKey × A)) : Prop :=
  ∃ ks : List (Key × V), H a = some (.dK ks) ∧ kvs.map (·.1) = ks.map (fun x => nk x.1) ∧ RVs K φ H (ks.map (·.2)) (kvs.map (·.2))
def RDt (K : PySem.W.Frag) (w : World) (φ : List Addr) (H : Hp) (a : Addr) (kvs : List (PySem.NestedKey × A)) : Prop :=
  ∃ (xs : List (PySem.NestedKey × Addr × Value)) (vs : List V), kvs ≠ [] ∧ H a = some (.ext (DRaw w a xs)) ∧ (a == sysModules) = false ∧ xs.length ≤ sizeLine ∧ xs.map (·.1) = kvs.map (·.1) ∧
    (∀ x ∈ xs, RV K φ H (.ref x.2.1) (aOf x.1) ∧ x.1.depth ≤ 8) ∧ Vals vs (xs.map (·.2.2)) ∧ RVs K φ H vs (kvs.map (·.2))
def RDz (K : PySem.W.Frag) (w : World) (φ : List Addr) (H : Hp) (od : Obj) (a : Addr) (kvs : List (PySem.NestedKey × A)) : Prop :=
  ∃ (xs : List (PySem.NestedKey × Addr × Value)) (vs : List V), kvs ≠ [] ∧ H a = some (.frz od (.ext (DRaw w a xs))) ∧ (a == sysModules) = false ∧ xs.length ≤ sizeLine ∧ xs.map (·.1) = kvs.map (·.1) ∧
    (∀ x ∈ xs, RV K φ H (.ref x.2.1) (aOf x.1) ∧ x.1.depth ≤ 8) ∧ Vals vs (xs.map (·.2.2)) ∧ RVs K φ H vs (kvs.map (·.2))
def TabIs (K : PySem.W.Frag) (mg : Str → Option Value) (n : Str) (p : Addr) : Prop := ∃ (f c : Addr) (fo co : Obj) (fd : FuncData) (vs : Array Value),
  mg n = some (.ref f) ∧ K.lookup f = some fo ∧ fo.data = .func fd ∧ fd.code = .ref c ∧ K.lookup c = some co ∧ co.data = .fields vs ∧ vs[11]? = some (.ref p)
def RO2 (K : PySem.W.Frag) (w : World) (mg : Str → Option Value) (φ : List Addr) (H : Hp) (a : Addr) : Ob2 → Prop
  | .dct kvs => RDk K φ H a kvs ∨ RDt K w φ H a kvs
  | .frd kvs => (∃ (od : Obj) (ks : List (Key × V)), H a = some (.frz od (.dK ks)) ∧ kvs.map (·.1) = ks.map (fun x => nk x.1) ∧ RVs K φ H (ks.map (·.2)) (kvs.map (·.2))) ∨ ∃ od, RDz K w φ H od a kvs
  | .ins cls fs => ∃ (C dx : Addr) (vs : List V), mg cls = some (.ref C) ∧ H a = some (.ins C dx ((fs.map (·.1)).zip vs)) ∧ H dx = some (.own a) ∧ dx ∉ φ ∧ RVs K φ H vs (fs.map (·.2))
  | .tab n => TabIs K mg n a ∧ ∃ ps : Array Value, H a = some (.tbl ps) ∧ PySem.TriplesOk ps.toList ∧ ∀ (pos : Pos) (cv : Value), codeAmong pos ps.toList = some cv → ∃ c, cv = .ref c ∧ H c = some (LamX.CodeO c (n ++ ".<locals>." ++ "<lambda>")) ∧ c ∉ φ
def RO (K : PySem.W.Frag) (w : World) (mg : Str → Option Value) (φ : List Addr) (H : Hp) (a : Addr) : Ob → Prop
  | .lst ds => ∃ xs, H a = some (.lst xs) ∧ RVs K φ H xs ds
  | .oth u => RO2 K w mg φ H a u
structure RS (K : PySem.W.Frag) (w : World) (mg : Str → Option Value) (φ : List Addr) (H : Hp) (st : Store) : Prop where
  len : φ.length = st.length
  nd : φ.Nodup
  all : ∀ (i : Nat) (a : Addr) (o : Ob), φ[i]? = some a → st[i]? = some o → RO K w mg φ H a o
structure Ext (φ : List Addr) (H : Hp) (φ' : List Addr) (H' : Hp) : Prop where
  pre : ∃ t, φ' = φ ++ t
  fr : ∀ a o, a ∉ φ → H a = some o → H' a = some o ∧ a ∉ φ'
  fz : ∀ a o u, H a = some (.frz o u) → H' a = some (.frz o u)
structure RE (K : PySem.W.Frag) (φ : List Addr) (H : Hp) (σ : St) (ρ : Env) : Prop where
  len : σ.length = ρ.length
  all : ∀ (i : Nat) (d : A), ρ[i]? = some (some d) → ∃ v, σ[i]? = some (some v) ∧ RV K φ H v d
def RErr (K : PySem.W.Frag) (mg : Str → Option Value) (φ : List Addr) (H : Hp) (c : Value) (d : Option Addr) (e : Er) : Prop :=
  mg e.cls = some c ∧ ((e.fs = [] ∧ d = none) ∨ ∃ dx xs, d = some dx ∧ H dx = some (.xd xs) ∧ dx ∉ φ ∧ xs.map (·.1) = e.fs.map (·.1) ∧ RVs K φ H (xs.map (·.2)) (e.fs.map (·.2)))
section
variable {K : PySem.W.Frag} {w : World} {φ φ' φ2 : List Addr} {H H' H2 : Hp} {st : Store} {σ : St} {ρ : Env} {mg : Str → Option Value}
theorem Ext.refl : Ext φ H φ H := ⟨⟨[], by simp⟩, fun a o n h => ⟨h, n⟩, fun _ _ _ h => h⟩
theorem Ext.trans (a : Ext φ H φ' H') (b : Ext φ' H' φ2 H2) : Ext φ H φ2 H2 := by
  obtain ⟨⟨t, rfl⟩, f1, z1⟩ := a
  obtain ⟨⟨u, rfl⟩, f2, z2⟩ := b
  refine ⟨⟨t ++ u, by simp⟩, fun a o n h => ?_, fun a o u h => z2 _ _ _ (z1 _ _ _ h)⟩
  obtain ⟨h1, n1⟩ := f1 a o n h
  exact f2 a o n1 h1
theorem Ext.get (e : Ext φ H φ' H') {i : Nat} {a : Addr} (h : φ[i]? = some a) : φ'[i]? = some a := by
  obtain ⟨t, rfl⟩ := e.pre
  rw [List.getElem?_append_left (List.getElem?_eq_some_iff.mp h).1]
  exact h
theorem StT.sq {a : Addr} {xs : List V} (h : StT K φ H a xs) : SqT K H a xs := h.elim (fun ⟨⟨o, _, x⟩, _⟩ => .inl (.inr ⟨o, x⟩)) fun ⟨o, its, n, h1, h2, _, h3, h4, h5⟩ => .inr ⟨o, its, n, h1, h2, h3, h4, h5⟩
theorem StL.sq {a : Addr} {xs : List V} (h : StL K φ H a xs) : SqL K H a xs := h.elim (fun ⟨⟨o, x⟩, _⟩ => .inl (.inr ⟨o, x⟩)) .inr
theorem StT.ext {a : Addr} {xs : List V} (h : StT K φ H a xs) (e : Ext φ H φ' H') : StT K φ' H' a xs := by
  rcases h with ⟨⟨o, hd, h⟩, n⟩ | h
  · obtain ⟨x, m⟩ := e.fr _ _ n h
    exact .inl ⟨⟨o, hd, x⟩, m⟩
  · exact .inr h
theorem StL.ext {a : Addr} {xs : List V} (h : StL K φ H a xs) (e : Ext φ H φ' H') : StL K φ' H' a xs := by
  rcases h with ⟨⟨o, h⟩, n⟩ | h
  · obtain ⟨x, m⟩ := e.fr _ _ n h
    exact .inl ⟨⟨o, x⟩, m⟩
  · exact .inr h
mutual
theorem RV.ext (e : Ext φ H φ' H') : ∀ {v : V} {d : A}, RV K φ H v d → RV K φ' H' v d
  | _, _, .non => .non
  | _, _, .bl b => .bl b
  | _, _, .int i => .int i
  | _, _, .str x => .str x
  | _, _, .tup h q => .tup (h.ext e) (RVs.ext e q)
  | _, _, .scr h q => .scr (h.ext e) (RVs.ext e q)
  | _, _, .ref h => .ref (e.get h)
theorem RVs.ext (e : Ext φ H φ' H') : ∀ {vs : List V} {ds : List A}, RVs K φ H vs ds → RVs K φ' H' vs ds
  | _, _, .nil => .nil
  | _, _, .cons h q => .cons (RV.ext e h) (RVs.ext e q)
end
theorem RVs.length : ∀ {vs : List V} {ds : List A}, RVs K φ H vs ds → vs.length = ds.length
  | _, _, .nil => rfl
  | _, _, .cons _ q => by rw [List.length_cons, List.length_cons, q.length]
theorem RVs.get : ∀ {vs : List V} {ds : List A} {i : Nat} {d : A}, RVs K φ H vs ds → ds[i]? = some d → ∃ v, vs[i]? = some v ∧ RV K φ H v d
  | _, _, _, _, .nil, h => by simp at h
  | _, _, 0, _, .cons q _, h => by simp at h; subst h; exact ⟨_, rfl, q⟩
  | _, _, i + 1, d, .cons _ q, h => by
    obtain ⟨v, h1, h2⟩ := RVs.get (i := i) (d := d) q (by simpa using h)
    exact ⟨v, by simpa using h1, h2⟩
theorem RVs.app : ∀ {vs ws : List V} {ds es : List A}, RVs K φ H vs ds → RVs K φ H ws es → RVs K φ H (vs ++ ws) (ds ++ es)
  | _, _, _, _, .nil, q => q
  | _, _, _, _, .cons h r, q => .cons h (r.app q)
theorem RVs.take : ∀ {vs : List V} {ds : List A} (n : Nat), RVs K φ H vs ds → RVs K φ H (vs.take n) (ds.take n)
  | _, _, 0, _ => .nil
  | _, _, _ + 1, .nil => .nil
  | _, _, n + 1, .cons h q => .cons h (q.take n)
theorem RVs.drop : ∀ {vs : List V} {ds : List A} (n : Nat), RVs K φ H vs ds → RVs K φ H (vs.drop n) (ds.drop n)
  | _, _, 0, q => q
  | _, _, _ + 1, .nil => .nil
  | _, _, n + 1, .cons _ q => q.drop n
theorem RVs.set {v : V} {d : A} (h : RV K φ H v d) : ∀ {vs : List V} {ds : List A} (i : Nat), RVs K φ H vs ds → RVs K φ H (vs.set i v) (ds.set i d)
  | _, _, _, .nil => .nil
  | _, _, 0, .cons _ q => .cons h q
  | _, _, i + 1, .cons r q => .cons r (q.set h i)
theorem RVs.flat {vs : List V} {ds : List A} (q : RVs K φ H vs ds) : ∀ n : Nat, RVs K φ H (List.replicate n vs).flatten (List.replicate n ds).flatten
  | 0 => .nil
  | n + 1 => by
    rw [List.replicate_succ, List.replicate_succ, List.flatten_cons, List.flatten_cons]
    exact q.app (q.flat n)
theorem RVs.dropLast : ∀ {vs : List V} {ds : List A}, RVs K φ H vs ds → RVs K φ H vs.dropLast ds.dropLast
  | _, _, .nil => .nil
  | _, _, .cons _ .nil => .nil
  | _, _, .cons r (.cons r2 q) => .cons r (RVs.dropLast (.cons r2 q))
theorem RVs.ints : ∀ {vs : List V} {ns : List Int}, RVs K φ H vs (ns.map A.int) → vs = ns.map V.int
  | [], [], _ => rfl
  | [], _ :: _, h => by cases h
  | _ :: _, [], h => by cases h
  | v :: vs, n :: ns, h => by
    cases h with
    | cons h q =>
      cases h
      rw [RVs.ints q, List.map_cons]
theorem RVs.mkInts : ∀ (ns : List Int), RVs K φ H (ns.map V.int) (ns.map A.int)
  | [] => .nil
  | n :: ns => .cons (.int n) (RVs.mkInts ns)
theorem RE.ext (r : RE K φ H σ ρ) (e : Ext φ H φ' H') : RE K φ' H' σ ρ := ⟨r.len, fun i d h => by
  obtain ⟨v, h1, h2⟩ := r.all i d h
  exact ⟨v, h1, h2.ext e⟩⟩
theorem RE.set (r : RE K φ H σ ρ) {v : V} {d : A} (h : RV K φ H v d) (i : Nat) : RE K φ H (σ.set i (some v)) (ρ.set i (some d)) := ⟨by rw [List.length_set, List.length_set, r.len], fun j x hj => by
  by_cases e : i = j
  · subst e
    have hl : i < ρ.length := by
      have := (List.getElem?_eq_some_iff.mp hj).1
      rwa [List.length_set] at this
    rw [List.getElem?_set_self hl] at hj
    cases hj
    refine ⟨v, ?_, h⟩
    rw [List.getElem?_set_self (by rw [r.len]; exact hl)]
  · rw [List.getElem?_set_ne e] at hj
    obtain ⟨w, h1, h2⟩ := r.all j x hj
    exact ⟨w, by rw [List.getElem?_set_ne e]; exact h1, h2⟩⟩
theorem RE.setNone (r : RE K φ H σ ρ) (i : Nat) : RE K φ H (σ.set i none) (ρ.set i none) := ⟨by rw [List.length_set, List.length_set, r.len], fun j x hj => by
  by_cases e : i = j
  · subst e
    have hl : i < ρ.length := by
      have := (List.getElem?_eq_some_iff.mp hj).1
      rwa [List.length_set] at this
    rw [List.getElem?_set_self hl] at hj
    cases hj
  · rw [List.getElem?_set_ne e] at hj
    obtain ⟨w, h1, h2⟩ := r.all j x hj
    exact ⟨w, by rw [List.getElem?_set_ne e]; exact h1, h2⟩⟩
def wipeA (ρ : Env) : List Nat → Env
  | [] => ρ
  | v :: vs => (wipeA ρ vs).set v none
theorem RE.wipe (r : RE K φ H σ ρ) : ∀ vs : List Nat, RE K φ H (wipe σ vs) (wipeA ρ vs)
  | [] => r
  | v :: vs => (RE.wipe r vs).setNone v
theorem RO2.isO {a : Addr} : ∀ {u : Ob2}, RO2 K w mg φ H a u → ∃ o, H a = some o ∧ ∀ xs, o ≠ .lst xs
  | .dct _, .inl ⟨_, h, _⟩ => ⟨_, h, fun _ z => by cases z⟩
  | .dct _, .inr ⟨_, _, _, h, _⟩ => ⟨_, h, fun _ z => by cases z⟩
  | .frd _, .inl ⟨_, _, h, _⟩ => ⟨_, h, fun _ z => by cases z⟩
  | .frd _, .inr ⟨_, _, _, _, h, _⟩ => ⟨_, h, fun _ z => by cases z⟩
  | .ins _ _, ⟨_, _, _, _, h, _⟩ => ⟨_, h, fun _ z => by cases z⟩
  | .tab _, ⟨_, _, h, _⟩ => ⟨_, h, fun _ z => by cases z⟩
theorem RO2.ext {a : Addr} (e : Ext φ H φ' H') (k : H' a = H a) : ∀ {u : Ob2}, RO2 K w mg φ H a u → RO2 K w mg φ' H' a u
  | .dct _, .inl ⟨ks, h1, h2, h3⟩ => .inl ⟨ks, by rw [k]; exact h1, h2, h3.ext e⟩
  | .dct _, .inr ⟨xs, vs, h0, h1, h2, h3, h4, h5, h6, h7⟩ => .inr ⟨xs, vs, h0, by rw [k]; exact h1, h2, h3, h4, fun x hx => ⟨(h5 x hx).1.ext e, (h5 x hx).2⟩, h6, h7.ext e⟩
  | .frd _, .inl ⟨od, ks, h1, h2, h3⟩ => .inl ⟨od, ks, by rw [k]; exact h1, h2, h3.ext e⟩
  | .frd _, .inr ⟨od, xs, vs, h0, h1, h2, h3, h4, h5, h6, h7⟩ => .inr ⟨od, xs, vs, h0, by rw [k]; exact h1, h2, h3, h4, fun x hx => ⟨(h5 x hx).1.ext e, (h5 x hx).2⟩, h6, h7.ext e⟩
  | .ins _ _, ⟨C, dx, vs, h0, h1, h2, h3, h4⟩ => by
    obtain ⟨y1, y2⟩ := e.fr _ _ h3 h2
    exact ⟨C, dx, vs, h0, by rw [k]; exact h1, y1, y2, h4.ext e⟩
  | .tab _, ⟨h0, ps, h1, h2, h3⟩ => ⟨h0, ps, by rw [k]; exact h1, h2, fun pos cv hc => by
    obtain ⟨c, z1, z2, z3⟩ := h3 pos cv hc
    obtain ⟨y1, y2⟩ := e.fr _ _ z3 z2
    exact ⟨c, z1, y1, y2⟩⟩
theorem RO2.map {a : Addr} (up : ∀ v d, RV K φ H v d → RV K φ' H' v d) (ups : ∀ vs ds, RVs K φ H vs ds → RVs K φ' H' vs ds) (k : H' a = H a) (ko : ∀ dx o, dx ∉ φ → H dx = some o → (∀ xs, o ≠ .lst xs) → H' dx = some o ∧ dx ∉ φ') :
    ∀ {u : Ob2}, RO2 K w mg φ H a u → RO2 K w mg φ' H' a u
  | .dct _, .inl ⟨ks, h1, h2, h3⟩ => .inl ⟨ks, by rw [k]; exact h1, h2, ups _ _ h3⟩
  | .dct _, .inr ⟨xs, vs, h0, h1, h2, h3, h4, h5, h6, h7⟩ => .inr ⟨xs, vs, h0, by rw [k]; exact h1, h2, h3, h4, fun x hx => ⟨up _ _ (h5 x hx).1, (h5 x hx).2⟩, h6, ups _ _ h7⟩
  | .frd _, .inl ⟨od, ks, h1, h2, h3⟩ => .inl ⟨od, ks, by rw [k]; exact h1, h2, ups _ _ h3⟩
  | .frd _, .inr ⟨od, xs, vs, h0, h1, h2, h3, h4, h5, h6, h7⟩ => .inr ⟨od, xs, vs, h0, by rw [k]; exact h1, h2, h3, h4, fun x hx => ⟨up _ _ (h5 x hx).1, (h5 x hx).2⟩, h6, ups _ _ h7⟩
  | .ins _ _, ⟨C, dx, vs, h0, h1, h2, h3, h4⟩ => by
    obtain ⟨y1, y2⟩ := ko _ _ h3 h2 (fun _ z => by cases z)
    exact ⟨C, dx, vs, h0, by rw [k]; exact h1, y1, y2, ups _ _ h4⟩
  | .tab _, ⟨h0, ps, h1, h2, h3⟩ => ⟨h0, ps, by rw [k]; exact h1, h2, fun pos cv hc => by
    obtain ⟨c, z1, z2, z3⟩ := h3 pos cv hc
    obtain ⟨y1, y2⟩ := ko _ _ z3 z2 (fun _ z => by unfold LamX.CodeO at z; cases z)
    exact ⟨c, z1, y1, y2⟩⟩
theorem RS.notin (r : RS K w mg φ H st) {p : Addr} (h : H p = none) : p ∉ φ := fun z => by
  obtain ⟨i, hi, e⟩ := List.getElem_of_mem z
  have h1 : φ[i]? = some p := by rw [List.getElem?_eq_getElem hi, e]
  have h2 : i < st.length := by rw [← r.len]; exact hi
  have h3 := r.all i p st[i] h1 (List.getElem?_eq_getElem h2)
  cases ho : st[i] with
  | lst ds =>
    rw [ho] at h3
    obtain ⟨xs, q, _⟩ := h3
    rw [h] at q
    cases q
  | oth u =>
    rw [ho] at h3
    obtain ⟨o, q, _⟩ := RO2.isO h3
    rw [h] at q
    cases q
theorem ext_new {p : Addr} {o : HO} (h : H p = none) : Ext φ H φ (upd H p o) := ⟨⟨[], by simp⟩, fun a o n q => ⟨by rw [upd_ne (ne_of_none q h)]; exact q, n⟩, fun a o u q => by rw [upd_ne (ne_of_none q h)]; exact q⟩
theorem RS.ext (r : RS K w mg φ H st) (e : Ext φ H φ H') (k : ∀ a ∈ φ, H' a = H a) : RS K w mg φ H' st := ⟨r.len, r.nd, fun i a o h1 h2 => by
  have h3 := r.all i a o h1 h2
  cases o with
  | lst ds =>
    obtain ⟨xs, q, q2⟩ := h3
    exact ⟨xs, by rw [k a (List.mem_of_getElem? h1)]; exact q, q2.ext e⟩
  | oth u => exact RO2.ext e (k a (List.mem_of_getElem? h1)) h3⟩
theorem RS.new (r : RS K w mg φ H st) {p : Addr} {o : HO} (h : H p = none) : RS K w mg φ (upd H p o) st := r.ext (ext_new h) fun a ha => upd_ne fun z => r.notin h (z ▸ ha)
theorem RV.newTup (r : RS K w mg φ H st) {p : Addr} {ob : Obj} {xs : List V} {ds : List A} (hd : ob.dict = none) (h : H p = none) (q : RVs K φ H xs ds) : RV K φ (upd H p (.frz ob (.tup xs))) (.ref p) (.tup ds) :=
  .tup (.inl ⟨⟨ob, hd, upd_same⟩, r.notin h⟩) (q.ext (ext_new h))
theorem new_tup {X : Cx} {pins : List (Addr × Obj)} {σ : L2.St} {H : Hp} {s : Shared} {its : List Value} {xs : List V} {Q : V → Hp → Prop} (I : Inv X pins σ H s) (r : Vals xs its) (hz : xs.length ≤ sizeLine) (q : NewT H xs Q) :
    EP X pins σ Q (.ref s.heap.objs.size) { s with heap := s.heap.push { cls := .type "tuple", data := .seq its.toArray } } :=
  ⟨.ref s.heap.objs.size, _, I.laid (t' := s.toks) (o := .frz { cls := .type "tuple", data := .seq its.toArray } (.tup xs)) (fun b ob q => Heap.get?_push_of_some _ q) (Nat.le_refl _) ⟨Heap.get?_push_size _ rfl, hz, its, r, PyProof.Rows.IsTup.new _ _⟩, rfl, q _ _ rfl (I.hok.fresh (Nat.le_refl _))⟩
def tTupP (t : TA) : TE := fun σ H Q => t σ H fun xs H1 => xs.length ≤ sizeLine ∧ NewT H1 xs Q
theorem pe_tupP {X : Cx} {es : List Expr} {t : TA} {x1 : Nat} {pos : Pos} (h : PA X es t) : PE X (.Tuple es x1 pos) (tTupP t) :=
  ⟨fun pins s σ H Q I hq => wpAny_Tuple_spliced (thn (h.run pos pins s σ H _ I hq) fun us s1 ⟨xs, H1, I1, r, z, q⟩ => ⟨by rw [← r.length]; exact z, new_tup I1 r z q⟩)⟩
theorem ext_alloc {p : Addr} {o : HO} (r : RS K w mg φ H st) (h : H p = none) : Ext φ H (φ ++ [p]) (upd H p o) := ⟨⟨[p], rfl⟩, fun a u n q => by
  have ne : a ≠ p := ne_of_none q h
  refine ⟨by rw [upd_ne ne]; exact q, fun z => ?_⟩
  rcases List.mem_append.mp z with z | z
  · exact n z
  · exact ne (by simpa using z), fun a o u q => by rw [upd_ne (ne_of_none q h)]; exact q⟩
theorem RS.alloc (r : RS K w mg φ H st) {p : Addr} {xs : List V} {ds : List A} (h : H p = none) (q : RVs K φ H xs ds) : RS K w mg (φ ++ [p]) (upd H p (.lst xs)) (st ++ [.lst ds]) := by
  have e := ext_alloc (o := .lst xs) r h
  refine ⟨by simp [r.len], ?_, fun i a o h1 h2 => ?_⟩
  · rw [List.nodup_append]
    refine ⟨r.nd, by simp, fun a ha b hb z => ?_⟩
    have : b = p := by simpa using hb
    subst this
    subst z
    exact r.notin h ha
  · by_cases hi : i < φ.length
    · rw [List.getElem?_append_left hi] at h1
      rw [List.getElem?_append_left (by rw [← r.len]; exact hi)] at h2
      have h3 := r.all i a o h1 h2
      have na : a ≠ p := fun z => r.notin h (z ▸ List.mem_of_getElem? h1)
      cases o with
      | lst ds' =>
        obtain ⟨ys, y1, y2⟩ := h3
        exact ⟨ys, by rw [upd_ne na]; exact y1, y2.ext e⟩
      | oth u => exact RO2.ext e (upd_ne na) h3
    · have hi2 : i = φ.length := by
        have := (List.getElem?_eq_some_iff.mp h1).1
        rw [List.length_append, List.length_singleton] at this
        omega
      subst hi2
      rw [List.getElem?_append_right (Nat.le_refl _)] at h1
      rw [List.getElem?_append_right (by rw [r.len]; exact Nat.le_refl _)] at h2
      simp at h1
      rw [r.len] at h2
      simp at h2
      subst h1
      subst h2
      exact ⟨xs, upd_same, q.ext e⟩
theorem RV.newLst (r : RS K w mg φ H st) {p : Addr} {H' : Hp} : RV K (φ ++ [p]) H' (.ref p) (.ref st.length) := .ref (by
  rw [List.getElem?_append_right (by rw [r.len]; exact Nat.le_refl _), r.len]
  simp)
theorem RS.write (r : RS K w mg φ H st) {i : Nat} {p : Addr} {zs : List A} {ys : List V} {ds : List A} (hp : φ[i]? = some p) (ho : st[i]? = some (.lst zs)) (q : RVs K φ H ys ds) : Ext φ H φ (upd H p (.lst ys)) ∧ RS K w mg φ (upd H p (.lst ys)) (st.set i (.lst ds)) := by
  have hm : p ∈ φ := List.mem_of_getElem? hp
  have e : Ext φ H φ (upd H p (.lst ys)) := ⟨⟨[], by simp⟩, fun a u n q => ⟨by rw [upd_ne (show a ≠ p from fun z => n (by rw [z]; exact hm))]; exact q, n⟩, fun a o u q => by
    obtain ⟨_, hl, _⟩ := r.all i p _ hp ho
    rw [upd_ne (show a ≠ p from fun z => by rw [z, hl] at q; cases q)]
    exact q⟩
  refine ⟨e, by rw [List.length_set]; exact r.len, r.nd, fun j a u h1 h2 => ?_⟩
  by_cases hj : i = j
  · subst hj
    rw [hp] at h1
    cases h1
    rw [List.getElem?_set_self (List.getElem?_eq_some_iff.mp ho).1] at h2
    cases h2
    exact ⟨ys, upd_same, q.ext e⟩
  · rw [List.getElem?_set_ne hj] at h2
    have h3 := r.all j a u h1 h2
    have na : a ≠ p := fun z => by
      subst z
      obtain ⟨l1, e1⟩ := List.getElem?_eq_some_iff.mp hp
      obtain ⟨l2, e2⟩ := List.getElem?_eq_some_iff.mp h1
      exact hj ((List.getElem_inj r.nd).mp (e1.trans e2.symm))
    cases u with
    | lst ds' =>
      obtain ⟨zs, y1, y2⟩ := h3
      exact ⟨zs, by rw [upd_ne na]; exact y1, y2.ext e⟩
    | oth u => exact RO2.ext e (upd_ne na) h3
theorem RS.lst (r : RS K w mg φ H st) {i : Nat} {p : Addr} {ds : List A} (hp : φ[i]? = some p) (ho : st[i]? = some (.lst ds)) : ∃ xs, H p = some (.lst xs) ∧ RVs K φ H xs ds := r.all i p _ hp ho
theorem RErr.ext {c : Value} {d : Option Addr} {x : Er} (r : RErr K mg φ H c d x) (e : Ext φ H φ' H') : RErr K mg φ' H' c d x := by
  obtain ⟨h1, h2 | ⟨dx, xs, q1, q2, q3, q4, q5⟩⟩ := r
  · exact ⟨h1, .inl h2⟩
  · obtain ⟨y1, y2⟩ := e.fr _ _ q3 q2
    exact ⟨h1, .inr ⟨dx, xs, q1, y1, y2, q4, q5.ext e⟩⟩
end
abbrev WH := Value → Option Addr → Hp → Prop
def Pst {α β : Type} (K : PySem.W.Frag) (w : World) (mg : Str → Option Value) (Rl : List Addr → Hp → β → α → Prop) (W : WH) (φ : List Addr) (H : Hp) (r : R α) (Q : β → Hp → Prop) : Prop := match r with
  | .ok a st => ∀ φ' v H', Ext φ H φ' H' → RS K w mg φ' H' st → Rl φ' H' v a → Q v H'
  | .er e st => ∀ φ' c d H', Ext φ H φ' H' → RS K w mg φ' H' st → RErr K mg φ' H' c d e → W c d H'
  | .bad => False
abbrev rlB : List Addr → Hp → Bool → Bool → Prop := fun _ _ x y => x = y
def tG {α β : Type} (K : PySem.W.Frag) (w : World) (mg : Str → Option Value) (Rl : List Addr → Hp → β → α → Prop) (W : WX) (m : Env → Store → R α) : St → Hp → (β → Hp → Prop) → Prop := fun σ H Q =>
  ∃ φ ρ st, RS K w mg φ H st ∧ RE K φ H σ ρ ∧ Pst K w mg Rl (fun c d H' => W c d σ H') φ H (m ρ st) Q
abbrev tE (X : Cx) (W : WX) (m : MX) : TE := tG X.K X.w X.mg (RV X.K) W m
abbrev tT (X : Cx) (W : WX) (m : MT) : TT := tG X.K X.w X.mg rlB W m
abbrev tA (X : Cx) (W : WX) (m : MA) : TA := tG X.K X.w X.mg (RVs X.K) W m
section
variable {K : PySem.W.Frag} {w : World} {φ φ' : List Addr} {H H' : Hp} {st : Store} {mg : Str → Option Value} {α β γ δ : Type} {W : WH}
variable {Rl : List Addr → Hp → β → α → Prop} {Rl2 : List Addr → Hp → δ → γ → Prop}
theorem Pst.mono {r : R α} {Q : β → Hp → Prop} (h : Pst K w mg Rl W φ H r Q) (e : Ext φ H φ' H') : Pst K w mg Rl W φ' H' r Q := by
  cases r with
  | ok a st => exact fun φ2 v H2 e2 s q => h φ2 v H2 (e.trans e2) s q
  | er x st => exact fun φ2 c d H2 e2 s q => h φ2 c d H2 (e.trans e2) s q
  | bad => exact h
theorem Pst.seq {r : R α} {f : α → Store → R γ} {Q1 : β → Hp → Prop} {Q : δ → Hp → Prop} (h : Pst K w mg Rl2 W φ H (r.bind f) Q)
    (k : ∀ φ1 a x H1 st1, Ext φ H φ1 H1 → RS K w mg φ1 H1 st1 → Rl φ1 H1 x a → Pst K w mg Rl2 W φ1 H1 (f a st1) Q → Q1 x H1) : Pst K w mg Rl W φ H r Q1 := by
  cases r with
  | ok a st => exact fun φ1 v H1 e s q => k φ1 a v H1 st e s q (Pst.mono h e)
  | er x st => exact h
  | bad => exact h
theorem Pst.imp {r : R α} {Q Q' : β → Hp → Prop} (h : Pst K w mg Rl W φ H r Q) (k : ∀ v H', Q v H' → Q' v H') : Pst K w mg Rl W φ H r Q' := by
  cases r with
  | ok a st => exact fun φ2 v H2 e2 s q => k _ _ (h φ2 v H2 e2 s q)
  | er x st => exact h
  | bad => exact h
theorem Pst.ok {a : α} {v : β} {Q : β → Hp → Prop} (h : Pst K w mg Rl W φ H (.ok a st) Q) (s : RS K w mg φ H st) (q : Rl φ H v a) : Q v H := h φ v H Ext.refl s q
end
section
variable {X : Cx} {e : Expr} {es : List Expr} {t t' : TE}
theorem _root_.L2.PE.imp (h : PE X e t) (k : ∀ σ H Q, t' σ H Q → t σ H Q) : PE X e t' := ⟨fun pins s σ H Q I q => h.run pins s σ H Q I (k _ _ _ q)⟩
theorem _root_.L2.PT.imp {t t' : TT} (h : PT X e t) (k : ∀ σ H Q, t' σ H Q → t σ H Q) : PT X e t' := ⟨fun pins s σ H Q I q => h.run pins s σ H Q I (k _ _ _ q)⟩
theorem PWimp {t t' : TT} (h : L2.PW X e t) (k : ∀ σ H Q, t' σ H Q → t σ H Q) : L2.PW X e t' := ⟨fun w pins s σ H Q I q => h.run w pins s σ H Q I (k _ _ _ q)⟩
theorem _root_.L2.PA.imp {t t' : TA} (h : PA X es t) (k : ∀ σ H Q, t' σ H Q → t σ H Q) : PA X es t' := ⟨fun pos pins s σ H Q I q => h.run pos pins s σ H Q I (k _ _ _ q)⟩
theorem OpR.or {f : Value → Value → Sem Value} {r r' : R2} (h : OpR X f r) (h' : OpR X f r') : OpR X f (fun x y H Q => r x y H Q ∨ r' x y H Q) := fun pins s σ H x y v u Q I a b q =>
  q.elim (h pins s σ H x y v u Q I a b) (h' pins s σ H x y v u Q I a b)
theorem CallR.or {f : Value} {r r' : List V → Hp → VK → Prop} (h : CallR X f r) (h' : CallR X f r') : CallR X f (fun xs H Q => r xs H Q ∨ r' xs H Q) := fun pins s σ H xs us Q I a q =>
  q.elim (h pins s σ H xs us Q I a) (h' pins s σ H xs us Q I a)
end
end ML
namespace ML
open PySem PySem.Spec L2
mutual
def dataW (f : Nat → Option PyData) : A → Option PyData
  | .non => some .none
  | .bl b => some (.bool b)
  | .int i => some (.int i)
  | .str x => some (.str x)
  | .tup xs => (dataWs f xs).map .tuple
  | .scr xs => (dataWs f xs).map .list
  | .ref i => f i
def dataWs (f : Nat → Option PyData) : List A → Option (List PyData)
  | [] => some []
  | x :: xs => match dataW f x, dataWs f xs with
    | some d, some ds => some (d :: ds)
    | _, _ => none
end
def derefN : Nat → Store → Nat → Option PyData
  | 0, _, _ => none
  | n + 1, st, i => match st[i]? with
    | some (.lst xs) => (dataWs (derefN n st) xs).map .list
    | _ => none
def dataOf (st : Store) (a : A) : Option PyData := dataW (derefN 4 st) a
section
variable {K : PySem.W.Frag} {w : World} {mg : Str → Option Value} {φ φ' : List Addr} {H H' : Hp} {st : Store}
mutual
theorem dataW_ok {f : Nat → Option PyData} (hf : ∀ i d p, f i = some d → φ[i]? = some p → Dp K H (.ref p) d) : ∀ {v : V} {a : A} {d : PyData}, RV K φ H v a → dataW f a = some d → Dp K H v d
  | _, _, _, .non, h => by simp only [dataW] at h; cases h; exact .non
  | _, _, _, .bl b, h => by simp only [dataW] at h; cases h; exact .bl b
  | _, _, _, .int i, h => by simp only [dataW] at h; cases h; exact .int i
  | _, _, _, .str x, h => by simp only [dataW] at h; cases h; exact .str x
  | _, _, _, .tup (ds := ds) q r, h => by
    simp only [dataW] at h
    cases e : dataWs f ds with
    | none => rw [e] at h; cases h
    | some es =>
      rw [e] at h
      cases h
      exact .tup q.sq (dataWs_ok hf r e)
  | _, _, _, .scr (ds := ds) q r, h => by
    simp only [dataW] at h
    cases e : dataWs f ds with
    | none => rw [e] at h; cases h
    | some es =>
      rw [e] at h
      cases h
      exact .lst q.sq (dataWs_ok hf r e)
  | _, _, _, .ref q, h => by
    simp only [dataW] at h
    exact hf _ _ _ h q
theorem dataWs_ok {f : Nat → Option PyData} (hf : ∀ i d p, f i = some d → φ[i]? = some p → Dp K H (.ref p) d) : ∀ {vs : List V} {as : List A} {ds : List PyData}, RVs K φ H vs as → dataWs f as = some ds → DpAll K H vs ds
  | _, _, _, .nil, h => by simp only [dataWs] at h; cases h; exact .nil
  | _, _, _, .cons (d := x) (ds := xs) q r, h => by
    simp only [dataWs] at h
    cases e1 : dataW f x with
    | none => rw [e1] at h; cases h
    | some d =>
      cases e2 : dataWs f xs with
      | none => rw [e1, e2] at h; cases h
      | some ds =>
        rw [e1, e2] at h
        cases h
        exact .cons (dataW_ok hf q e1) (dataWs_ok hf r e2)
end
theorem derefN_ok (rs : RS K w mg φ H st) : ∀ (n i : Nat) (d : PyData) (p : Addr), derefN n st i = some d → φ[i]? = some p → Dp K H (.ref p) d
  | 0, _, _, _, h, _ => by cases h
  | n + 1, i, d, p, h, hp => by
    unfold derefN at h
    cases e : st[i]? with
    | none => rw [e] at h; cases h
    | some o =>
      cases o with
      | oth u => rw [e] at h; cases h
      | lst xs =>
        rw [e] at h
        obtain ⟨ys, h1, h2⟩ := rs.lst hp e
        cases e2 : dataWs (derefN n st) xs with
        | none => simp only [e2] at h; cases h
        | some ds =>
          simp only [e2] at h
          cases h
          exact .lst (.inl (.inl h1)) (dataWs_ok (derefN_ok rs n) h2 e2)
theorem dataOf_ok (rs : RS K w mg φ H st) {v : V} {a : A} {d : PyData} (r : RV K φ H v a) (h : dataOf st a = some d) : Dp K H v d := dataW_ok (derefN_ok rs 4) r h
end
def addA : A → A → Store → R A
  | .int i, .int j, st => .ok (.int (i + j)) st
  | .str x, .str y, st => if x.length + y.length ≤ sizeLine then .ok (.str (x ++ y)) st else .bad
  | .tup xs, .tup ys, st => if xs.length + ys.length ≤ sizeLine then .ok (.tup (xs ++ ys)) st else .bad
  | .ref i, .ref j, st => match st[i]?, st[j]? with
    | some (.lst xs), some (.lst ys) => if xs.length + ys.length ≤ sizeLine then .ok (.ref st.length) (st ++ [.lst (xs ++ ys)]) else .bad
    | _, _ => .bad
  | _, _, _ => .bad
def subA : A → A → Store → R A
  | .int i, .int j, st => .ok (.int (i - j)) st
  | _, _, _ => .bad
abbrev CMulA (i j : Int) : Prop := ((-(2 ^ 64) < i ∧ i < 2 ^ 64) ∨ (-(2 ^ 64) < j ∧ j < 2 ^ 64)) ∨ (Builtin.Int.intBits i : Int) + (Builtin.Int.intBits j : Int) ≤ 134217728
def mulA : A → A → Store → R A
  | .int i, .int j, st => if CMulA i j then .ok (.int (i * j)) st else .bad
  | .ref i, .int k, st => match st[i]? with
    | some (.lst xs) => if -(2 ^ 63) ≤ k ∧ k < 2 ^ 63 ∧ xs.length * k.toNat ≤ sizeLine then .ok (.ref st.length) (st ++ [.lst (List.replicate k.toNat xs).flatten]) else .bad
    | _ => .bad
  | .tup xs, .int k, st => if 0 ≤ k ∧ k ≤ 1000000 ∧ xs.length * k.toNat ≤ sizeLine then .ok (.tup (List.replicate k.toNat xs).flatten) st else .bad
  | _, _, _ => .bad
def fdivA : A → A → Store → R A
  | .int i, .int j, st => if 0 < j ∧ j.natAbs.log2 < 9000 then .ok (.int (i / j)) st else .bad
  | _, _, _ => .bad
def modA : A → A → Store → R A
  | .int i, .int j, st => if 0 < j then .ok (.int (i % j)) st else .bad
  | _, _, _ => .bad
def powA : A → A → Store → R A
  | .int i, .int j, st => if 0 ≤ j ∧ j ≤ 1000000 ∧ i.natAbs < 2 ^ 64 then .ok (.int (i ^ j.toNat)) st else .bad
  | _, _, _ => .bad
def andA : A → A → Store → R A
  | .int i, .int j, st => .ok (.int (Builtin.bitAnd i j)) st
  | _, _, _ => .bad
def xorA : A → A → Store → R A
  | .int i, .int j, st => .ok (.int (Builtin.bitXor i j)) st
  | _, _, _ => .bad
def shrA : A → A → Store → R A
  | .int i, .int j, st => if 0 ≤ j then .ok (.int (i / 2 ^ j.toNat)) st else .bad
  | _, _, _ => .bad
def negA : A → Store → R A
  | .int i, st => .ok (.int (-i)) st
  | _, _ => .bad
def ltA : A → A → Store → R A
  | .int i, .int j, st => .ok (.bl (decide (i < j))) st
  | .str x, .str y, st => .ok (.bl (decide (x.cps.toList < y.cps.toList))) st
  | _, _, _ => .bad
def gtA : A → A → Store → R A
  | .int i, .int j, st => .ok (.bl (decide (j < i))) st
  | .str x, .str y, st => .ok (.bl (decide (y.cps.toList < x.cps.toList))) st
  | _, _, _ => .bad
def geA : A → A → Store → R A
  | .int i, .int j, st => .ok (.bl (decide (j ≤ i))) st
  | _, _, _ => .bad
def eqS : A → A → Option Bool
  | .int i, .int j => some (decide (i = j))
  | .str x, .str y => some (decide (x = y))
  | .bl a, .bl b => some (decide (a = b))
  | .non, .non => some true
  | .int _, .str _ => some false
  | .str _, .int _ => some false
  | .non, .int _ => some false
  | .int _, .non => some false
  | .non, .str _ => some false
  | .str _, .non => some false
  | _, _ => none
theorem eqS_ok {K : PySem.W.Frag} {φ : List Addr} {H : Hp} {x y : V} {a b : A} {k : Bool} (ra : RV K φ H x a) (rb : RV K φ H y b) (h : eqS a b = some k) : scal x y = true ∧ decide (x = y) = k := by
  cases ra <;> cases rb <;> first | (cases h; exact ⟨rfl, by simp⟩) | cases h
def eqB (x y : A) (st : Store) : Option Bool := match eqS x y with
  | some b => some b
  | none => match dataOf st x, dataOf st y with
    | some d, some e => if SeqAt.shaped d = true ∧ SeqAt.shaped e = true then some (PyData.eqv d e) else none
    | _, _ => none
def eqA (x y : A) (st : Store) : R A := match eqB x y st with
  | some b => .ok (.bl b) st
  | none => .bad
def neA (x y : A) (st : Store) : R A := match eqB x y st with
  | some b => .ok (.bl (!b)) st
  | none => .bad
def isNonA : A → Bool
  | .non => true
  | _ => false
def isNA : A → A → Store → R A
  | x, .non, st => .ok (.bl (isNonA x)) st
  | _, _, _ => .bad
def notNA : A → A → Store → R A
  | x, .non, st => .ok (.bl (!isNonA x)) st
  | _, _, _ => .bad
def OpS (X : Cx) (r : R2) (g : A → A → Store → R A) : Prop := ∀ (W : WH) (φ : List Addr) (H : Hp) (st : Store) (x y : V) (a b : A) (Q : VK), RS X.K X.w X.mg φ H st → RV X.K φ H x a → RV X.K φ H y b → Pst X.K X.w X.mg (RV X.K) W φ H (g a b st) Q → r x y H Q
section
variable {X : Cx} {W : WX} {a b e : Expr} {es : List Expr} {ma mb : MX} {pos : Pos}
def mVar (i : Nat) : MX := fun ρ st => match ρ[i]? with
  | some (some a) => .ok a st
  | _ => .bad
def mC (a : A) : MX := fun _ st => .ok a st
theorem me_var (i : Nat) {x : Str} {pos : Pos} (hN : X.N[i]? = some x := by rfl) (hv : Vis X.env.scope x := by first | exact Or.inl rfl | exact Or.inr (Or.inl rfl) | exact Or.inr (Or.inr rfl)) (hd : (x == ("__debug__" : Str)) = false := by decide)
    (hcd : (x == ("__classdict__" : Str)) = false := by decide) : PE X (.Name x pos) (tE X W (mVar i)) := (pv i hN hv hd hcd).imp fun σ H Q ⟨φ, ρ, st, rs, re, h⟩ => by
  unfold mVar at h
  cases q : ρ[i]? with
  | none => rw [q] at h; exact h.elim
  | some o =>
    cases o with
    | none => rw [q] at h; exact h.elim
    | some d =>
      rw [q] at h
      obtain ⟨v, h1, h2⟩ := re.all i d q
      exact ⟨v, h1, h.ok rs h2⟩
theorem me_int {i : Int} {j pos} : PE X (.Constant (.int i) j pos) (tE X W (mC (.int i))) := pe_int.imp fun _ _ _ ⟨_, _, _, rs, _, h⟩ => h.ok rs (.int i)
theorem me_bl {b : Bool} {j pos} : PE X (.Constant (.bool b) j pos) (tE X W (mC (.bl b))) := pe_bl.imp fun _ _ _ ⟨_, _, _, rs, _, h⟩ => h.ok rs (.bl b)
theorem me_non {j pos} : PE X (.Constant .none j pos) (tE X W (mC .non)) := pe_non.imp fun _ _ _ ⟨_, _, _, rs, _, h⟩ => h.ok rs .non
theorem me_str {x : Str} {j pos} : PE X (.Constant (.str x) j pos) (tE X W (mC (.str x))) := pe_str.imp fun _ _ _ ⟨_, _, _, rs, _, h⟩ => h.ok rs (.str x)
theorem me_glob {x : Str} {v : V} {u : Value} {d : A} {pos : Pos} (hg : Gl X x) (hm : X.mg x = some u) (r : RelV v u) (hv : ∀ φ H, RV X.K φ H v d) (hd : (x == ("__debug__" : Str)) = false := by decide) : PE X (.Name x pos) (tE X W (mC d)) :=
  (pe_glob hg hm r hd).imp fun _ H _ ⟨φ, _, _, rs, _, h⟩ => h.ok rs (hv φ H)
def mBin (g : A → A → Store → R A) (ma mb : MX) : MX := fun ρ st => (ma ρ st).bind fun x st1 => (mb ρ st1).bind fun y st2 => g x y st2
def mUn (g : A → Store → R A) (ma : MX) : MX := fun ρ st => (ma ρ st).bind fun x st1 => g x st1
theorem bin_ok {r : R2} {g : A → A → Store → R A} (hg : OpS X r g) {σ : L2.St} {H : Hp} {Q : VK} (h : tE X W (mBin g ma mb) σ H Q) : tOp r (tE X W ma) (tE X W mb) σ H Q := by
  obtain ⟨φ, ρ, st, rs, re, h⟩ := h
  exact ⟨φ, ρ, st, rs, re, h.seq fun φ1 a x H1 st1 e1 rs1 rv1 h1 => ⟨φ1, ρ, st1, rs1, re.ext e1, h1.seq fun φ2 b y H2 st2 e2 rs2 rv2 h2 => hg _ _ _ _ _ _ _ _ _ rs2 (rv1.ext e2) rv2 h2⟩⟩
theorem me_bin {op : Operator} {r : R2} {g : A → A → Store → R A} (ho : OpR X (binaryOp op) r) (hg : OpS X r g) (ha : PE X a (tE X W ma)) (hb : PE X b (tE X W mb)) : PE X (.BinOp a op b pos) (tE X W (mBin g ma mb)) := (pe_op ho ha hb).imp fun _ _ _ h => bin_ok hg h
theorem me_cmp {op : CmpOp} {r : R2} {g : A → A → Store → R A} (ho : OpR X (compareOp op) r) (hg : OpS X r g) (ha : PE X a (tE X W ma)) (hb : PE X b (tE X W mb)) (hm : behindInMarks op b = false := by first | exact nomark _ | rfl) : PE X (.Compare a [op] [b] pos) (tE X W (mBin g ma mb)) := (pe_cmpR ho ha hb hm).imp fun _ _ _ h => bin_ok hg h
theorem me_neg (ha : PE X a (tE X W ma)) : PE X (.UnaryOp .USub a pos) (tE X W (mUn negA ma)) := (pe_un un_neg ha).imp fun σ H Q ⟨φ, ρ, st, rs, re, h⟩ => by
  refine ⟨φ, ρ, st, rs, re, h.seq fun φ1 a x H1 st1 e1 rs1 rv1 h1 => ?_⟩
  cases rv1 with
  | int i => exact ⟨i, rfl, h1.ok rs1 (.int _)⟩
  | _ => exact (show False from h1).elim
def truA : A → Store → R Bool
  | .non, st => .ok false st
  | .bl b, st => .ok b st
  | .int i, st => .ok (i != 0) st
  | .str x, st => if x.length ≤ sizeLine then .ok ((x.length : Int) != 0) st else .bad
  | .tup xs, st => .ok (!xs.isEmpty) st
  | .scr xs, st => .ok (!xs.isEmpty) st
  | .ref i, st => match st[i]? with
    | some (.lst xs) => .ok (!xs.isEmpty) st
    | _ => .bad
def mTru (ma : MX) : MT := fun ρ st => (ma ρ st).bind truA
def mAnd (ma mb : MT) : MT := fun ρ st => (ma ρ st).bind fun x st1 => if x = true then mb ρ st1 else .ok false st1
def mOr (ma mb : MT) : MT := fun ρ st => (ma ρ st).bind fun x st1 => if x = true then .ok true st1 else mb ρ st1
def mNot (ma : MT) : MT := fun ρ st => (ma ρ st).bind fun x st1 => .ok (!x) st1
theorem RVs.empty {K : PySem.W.Frag} {φ : List Addr} {H : Hp} {xs : List V} {ds : List A} (q : RVs K φ H xs ds) : xs.isEmpty = ds.isEmpty := by
  cases q <;> rfl
theorem tru_ok' {K : PySem.W.Frag} {mg : Str → Option Value} {W : WH} {φ : List Addr} {H : Hp} {st : Store} {x : V} {a : A} {Q : Bool → Hp → Prop} (rs : RS K w mg φ H st) (r : RV K φ H x a) (h : Pst K w mg rlB W φ H (truA a st) Q) : ∃ k, TruV K x H k ∧ Q k H := by
  cases r with
  | non => exact ⟨false, rfl, h.ok rs rfl⟩
  | bl b => exact ⟨b, rfl, h.ok rs rfl⟩
  | int i => exact ⟨_, rfl, h.ok rs rfl⟩
  | str x =>
    by_cases hz : x.length ≤ sizeLine
    · rw [truA, if_pos hz] at h
      exact ⟨_, ⟨hz, rfl⟩, h.ok rs rfl⟩
    · rw [truA, if_neg hz] at h
      exact h.elim
  | tup q q2 => exact ⟨_, .inr (.inl ⟨_, q.sq, rfl⟩), h.ok rs (by rw [q2.empty])⟩
  | scr q q2 => exact ⟨_, .inl ⟨_, q.sq, rfl⟩, h.ok rs (by rw [q2.empty])⟩
  | @ref p i q =>
    unfold truA at h
    simp only at h
    cases e : st[i]? with
    | none => rw [e] at h; exact h.elim
    | some o =>
      cases o with
      | oth u => rw [e] at h; exact h.elim
      | lst ds =>
        rw [e] at h
        obtain ⟨xs, h1, h2⟩ := rs.lst q e
        exact ⟨_, .inl ⟨_, .inl (.inl h1), rfl⟩, h.ok rs (by rw [h2.empty])⟩
theorem mt_tru (ha : PE X a (tE X W ma)) (he : ∀ whole, isTrue a X.env whole = (do let v ← whole; standAt a.pos; holding [v] (truthy v)) := by intro _; rfl) : PT X a (tT X W (mTru ma)) := (pt_truth ha he).imp fun σ H Q ⟨φ, ρ, st, rs, re, h⟩ => by
  refine ⟨φ, ρ, st, rs, re, h.seq fun φ1 a x H1 st1 e1 rs1 rv1 h1 => ?_⟩
  exact tru_ok' rs1 rv1 h1
def getB : A → Store → R Bool
  | .bl b, st => .ok b st
  | _, _ => .bad
def mGB (ma : MX) : MT := fun ρ st => (ma ρ st).bind getB
theorem getB_ok {K : PySem.W.Frag} {mg : Str → Option Value} {W : WH} {φ : List Addr} {H : Hp} {st : Store} {x : V} {a : A} {Q : Bool → Hp → Prop} (rs : RS K w mg φ H st) (r : RV K φ H x a) (h : Pst K w mg rlB W φ H (getB a st) Q) : ∃ k, x = .bl k ∧ Q k H := by
  cases r with
  | bl b => exact ⟨b, rfl, h.ok rs rfl⟩
  | _ => exact (show False from h).elim
theorem mt_cmp {op : CmpOp} {r : R2} {g : A → A → Store → R A} (ho : OpR X (compareOp op) r) (hg : OpS X r g) (ha : PE X a (tE X W ma)) (hb : PE X b (tE X W mb)) (hm : behindInMarks op b = false := by first | exact nomark _ | rfl) : PT X (.Compare a [op] [b] pos) (tT X W (mGB (mBin g ma mb))) := (pt_cmpR ho ha hb hm).imp fun σ H Q h => by
  refine bin_ok (W := W) hg ?_
  obtain ⟨φ, ρ, st, rs, re, h⟩ := h
  exact ⟨φ, ρ, st, rs, re, h.seq fun φ1 a x H1 st1 e1 rs1 rv1 h1 => getB_ok rs1 rv1 h1⟩
variable {ta tb : MT} {rest : List Expr}
theorem mw_and1 (ha : PT X a (tT X W ta)) : L2.PW X (.BoolOp .And [a] pos) (tT X W ta) := pw_and1 ha
theorem mw_or1 (ha : PT X a (tT X W ta)) : L2.PW X (.BoolOp .Or [a] pos) (tT X W ta) := pw_or1 ha
theorem mw_and (ha : PT X a (tT X W ta)) (hb : L2.PW X (.BoolOp .And (b :: rest) pos) (tT X W tb)) : L2.PW X (.BoolOp .And (a :: b :: rest) pos) (tT X W (mAnd ta tb)) := PWimp (pw_and ha hb) fun σ H Q ⟨φ, ρ, st, rs, re, h⟩ => by
  refine ⟨φ, ρ, st, rs, re, h.seq fun φ1 a x H1 st1 e1 rs1 rv1 h1 => ?_⟩
  subst rv1
  cases x with
  | true => exact iteT ⟨φ1, ρ, st1, rs1, re.ext e1, h1⟩
  | false => exact iteF (h1.ok rs1 rfl)
theorem mw_or (ha : PT X a (tT X W ta)) (hb : L2.PW X (.BoolOp .Or (b :: rest) pos) (tT X W tb)) : L2.PW X (.BoolOp .Or (a :: b :: rest) pos) (tT X W (mOr ta tb)) := PWimp (pw_or ha hb) fun σ H Q ⟨φ, ρ, st, rs, re, h⟩ => by
  refine ⟨φ, ρ, st, rs, re, h.seq fun φ1 a x H1 st1 e1 rs1 rv1 h1 => ?_⟩
  subst rv1
  cases x with
  | false => exact iteF ⟨φ1, ρ, st1, rs1, re.ext e1, h1⟩
  | true => exact iteT (h1.ok rs1 rfl)
theorem mt_not (ha : PT X a (tT X W ta)) : PT X (.UnaryOp .Not a pos) (tT X W (mNot ta)) := (pt_not ha).imp fun σ H Q ⟨φ, ρ, st, rs, re, h⟩ => by
  refine ⟨φ, ρ, st, rs, re, h.seq fun φ1 a x H1 st1 e1 rs1 rv1 h1 => ?_⟩
  exact h1.ok rs1 (by rw [show x = a from rv1])
def mAndV (ma mb : MX) : MX := fun ρ st => (ma ρ st).bind fun x st1 => (getB x st1).bind fun k st2 => if k = true then mb ρ st2 else .ok (.bl false) st2
theorem me_one {op} (ha : PE X a (tE X W ma)) : PE X (.BoolOp op [a] pos) (tE X W ma) := pe_one ha
theorem getB_seq {K : PySem.W.Frag} {mg : Str → Option Value} {W : WH} {φ : List Addr} {H : Hp} {st : Store} {x : V} {a : A} {f : Bool → Store → R A} {Q : VK} (r : RV K φ H x a) (h : Pst K w mg (RV K) W φ H ((getB a st).bind f) Q) : ∃ k, x = .bl k ∧ Pst K w mg (RV K) W φ H (f k st) Q := by
  cases r with
  | bl b => exact ⟨b, rfl, h⟩
  | _ => exact (show False from h).elim
theorem me_and (ha : PE X a (tE X W ma)) (hb : PE X (.BoolOp .And (b :: rest) pos) (tE X W mb)) : PE X (.BoolOp .And (a :: b :: rest) pos) (tE X W (mAndV ma mb)) := (pe_and ha hb).imp fun σ H Q ⟨φ, ρ, st, rs, re, h⟩ => by
  refine ⟨φ, ρ, st, rs, re, h.seq fun φ1 a x H1 st1 e1 rs1 rv1 h1 => ?_⟩
  obtain ⟨k, hk, h2⟩ := getB_seq rv1 h1
  refine ⟨k, hk, ?_⟩
  cases k with
  | true => exact iteT ⟨φ1, ρ, st1, rs1, re.ext e1, h2⟩
  | false => exact iteF (h2.ok rs1 (.bl _))
def mNil : MA := fun _ st => .ok [] st
def mCons (ma : MX) (mr : MA) : MA := fun ρ st => (ma ρ st).bind fun x st1 => (mr ρ st1).bind fun xs st2 => .ok (x :: xs) st2
theorem ma_nil : PA X [] (tA X W mNil) := pa_nil.imp fun _ _ _ ⟨_, _, _, rs, _, h⟩ => h.ok rs .nil
variable {mr : MA}
theorem ma_cons (ha : PE X e (tE X W ma)) (hr : PA X es (tA X W mr)) (hs : starEach (e :: es) X.env = (false, eval e X.env) :: starEach es X.env := by rfl) : PA X (e :: es) (tA X W (mCons ma mr)) := (pa_cons ha hr hs).imp fun σ H Q ⟨φ, ρ, st, rs, re, h⟩ =>
  ⟨φ, ρ, st, rs, re, h.seq fun φ1 a x H1 st1 e1 rs1 rv1 h1 => ⟨φ1, ρ, st1, rs1, re.ext e1, h1.seq fun φ2 b y H2 st2 e2 rs2 rv2 h2 => h2.ok rs2 (.cons (rv1.ext e2) rv2)⟩⟩
def mTup (ms : MA) : MX := fun ρ st => (ms ρ st).bind fun xs st1 => if xs.length ≤ sizeLine then .ok (.tup xs) st1 else .bad
def mLst (ms : MA) : MX := fun ρ st => (ms ρ st).bind fun xs st1 => if xs.length ≤ sizeLine then .ok (.ref st1.length) (st1 ++ [.lst xs]) else .bad
theorem me_tup {x1} (h : PA X es (tA X W mr)) : PE X (.Tuple es x1 pos) (tE X W (mTup mr)) := (pe_tupP h).imp fun σ H Q ⟨φ, ρ, st, rs, re, h⟩ => by
  refine ⟨φ, ρ, st, rs, re, h.seq fun φ1 as xs H1 st1 e1 rs1 rv1 h1 => ?_⟩
  by_cases hz : as.length ≤ sizeLine
  · rw [if_pos hz] at h1
    exact ⟨by rw [rv1.length]; exact hz, fun p o hd hp => h1 φ1 _ _ (ext_new hp) (rs1.new hp) (.newTup rs1 hd hp rv1)⟩
  · rw [if_neg hz] at h1
    exact h1.elim
theorem me_lst (h : PA X es (tA X W mr)) : PE X (.List es pos) (tE X W (mLst mr)) := (pe_lst h).imp fun σ H Q ⟨φ, ρ, st, rs, re, h⟩ => by
  refine ⟨φ, ρ, st, rs, re, h.seq fun φ1 as xs H1 st1 e1 rs1 rv1 h1 => ?_⟩
  by_cases hz : as.length ≤ sizeLine
  · rw [if_pos hz] at h1
    exact ⟨by rw [rv1.length]; exact hz, fun p hp => h1 _ _ _ (ext_alloc rs1 hp) (rs1.alloc hp rv1) (.newLst rs1)⟩
  · rw [if_neg hz] at h1
    exact h1.elim
end
section
open PyProof.Rows
theorem tuple_mul_same (l : Addr) (items : Array Value) (n : Nat) (dd : Option Addr) (sl : Array (Option Value)) (x : Int) (u : Tok) (c0 : (decide (x < -(2 ^ 63)) || decide (x ≥ 2 ^ 63)) = false) (c1 : (items.isEmpty || x == 1) = true) :
    Meets (Builtin.«tuple.__mul__» ⟨[.ref l, .int x u], []⟩) (fun _ R s => s.heap.get? l = some { cls := .type "tuple", dict := dd, data := .seq items n, slots := sl } ∧
      R (.ok (.ret (Value.ref l))) s) :=
  .of_wp fun prog w A R s h => by
    obtain ⟨hp, g, d, tk, os⟩ := s
    obtain ⟨hl, h⟩ := h
    have f1 := AutoSeq1.idx_int
    wp_walk using wpAny_loadPart' hl
    repeat (first
      | (refine wpAny_ite_false (decide_eq_false (by rw [c0]; exact Bool.false_ne_true)) ?_; wp_walk using wpAny_loadPart' hl)
      | (refine wpAny_ite_true (decide_eq_true (by rw [c1])) ?_; wp_walk using wpAny_loadPart' hl))
    exact ⟨_, rfl, h⟩
theorem tuple_mul_none (l : Addr) (items : Array Value) (n : Nat) (dd : Option Addr) (sl : Array (Option Value)) (x : Int) (u : Tok) (c0 : (decide (x < -(2 ^ 63)) || decide (x ≥ 2 ^ 63)) = false) (c1 : (items.isEmpty || x == 1) = false) (c2 : (decide (x ≤ 0) || items.isEmpty) = true) :
    Meets (Builtin.«tuple.__mul__» ⟨[.ref l, .int x u], []⟩) (fun _ R s => s.heap.get? l = some { cls := .type "tuple", dict := dd, data := .seq items n, slots := sl } ∧
      R (.ok (.ret (Value.ref s.heap.objs.size))) { s with heap := s.heap.push { cls := Value.type "tuple", data := Data.seq #[] }, toks := s.toks }) :=
  .of_wp fun prog w A R s h => by
    obtain ⟨hp, g, d, tk, os⟩ := s
    obtain ⟨hl, h⟩ := h
    have f1 := AutoSeq1.idx_int
    wp_walk using wpAny_loadPart' hl
    repeat (first
      | (refine wpAny_ite_false (decide_eq_false (by rw [c0]; exact Bool.false_ne_true)) ?_; wp_walk using wpAny_loadPart' hl)
      | (refine wpAny_ite_false (decide_eq_false (by rw [c1]; exact Bool.false_ne_true)) ?_; wp_walk using wpAny_loadPart' hl)
      | (refine wpAny_ite_true (decide_eq_true (by rw [c2])) ?_; wp_walk using wpAny_loadPart' hl))
    exact ⟨_, rfl, h⟩
def rRepU (K : PySem.W.Frag) : R2 := fun x y H Q => ∃ l k xs, x = .ref l ∧ y = .int k ∧ SqT K H l xs ∧ 0 ≤ k ∧ k ≤ 1000000 ∧ xs.length * k.toNat ≤ sizeLine ∧
  (((xs = [] ∨ k = 1) ∧ Q (.ref l) H) ∨ (xs ≠ [] ∧ k ≠ 1 ∧ NewT H (List.replicate k.toNat xs).flatten Q))
section
variable {X : Cx}
theorem op_repU : OpR X (binaryOp .Mult) (rRepU X.K) := by
  intro pins s σ H x y v u Q I rx ry h
  obtain ⟨l, k, xs, rfl, rfl, hT, h1, h2, hz, q⟩ := h
  cases rx
  obtain ⟨t, rfl⟩ := ry
  obtain ⟨its, r, ⟨⟨cls, dd, data, sl⟩, ho, hc, n, hd⟩, hs⟩ := I.tuple hT
  simp only at hc hd
  subst hc hd
  have hle : its.length = xs.length := r.length.symm
  have hsz0 : its.toArray.size = xs.length := by rw [List.size_toArray, hle]
  have c0 : (decide (k < -(2 ^ 63)) || decide (k ≥ 2 ^ 63)) = false := by
    rw [decide_eq_false (by omega), decide_eq_false (by omega)] <;> rfl
  rcases q with ⟨hq, q⟩ | ⟨hne, hk1, q⟩
  · have c1 : (its.toArray.isEmpty || k == 1) = true := by
      rcases hq with e | e
      · subst e
        have : its = [] := List.eq_nil_of_length_eq_zero (by rw [hle]; rfl)
        subst this
        rfl
      · subst e
        simp
    refine wpAny_binaryOp_repeat_ref (T := "tuple") (U := "int") (by decide) ⟨_, ho, rfl⟩ (fun s' => typeIs_int s' k t) noFill_tuple_mul F.fills_int_mul F.slot_int_rmul repeat_tuple F.slot_int_index.lookup
      (call_meets F.slot_int_rmul (typeIs_int s k t) F.entry_int_rmul (F.args_int_rmul_2 _ _) (int_rmul_tuple k t l its.toArray n dd sl)
        ⟨ho, rfl, ⟨_, ho, rfl⟩, call_meets F.slot_tuple_mul ⟨_, ho, rfl⟩ F.entry_tuple_mul (F.args_tuple_mul_2 _ _) (tuple_mul_same l its.toArray n dd sl k t c0 c1) ⟨ho, ?_⟩⟩)
    exact ⟨.ref l, H, I, rfl, q⟩
  · have hn : its ≠ [] := fun e => hne (by
      rw [e] at hle
      exact List.eq_nil_of_length_eq_zero hle.symm)
    have hi : its.toArray.isEmpty = false := by
      cases its with
      | nil => exact absurd rfl hn
      | cons a b => rfl
    have c1 : (its.toArray.isEmpty || k == 1) = false := by
      rw [hi, Bool.false_or]
      exact beq_eq_false_iff_ne.mpr hk1
    by_cases k0 : k = 0
    · subst k0
      have c2 : (decide ((0 : Int) ≤ 0) || its.toArray.isEmpty) = true := by simp
      refine wpAny_binaryOp_repeat_ref (T := "tuple") (U := "int") (by decide) ⟨_, ho, rfl⟩ (fun s' => typeIs_int s' 0 t) noFill_tuple_mul F.fills_int_mul F.slot_int_rmul repeat_tuple F.slot_int_index.lookup
        (call_meets F.slot_int_rmul (typeIs_int s 0 t) F.entry_int_rmul (F.args_int_rmul_2 _ _) (int_rmul_tuple 0 t l its.toArray n dd sl)
          ⟨ho, rfl, ⟨_, ho, rfl⟩, call_meets F.slot_tuple_mul ⟨_, ho, rfl⟩ F.entry_tuple_mul (F.args_tuple_mul_2 _ _) (tuple_mul_none l its.toArray n dd sl 0 t c0 c1 c2) ⟨ho, ?_⟩⟩)
      exact new_tup (its := []) (xs := []) I .nil (Nat.zero_le _) q
    · have c2 : (decide (k ≤ 0) || its.toArray.isEmpty) = false := by
        rw [hi, Bool.or_false]
        exact decide_eq_false (by omega)
      have hm : ((its.toArray.size : Nat) : Int) * k ≤ 16777216 := by
        rw [hsz0]
        have e1 : ((xs.length * k.toNat : Nat) : Int) = ((xs.length : Nat) : Int) * k := by
          rw [Int.natCast_mul, Int.toNat_of_nonneg h1]
        rw [← e1]
        rw [sizeLine_eq] at hz
        omega
      have flen : (List.replicate k.toNat its).flatten.length ≤ sizeLine := by
        rw [PyProof.Rows.lm_len_rep_flat, hle, Nat.mul_comm]
        exact hz
      have c4 : Builtin.Tuple.tupleTooMany (((its.toArray.size : Nat) : Int) * k) = false := by
        unfold Builtin.Tuple.tupleTooMany
        rw [sizeLine_eq]
        exact decide_eq_false (by omega)
      refine wpAny_binaryOp_repeat_ref (T := "tuple") (U := "int") (by decide) ⟨_, ho, rfl⟩ (fun s' => typeIs_int s' k t) noFill_tuple_mul F.fills_int_mul F.slot_int_rmul repeat_tuple F.slot_int_index.lookup
        (call_meets F.slot_int_rmul (typeIs_int s k t) F.entry_int_rmul (F.args_int_rmul_2 _ _) (int_rmul_tuple k t l its.toArray n dd sl)
          ⟨ho, rfl, ⟨_, ho, rfl⟩, call_meets F.slot_tuple_mul ⟨_, ho, rfl⟩ F.entry_tuple_mul (F.args_tuple_mul_2 _ _) (tuple_mulW l its.toArray n dd sl k t c0 c1 c2 (by omega) c4 (by rw [size_rep, List.size_toArray]; exact flen)) ⟨ho, ?_⟩⟩)
      rw [size_rep]
      exact new_tup I (r.rep k.toNat) (by rw [PyProof.Rows.lm_len_rep_flat, Nat.mul_comm]; exact hz) q
end
end
section
variable {X : Cx}
def rCatP (K : PySem.W.Frag) : R2 := fun x y H Q => ∃ a b xs ys, x = .ref a ∧ y = .ref b ∧ SqT K H a xs ∧ SqT K H b ys ∧ xs.length + ys.length ≤ sizeLine ∧ (xs = [] → Q (.ref b) H) ∧ (ys = [] → Q (.ref a) H) ∧ NewT H (xs ++ ys) Q
theorem op_catP : OpR X (binaryOp .Add) (rCatP X.K) := by
  intro pins s σ H x y v u Q I rx ry ⟨a, b, xs, ys, ex, ey, ha, hb, hz, q0, q1, q2⟩
  subst ex ey
  cases rx
  cases ry
  obtain ⟨its, r1, p1, _⟩ := I.tuple ha
  obtain ⟨jts, r2, p2, _⟩ := I.tuple hb
  by_cases hx : xs = []
  · subst hx
    cases r1
    exact cat_tup0 p1 p2 ⟨.ref b, H, I, rfl, q0 rfl⟩
  · exact HT.cat_tup p1 p2 (fun z => hx (r1.nil_iff.mp z)) (fun z => ⟨.ref a, H, I, rfl, q1 (r2.nil_iff.mp z)⟩) (fun z => new_tup I (r1.append r2) (by rw [List.length_append]; exact hz) q2) (by rw [← r1.length, ← r2.length]; exact hz)
abbrev rAddU (K : PySem.W.Frag) : R2 := fun x y H Q => (rI0 (fun i j => .int (i + j)) x y H Q ∨ (∃ i j, x = .str i ∧ y = .str j ∧ i.length + j.length ≤ sizeLine ∧ Q (.str (i ++ j)) H)) ∨ (rCatP K x y H Q ∨ rCat x y H Q)
theorem op_addU : OpR X (binaryOp .Add) (rAddU X.K) := OpR.or (OpR.or op_add op_add_str) (OpR.or op_catP op_cat)
theorem os_add : OpS X (rAddU X.K) addA := fun W φ H st x y a b Q rs ra rb h => by
  cases ra with
  | int i =>
    cases rb with
    | int j => exact .inl (.inl ⟨i, j, rfl, rfl, h.ok rs (.int _)⟩)
    | _ => exact (show False from h).elim
  | str i =>
    cases rb with
    | str j =>
      unfold addA at h
      simp only at h
      split at h
      · rename_i hz
        exact .inl (.inr ⟨i, j, rfl, rfl, hz, h.ok rs (.str _)⟩)
      · exact (show False from h).elim
    | _ => exact (show False from h).elim
  | @tup p xs ds q qs =>
    cases rb with
    | @tup p2 ys es q' qs' =>
      unfold addA at h
      simp only at h
      split at h
      · rename_i hz
        rw [← qs.length, ← qs'.length] at hz
        refine .inr (.inl ⟨p, p2, xs, ys, rfl, rfl, q.sq, q'.sq, hz, fun e => ?_, fun e => ?_, fun p3 o hd hp => ?_⟩)
        · subst e
          cases qs
          exact h.ok rs (.tup q' qs')
        · subst e
          cases qs'
          rw [List.append_nil] at h
          exact h.ok rs (.tup q qs)
        · exact h _ _ _ (ext_new hp) (rs.new hp) (.newTup rs hd hp (qs.app qs'))
      · exact (show False from h).elim
    | _ => exact (show False from h).elim
  | @ref p i q =>
    cases rb with
    | @ref p2 j q2 =>
      unfold addA at h
      simp only at h
      cases e1 : st[i]? with
      | none => rw [e1] at h; exact h.elim
      | some o1 =>
        cases o1 with
        | oth u => rw [e1] at h; exact h.elim
        | lst xs =>
          cases e2 : st[j]? with
          | none => rw [e1, e2] at h; exact h.elim
          | some o2 =>
            cases o2 with
            | oth u => rw [e1, e2] at h; exact h.elim
            | lst ys =>
              rw [e1, e2] at h
              simp only at h
              obtain ⟨vs, h1, h1'⟩ := rs.lst q e1
              obtain ⟨ws, h2, h2'⟩ := rs.lst q2 e2
              split at h
              · rename_i hz
                rw [← h1'.length, ← h2'.length] at hz
                exact .inr (.inr ⟨p, p2, vs, ws, rfl, rfl, h1, h2, hz, fun p3 hp => h _ _ _ (ext_alloc rs hp) (rs.alloc hp (h1'.app h2')) (.newLst rs)⟩)
              · exact (show False from h).elim
    | _ => exact (show False from h).elim
  | _ => exact (show False from h).elim
theorem os_int {C : Int → Int → Prop} [∀ i j, Decidable (C i j)] {g : Int → Int → Int} {f : A → A → Store → R A} (hf : ∀ i j st, f (.int i) (.int j) st = if C i j then .ok (.int (g i j)) st else .bad)
    (hn : ∀ a b st, (∀ i j, ¬ (a = .int i ∧ b = .int j)) → f a b st = .bad) : OpS X (rI C fun i j => .int (g i j)) f := fun W φ H st x y a b Q rs ra rb h => by
  by_cases hab : ∃ i j, a = .int i ∧ b = .int j
  · obtain ⟨i, j, rfl, rfl⟩ := hab
    cases ra
    cases rb
    rw [hf] at h
    by_cases hc : C i j
    · rw [if_pos hc] at h
      exact ⟨i, j, rfl, rfl, hc, h.ok rs (.int _)⟩
    · rw [if_neg hc] at h
      exact h.elim
  · rw [hn a b st fun i j z => hab ⟨i, j, z⟩] at h
    exact h.elim
theorem os_int0 {g : Int → Int → Int} {f : A → A → Store → R A} (hf : ∀ i j st, f (.int i) (.int j) st = .ok (.int (g i j)) st)
    (hn : ∀ a b st, (∀ i j, ¬ (a = .int i ∧ b = .int j)) → f a b st = .bad) : OpS X (rI0 fun i j => .int (g i j)) f := fun W φ H st x y a b Q rs ra rb h => by
  by_cases hab : ∃ i j, a = .int i ∧ b = .int j
  · obtain ⟨i, j, rfl, rfl⟩ := hab
    cases ra
    cases rb
    rw [hf] at h
    exact ⟨i, j, rfl, rfl, h.ok rs (.int _)⟩
  · rw [hn a b st fun i j z => hab ⟨i, j, z⟩] at h
    exact h.elim
theorem os_intB {g : Int → Int → Bool} {f : A → A → Store → R A} (hf : ∀ i j st, f (.int i) (.int j) st = .ok (.bl (g i j)) st)
    (hn : ∀ a b st, (∀ i j, ¬ (a = .int i ∧ b = .int j)) → f a b st = .bad) : OpS X (rI0 fun i j => .bl (g i j)) f := fun W φ H st x y a b Q rs ra rb h => by
  by_cases hab : ∃ i j, a = .int i ∧ b = .int j
  · obtain ⟨i, j, rfl, rfl⟩ := hab
    cases ra
    cases rb
    rw [hf] at h
    exact ⟨i, j, rfl, rfl, h.ok rs (.bl _)⟩
  · rw [hn a b st fun i j z => hab ⟨i, j, z⟩] at h
    exact h.elim
theorem os_sub : OpS X (rI0 fun i j => .int (i - j)) subA := os_int0 (fun _ _ _ => rfl) fun a b st h => by
  cases a <;> cases b <;> first | rfl | exact absurd ⟨rfl, rfl⟩ (h _ _)
theorem os_and : OpS X (rI0 fun i j => .int (Builtin.bitAnd i j)) andA := os_int0 (fun _ _ _ => rfl) fun a b st h => by
  cases a <;> cases b <;> first | rfl | exact absurd ⟨rfl, rfl⟩ (h _ _)
theorem os_xor : OpS X (rI0 fun i j => .int (Builtin.bitXor i j)) xorA := os_int0 (fun _ _ _ => rfl) fun a b st h => by
  cases a <;> cases b <;> first | rfl | exact absurd ⟨rfl, rfl⟩ (h _ _)
theorem os_ge : OpS X (rI0 fun i j => .bl (decide (j ≤ i))) geA := os_intB (fun _ _ _ => rfl) fun a b st h => by
  cases a <;> cases b <;> first | rfl | exact absurd ⟨rfl, rfl⟩ (h _ _)
theorem os_pow : OpS X (rI CPow fun i j => .int (i ^ j.toNat)) powA := os_int (C := fun i j => 0 ≤ j ∧ j ≤ 1000000 ∧ i.natAbs < 2 ^ 64) (fun _ _ _ => rfl) fun a b st h => by
  cases a <;> cases b <;> first | rfl | exact absurd ⟨rfl, rfl⟩ (h _ _)
theorem os_shr : OpS X (rI (fun _ j => 0 ≤ j) fun i j => .int (i / 2 ^ j.toNat)) shrA := os_int (C := fun _ j => 0 ≤ j) (fun _ _ _ => rfl) fun a b st h => by
  cases a <;> cases b <;> first | rfl | exact absurd ⟨rfl, rfl⟩ (h _ _)
theorem os_fdiv : OpS X (rI CDivW fun i j => .int (i / j)) fdivA := os_int (C := fun _ j => 0 < j ∧ j.natAbs.log2 < 9000) (fun _ _ _ => rfl) fun a b st h => by
  cases a <;> cases b <;> first | rfl | exact absurd ⟨rfl, rfl⟩ (h _ _)
theorem op_modP : OpR X (binaryOp .Mod) (rI (fun _ j => 0 < j) fun i j => .int (i % j)) := fun pins s σ H x y v u Q I rx ry ⟨i, j, e1, e2, hc, q⟩ =>
  op_modN pins s σ H x y v u Q I rx ry ⟨i, j, e1, e2, (show j ≠ 0 from fun z => by subst z; exact absurd hc (by decide)), by show Q (.int (i.fmod j)) H; rw [Int.fmod_eq_emod_of_nonneg i (Int.le_of_lt hc)]; exact q⟩
theorem os_mod : OpS X (rI (fun _ j => 0 < j) fun i j => .int (i % j)) modA := os_int (C := fun _ j => 0 < j) (fun _ _ _ => rfl) fun a b st h => by
  cases a <;> cases b <;> first | rfl | exact absurd ⟨rfl, rfl⟩ (h _ _)
abbrev rMulU (K : PySem.W.Frag) : R2 := fun x y H Q => (rI CMul (fun i j => .int (i * j)) x y H Q ∨ rI CMulX (fun i j => .int (i * j)) x y H Q) ∨ (rRep x y H Q ∨ rRepU K x y H Q)
theorem op_mulU : OpR X (binaryOp .Mult) (rMulU X.K) := OpR.or (OpR.or op_mul op_mulX) (OpR.or op_rep op_repU)
theorem os_mul : OpS X (rMulU X.K) mulA := fun W φ H st x y a b Q rs ra rb h => by
  cases ra with
  | int i =>
    cases rb with
    | int j =>
      unfold mulA at h
      simp only at h
      split at h
      · rename_i hz
        exact hz.elim (fun hz => .inl (.inl ⟨i, j, rfl, rfl, hz, h.ok rs (.int _)⟩)) (fun hz => .inl (.inr ⟨i, j, rfl, rfl, hz, h.ok rs (.int _)⟩))
      · exact (show False from h).elim
    | _ => exact (show False from h).elim
  | @ref p i q =>
    cases rb with
    | int k =>
      unfold mulA at h
      simp only at h
      cases e1 : st[i]? with
      | none => rw [e1] at h; exact h.elim
      | some o1 =>
        cases o1 with
        | oth u => rw [e1] at h; exact h.elim
        | lst xs =>
          rw [e1] at h
          simp only at h
          obtain ⟨vs, h1, h1'⟩ := rs.lst q e1
          split at h
          · rename_i hz
            rw [← h1'.length] at hz
            exact .inr (.inl ⟨p, k, vs, rfl, rfl, h1, hz.1, hz.2.1, hz.2.2, fun p3 hp => h _ _ _ (ext_alloc rs hp) (rs.alloc hp (h1'.flat _)) (.newLst rs)⟩)
          · exact (show False from h).elim
    | _ => exact (show False from h).elim
  | @tup p xs ds q qs =>
    cases rb with
    | int k =>
      unfold mulA at h
      simp only at h
      split at h
      · rename_i hz
        rw [← qs.length] at hz
        refine .inr (.inr ⟨p, k, xs, rfl, rfl, q.sq, hz.1, hz.2.1, hz.2.2, ?_⟩)
        by_cases c : xs = [] ∨ k = 1
        · refine .inl ⟨c, ?_⟩
          rcases c with e | e
          · subst e
            cases qs
            have e2 : (List.replicate k.toNat ([] : List A)).flatten = [] := by simp
            rw [e2] at h
            exact h.ok rs (.tup q .nil)
          · subst e
            have e2 : (List.replicate (1 : Int).toNat ds).flatten = ds := by simp
            rw [e2] at h
            exact h.ok rs (.tup q qs)
        · refine .inr ⟨fun e => c (.inl e), fun e => c (.inr e), fun p3 o hd hp => ?_⟩
          exact h _ _ _ (ext_new hp) (rs.new hp) (.newTup rs hd hp (qs.flat _))
      · exact (show False from h).elim
    | _ => exact (show False from h).elim
  | _ => exact (show False from h).elim
abbrev rLtU : R2 := fun x y H Q => rI0 (fun i j => .bl (decide (i < j))) x y H Q ∨ (∃ i j : Str, x = .str i ∧ y = .str j ∧ Q (.bl (decide (i.cps.toList < j.cps.toList))) H)
abbrev rGtU : R2 := fun x y H Q => rI0 (fun i j => .bl (decide (j < i))) x y H Q ∨ (∃ i j : Str, x = .str i ∧ y = .str j ∧ Q (.bl (decide (j.cps.toList < i.cps.toList))) H)
theorem op_ltU : OpR X (compareOp .Lt) rLtU := OpR.or op_lt op_lt_str
theorem op_gtU : OpR X (compareOp .Gt) rGtU := OpR.or op_gt op_gt_str
theorem os_lt : OpS X rLtU ltA := fun W φ H st x y a b Q rs ra rb h => by
  cases ra with
  | int i =>
    cases rb with
    | int j => exact .inl ⟨i, j, rfl, rfl, h.ok rs (.bl _)⟩
    | _ => exact (show False from h).elim
  | str i =>
    cases rb with
    | str j => exact .inr ⟨i, j, rfl, rfl, h.ok rs (.bl _)⟩
    | _ => exact (show False from h).elim
  | _ => exact (show False from h).elim
theorem os_gt : OpS X rGtU gtA := fun W φ H st x y a b Q rs ra rb h => by
  cases ra with
  | int i =>
    cases rb with
    | int j => exact .inl ⟨i, j, rfl, rfl, h.ok rs (.bl _)⟩
    | _ => exact (show False from h).elim
  | str i =>
    cases rb with
    | str j => exact .inr ⟨i, j, rfl, rfl, h.ok rs (.bl _)⟩
    | _ => exact (show False from h).elim
  | _ => exact (show False from h).elim
abbrev rEqU (K : PySem.W.Frag) : R2 := fun x y H Q => rEq x y H Q ∨ rEqD K x y H Q
abbrev rNeU (K : PySem.W.Frag) : R2 := fun x y H Q => rNe x y H Q ∨ rNeD K x y H Q
theorem op_eqU (hu : X.A.units + 64 < cLine) : OpR X (compareOp .Eq) (rEqU X.K) := OpR.or op_eq (op_eqD hu)
theorem op_neU (hu : X.A.units + 64 < cLine) : OpR X (compareOp .NotEq) (rNeU X.K) := OpR.or op_ne (op_neD hu)
theorem eqB_ok {K : PySem.W.Frag} {φ : List Addr} {H : Hp} {st : Store} {x y : V} {a b : A} {k : Bool} (rs : RS K w mg φ H st) (ra : RV K φ H x a) (rb : RV K φ H y b) (h : eqB a b st = some k) :
    (scal x y = true ∧ decide (x = y) = k) ∨ ∃ d e, Dp K H x d ∧ Dp K H y e ∧ SeqAt.shaped d = true ∧ SeqAt.shaped e = true ∧ PyData.eqv d e = k := by
  unfold eqB at h
  cases e0 : eqS a b with
  | some b' => rw [e0] at h; cases h; exact .inl (eqS_ok ra rb e0)
  | none =>
    rw [e0] at h
    simp only at h
    cases e1 : dataOf st a with
    | none => rw [e1] at h; cases h
    | some d =>
      cases e2 : dataOf st b with
      | none => rw [e1, e2] at h; cases h
      | some e =>
        rw [e1, e2] at h
        simp only at h
        by_cases hs : SeqAt.shaped d = true ∧ SeqAt.shaped e = true
        · rw [if_pos hs] at h
          cases h
          exact .inr ⟨d, e, dataOf_ok rs ra e1, dataOf_ok rs rb e2, hs.1, hs.2, rfl⟩
        · rw [if_neg hs] at h
          cases h
theorem os_eq : OpS X (rEqU X.K) eqA := fun W φ H st x y a b Q rs ra rb h => by
  unfold eqA at h
  cases e : eqB a b st with
  | none => rw [e] at h; exact (show False from h).elim
  | some k =>
    rw [e] at h
    rcases eqB_ok rs ra rb e with ⟨h1, h2⟩ | ⟨d, e, h1, h2, h3, h4, h5⟩
    · exact .inl ⟨h1, by rw [h2]; exact h.ok rs (.bl _)⟩
    · exact .inr ⟨d, e, h1, h2, h3, h4, by rw [h5]; exact h.ok rs (.bl _)⟩
theorem os_ne : OpS X (rNeU X.K) neA := fun W φ H st x y a b Q rs ra rb h => by
  unfold neA at h
  cases e : eqB a b st with
  | none => rw [e] at h; exact (show False from h).elim
  | some k =>
    rw [e] at h
    rcases eqB_ok rs ra rb e with ⟨h1, h2⟩ | ⟨d, e, h1, h2, h3, h4, h5⟩
    · exact .inl ⟨h1, by rw [h2]; exact h.ok rs (.bl _)⟩
    · exact .inr ⟨d, e, h1, h2, h3, h4, by rw [h5]; exact h.ok rs (.bl _)⟩
theorem isNon_eq {K : PySem.W.Frag} {φ : List Addr} {H : Hp} {x : V} {a : A} (r : RV K φ H x a) : decide (x = .non) = isNonA a := by
  cases r <;> rfl
theorem os_isN : OpS X (fun x y H Q => y = .non ∧ Q (.bl (decide (x = .non))) H) isNA := fun W φ H st x y a b Q rs ra rb h => by
  cases rb with
  | non =>
    refine ⟨rfl, ?_⟩
    rw [isNon_eq ra]
    have h' : Pst X.K X.w X.mg (RV X.K) W φ H (.ok (A.bl (isNonA a)) st) Q := by cases a <;> exact h
    exact h'.ok rs (RV.bl _)
  | _ => cases a <;> exact (show False from h).elim
theorem os_notN : OpS X (fun x y H Q => y = .non ∧ Q (.bl (!decide (x = .non))) H) notNA := fun W φ H st x y a b Q rs ra rb h => by
  cases rb with
  | non =>
    refine ⟨rfl, ?_⟩
    rw [isNon_eq ra]
    have h' : Pst X.K X.w X.mg (RV X.K) W φ H (.ok (A.bl (!isNonA a)) st) Q := by cases a <;> exact h
    exact h'.ok rs (RV.bl _)
  | _ => cases a <;> exact (show False from h).elim
end
end ML
namespace ML
open PySem PySem.Spec L2
section
variable {X : Cx} {W : WX} {a b e : Expr} {es : List Expr} {ma mb : MX} {ms : MA} {pos : Pos}
theorem atI_rv {K : PySem.W.Frag} {φ : List Addr} {H : Hp} {vs : List V} {ds : List A} {i : Int} {d : A} (q : RVs K φ H vs ds) (h : atI ds i = some d) : ∃ v, atI vs i = some v ∧ RV K φ H v d := by
  unfold atI at h ⊢
  rw [q.length]
  cases e : ixN ds.length i with
  | none => rw [e] at h; cases h
  | some j =>
    rw [e] at h
    exact q.get h
def ixA : A → A → Store → R A
  | .tup xs, .int i, st => match atI xs i with
    | some d => .ok d st
    | none => .bad
  | .scr xs, .int i, st => match atI xs i with
    | some d => .ok d st
    | none => .bad
  | .str z, .int i, st => if z.length ≤ sizeLine then match atI z.cps.toList i with
    | some c => .ok (.str ⟨#[c]⟩) st
    | none => .bad else .bad
  | .ref r, .int i, st => match st[r]? with
    | some (.lst xs) => match atI xs i with
      | some d => .ok d st
      | none => .bad
    | _ => .bad
  | _, _, _ => .bad
theorem os_ix : OpS X (rIx X.K) ixA := fun W φ H st x y a b Q rs ra rb h => by
  cases ra with
  | @tup p xs ds q qs =>
    cases rb with
    | int i =>
      unfold ixA at h
      simp only at h
      cases e : atI ds i with
      | none => rw [e] at h; exact h.elim
      | some d =>
        rw [e] at h
        obtain ⟨v, h1, h2⟩ := atI_rv qs e
        exact .inr (.inl ⟨p, xs, i, v, rfl, rfl, q.sq, h1, h.ok rs h2⟩)
    | _ => exact (show False from h).elim
  | @scr p xs ds q qs =>
    cases rb with
    | int i =>
      unfold ixA at h
      simp only at h
      cases e : atI ds i with
      | none => rw [e] at h; exact h.elim
      | some d =>
        rw [e] at h
        obtain ⟨v, h1, h2⟩ := atI_rv qs e
        exact .inl ⟨p, xs, i, v, rfl, rfl, q.sq, h1, h.ok rs h2⟩
    | _ => exact (show False from h).elim
  | str z =>
    cases rb with
    | int i =>
      unfold ixA at h
      simp only at h
      split at h
      · rename_i hz
        cases e : atI z.cps.toList i with
        | none => rw [e] at h; exact h.elim
        | some c =>
          rw [e] at h
          exact .inr (.inr ⟨z, i, c, rfl, rfl, hz, e, h.ok rs (.str _)⟩)
      · exact h.elim
    | _ => exact (show False from h).elim
  | @ref p r q =>
    cases rb with
    | int i =>
      unfold ixA at h
      simp only at h
      cases e1 : st[r]? with
      | none => rw [e1] at h; exact h.elim
      | some o =>
        cases o with
        | oth u => rw [e1] at h; exact h.elim
        | lst ds =>
          rw [e1] at h
          simp only at h
          obtain ⟨vs, h1, h1'⟩ := rs.lst q e1
          cases e : atI ds i with
          | none => rw [e] at h; exact h.elim
          | some d =>
            rw [e] at h
            obtain ⟨v, h2, h3⟩ := atI_rv h1' e
            exact .inl ⟨p, vs, i, v, rfl, rfl, .inl (.inl h1), h2, h.ok rs h3⟩
    | _ => exact (show False from h).elim
  | _ => cases rb <;> exact (show False from h).elim
theorem me_ix (ha : PE X a (tE X W ma)) (hb : PE X b (tE X W mb)) (hs : PlainIx b := by exact fun _ _ => rfl) : PE X (.Subscript a b pos) (tE X W (mBin ixA ma mb)) := (pe_ix ix_seq ha hb hs).imp fun _ _ _ h => bin_ok os_ix h
abbrev MO := Env → Store → R (Option Int)
abbrev rlO : List Addr → Hp → Option Int → Option Int → Prop := fun _ _ x y => x = y
abbrev tO (X : Cx) (W : WX) (m : MO) : TO := tG X.K X.w X.mg rlO W m
def mNoPart : MO := fun _ st => .ok none st
def getI : A → Store → R Int
  | .int i, st => .ok i st
  | _, _ => .bad
def mPart (m : MX) : MO := fun ρ st => (m ρ st).bind fun x st1 => (getI x st1).bind fun i st2 => .ok (some i) st2
theorem POimp {o : Option Expr} {t t' : TO} (h : PO X o t) (k : ∀ σ H Q, t' σ H Q → t σ H Q) : PO X o t' := ⟨fun pins s σ H Q I q => h.run pins s σ H Q I (k _ _ _ q)⟩
theorem mo_none : PO X none (tO X W mNoPart) := POimp po_none fun _ _ _ ⟨_, _, _, rs, _, h⟩ => h.ok rs rfl
theorem mo_some (ha : PE X a (tE X W ma)) : PO X (some a) (tO X W (mPart ma)) := POimp (po_some ha) fun σ H Q ⟨φ, ρ, st, rs, re, h⟩ => by
  refine ⟨φ, ρ, st, rs, re, h.seq fun φ1 a x H1 st1 e1 rs1 rv1 h1 => ?_⟩
  cases rv1 with
  | int i => exact ⟨i, rfl, h1.ok rs1 rfl⟩
  | _ => exact (show False from h1).elim
def cutA {α : Type} (xs : List α) (lo hi : Option Int) : List α := (xs.drop (HT.sIx xs.length 0 lo)).take (HT.sIx xs.length xs.length hi - HT.sIx xs.length 0 lo)
def slA : A → Option Int → Option Int → Store → R A
  | .tup xs, lo, hi, st => .ok (.tup (cutA xs lo hi)) st
  | .scr xs, lo, hi, st => .ok (.ref st.length) (st ++ [.lst (cutA xs lo hi)])
  | .str z, lo, hi, st => if z.length ≤ sizeLine then .ok (.str (cutS z lo hi)) st else .bad
  | .ref r, lo, hi, st => match st[r]? with
    | some (.lst xs) => .ok (.ref st.length) (st ++ [.lst (cutA xs lo hi)])
    | _ => .bad
  | _, _, _, _ => .bad
theorem cut_rv {K : PySem.W.Frag} {φ : List Addr} {H : Hp} {vs : List V} {ds : List A} (q : RVs K φ H vs ds) (lo hi : Option Int) : RVs K φ H (cutV vs lo hi) (cutA ds lo hi) := by
  unfold cutV cutA
  rw [q.length]
  exact (q.drop _).take _
theorem cut_all {α : Type} {xs : List α} {lo hi : Option Int} (h : HT.sIx xs.length 0 lo = 0 ∧ HT.sIx xs.length xs.length hi = xs.length) : cutA xs lo hi = xs := by
  unfold cutA
  rw [h.1, h.2]
  simp
def rSlP (K : PySem.W.Frag) : V → Option Int → Option Int → Hp → VK → Prop := fun x lo hi H Q => ∃ a xs, x = .ref a ∧ SqT K H a xs ∧ (HT.sIx xs.length 0 lo = 0 ∧ HT.sIx xs.length xs.length hi = xs.length → Q (.ref a) H) ∧ NewT H (cutV xs lo hi) Q
theorem sl_tupP : SlR X (rSlP X.K) := by
  intro pins s σ H x v vl vu lo hi sl Q I rx hs pl pu ⟨a, xs, ex, hx, q1, q2⟩
  subst ex
  cases rx
  obtain ⟨its, r, ht, hz⟩ := I.tuple hx
  have hn : its.toArray.size = xs.length := by rw [List.size_toArray, r.length]
  refine ⟨"tuple", _, PyProof.Rows.slot_tuple_getitem.lookup, ht.typeIs, ?_⟩
  by_cases hw : HT.sIx xs.length 0 lo = 0 ∧ HT.sIx xs.length xs.length hi = xs.length
  · exact getItem_tuple_whole ht hs pl pu (by rw [hn]; exact hw) ⟨.ref a, H, I, rfl, q1 hw⟩
  · refine HT.getItem_tuple_cut ht hs pl pu (by rw [hn]; exact hw) ?_ (by rw [hn]; exact hz)
    rw [hn]
    exact new_tup I ((r.drop (HT.sIx xs.length 0 lo)).take (HT.sIx xs.length xs.length hi - HT.sIx xs.length 0 lo)) (Nat.le_trans (cutV_length xs lo hi) hz) q2
abbrev rSlU (K : PySem.W.Frag) : V → Option Int → Option Int → Hp → VK → Prop := fun x lo hi H Q => rSlL K x lo hi H Q ∨ (rSlP K x lo hi H Q ∨ rSlS x lo hi H Q)
theorem sl_U : SlR X (rSlU X.K) := sl_list.or (sl_tupP.or sl_str)
def mSl (ma : MX) (ml mh : MO) : MX := fun ρ st => (ma ρ st).bind fun x st1 => (ml ρ st1).bind fun lo st2 => (mh ρ st2).bind fun hi st3 => slA x lo hi st3
theorem me_slice {lo hi : Option Expr} {ml mh : MO} {p2 : Pos} (ha : PE X a (tE X W ma)) (hl : PO X lo (tO X W ml)) (hh : PO X hi (tO X W mh)) : PE X (.Subscript a (.Slice lo hi none p2) pos) (tE X W (mSl ma ml mh)) := (pe_slice sl_U ha hl hh).imp fun σ H Q ⟨φ, ρ, st, rs, re, h⟩ => by
  refine ⟨φ, ρ, st, rs, re, h.seq fun φ1 a x H1 st1 e1 rs1 rv1 h1 => ⟨φ1, ρ, st1, rs1, re.ext e1, h1.seq fun φ2 lo lo' H2 st2 e2 rs2 rv2 h2 => ⟨φ2, ρ, st2, rs2, (re.ext e1).ext e2, h2.seq fun φ3 hi hi' H3 st3 e3 rs3 rv3 h3 => ?_⟩⟩⟩
  have r := (rv1.ext e2).ext e3
  cases rv2
  cases rv3
  cases r with
  | @tup p xs ds q qs =>
    refine .inr (.inl ⟨p, xs, rfl, q.sq, fun hw => ?_, fun p2 o hd hp => ?_⟩)
    · rw [qs.length] at hw
      have h3' : Pst X.K X.w X.mg (RV X.K) (fun c d H' => W c d σ H') φ3 H3 (.ok (.tup ds) st3) Q := by
        rw [← cut_all hw]
        exact h3
      exact h3'.ok rs3 (.tup q qs)
    · exact h3 _ _ _ (ext_new hp) (rs3.new hp) (.newTup rs3 hd hp (cut_rv qs _ _))
  | @scr p xs ds q qs => exact .inl ⟨p, xs, rfl, q.sq, fun p2 hp => h3 _ _ _ (ext_alloc rs3 hp) (rs3.alloc hp (cut_rv qs _ _)) (.newLst rs3)⟩
  | str z =>
    unfold slA at h3
    simp only at h3
    split at h3
    · rename_i hz
      exact .inr (.inr ⟨z, rfl, hz, h3.ok rs3 (.str _)⟩)
    · exact (show False from h3).elim
  | @ref p r q =>
    unfold slA at h3
    simp only at h3
    cases e1 : st3[r]? with
    | none => rw [e1] at h3; exact h3.elim
    | some o =>
      cases o with
      | oth u => rw [e1] at h3; exact h3.elim
      | lst ds =>
        rw [e1] at h3
        simp only at h3
        obtain ⟨vs, h1, h1'⟩ := rs3.lst q e1
        exact .inl ⟨p, vs, rfl, .inl (.inl h1), fun p2 hp => h3 _ _ _ (ext_alloc rs3 hp) (rs3.alloc hp (cut_rv h1' _ _)) (.newLst rs3)⟩
  | _ => exact (show False from h3).elim
def CaS (X : Cx) (r : List V → Hp → VK → Prop) (g : List A → Store → R A) : Prop := ∀ (W : WH) (φ : List Addr) (H : Hp) (st : Store) (vs : List V) (as : List A) (Q : VK), RS X.K X.w X.mg φ H st → RVs X.K φ H vs as → Pst X.K X.w X.mg (RV X.K) W φ H (g as st) Q → r vs H Q
def mCa (g : List A → Store → R A) (ms : MA) : MX := fun ρ st => (ms ρ st).bind g
theorem ca_ok {r : List V → Hp → VK → Prop} {g : List A → Store → R A} (hg : CaS X r g) {σ : L2.St} {H : Hp} {Q : VK} (h : tE X W (mCa g ms) σ H Q) : tCB r (tA X W ms) σ H Q := by
  obtain ⟨φ, ρ, st, rs, re, h⟩ := h
  exact ⟨φ, ρ, st, rs, re, h.seq fun φ1 a x H1 st1 e1 rs1 rv1 h1 => hg _ _ _ _ _ _ _ rs1 rv1 h1⟩
theorem me_callB {id : String} {x : Str} {p : Pos} {r : List V → Hp → VK → Prop} {g : List A → Store → R A} (hc : CallR X (.builtin id) r) (hs : CaS X r g) (hv : bootBuiltins x = some (.builtin id)) (hm : X.mg x = none) (ha : PA X (e :: es) (tA X W ms)) (hg : Gl X x := by rfl) (hn : x ≠ "__name__" := by decide) (hdb : (x == ("__debug__" : Str)) = false := by decide)
    (he : starEach (e :: es) X.env = (false, eval e X.env) :: starEach es X.env := by rfl) (hpl : (backTo pos (starEach es X.env)).any (·.1) = false := by rfl) : PE X (.Call (.Name x p) (e :: es) [] pos) (tE X W (mCa g ms)) := (pe_callB hc hg hm hv ha hn hdb he hpl).imp fun _ _ _ h => ca_ok hs h
theorem me_callTy {T : String} {x : Str} {p : Pos} {r : List V → Hp → VK → Prop} {g : List A → Store → R A} (hc : CallR X (.type T) r) (hs : CaS X r g) (hv : bootBuiltins x = some (.type T)) (hm : X.mg x = none) (ha : PA X (e :: es) (tA X W ms)) (hg : Gl X x := by rfl) (hn : x ≠ "__name__" := by decide) (hdb : (x == ("__debug__" : Str)) = false := by decide)
    (he : starEach (e :: es) X.env = (false, eval e X.env) :: starEach es X.env := by rfl) (hpl : (backTo pos (starEach es X.env)).any (·.1) = false := by rfl) : PE X (.Call (.Name x p) (e :: es) [] pos) (tE X W (mCa g ms)) := (pe_callTy hc hg hm hv ha hn hdb he hpl).imp fun _ _ _ h => ca_ok hs h
def absA : List A → Store → R A
  | [.int i], st => .ok (.int (if i < 0 then -i else i)) st
  | _, _ => .bad
theorem one_rv {K : PySem.W.Frag} {φ : List Addr} {H : Hp} {vs : List V} {d : A} (q : RVs K φ H vs [d]) : ∃ v, vs = [v] ∧ RV K φ H v d := by
  cases q with
  | cons h t => cases t; exact ⟨_, rfl, h⟩
theorem two_rv {K : PySem.W.Frag} {φ : List Addr} {H : Hp} {vs : List V} {d d' : A} (q : RVs K φ H vs [d, d']) : ∃ v v', vs = [v, v'] ∧ RV K φ H v d ∧ RV K φ H v' d' := by
  cases q with
  | cons h t =>
    obtain ⟨v, rfl, h2⟩ := one_rv t
    exact ⟨_, _, rfl, h, h2⟩
theorem cs_abs : CaS X (fun xs H Q => ∃ i, xs = [.int i] ∧ Q (.int (if i < 0 then -i else i)) H) absA := fun W φ H st vs as Q rs rv h => by
  unfold absA at h
  split at h
  · obtain ⟨v, rfl, r⟩ := one_rv rv
    cases r
    exact ⟨_, rfl, h.ok rs (.int _)⟩
  · exact h.elim
def intA : List A → Store → R A
  | [.int i], st => .ok (.int i) st
  | [.bl k], st => .ok (.int (if k then 1 else 0)) st
  | _, _ => .bad
theorem cs_int : CaS X (fun xs H Q => (∃ i, xs = [.int i] ∧ Q (.int i) H) ∨ ∃ k, xs = [.bl k] ∧ Q (.int (if k then 1 else 0)) H) intA := fun W φ H st vs as Q rs rv h => by
  unfold intA at h
  split at h
  · obtain ⟨v, rfl, r⟩ := one_rv rv
    cases r
    exact .inl ⟨_, rfl, h.ok rs (.int _)⟩
  · obtain ⟨v, rfl, r⟩ := one_rv rv
    cases r
    exact .inr ⟨_, rfl, h.ok rs (.int _)⟩
  · exact h.elim
def intsOf : List A → Option (List Int)
  | [] => some []
  | .int i :: r => (intsOf r).map (i :: ·)
  | _ => none
theorem intsOf_eq : ∀ {ds : List A} {ns : List Int}, intsOf ds = some ns → ds = ns.map A.int
  | [], _, h => by cases h; rfl
  | .int i :: r, ns, h => by
    simp only [intsOf] at h
    cases e : intsOf r with
    | none => rw [e] at h; cases h
    | some ms =>
      rw [e] at h
      cases h
      rw [List.map_cons, intsOf_eq e]
  | .non :: _, _, h => by cases h
  | .bl _ :: _, _, h => by cases h
  | .str _ :: _, _, h => by cases h
  | .tup _ :: _, _, h => by cases h
  | .scr _ :: _, _, h => by cases h
  | .ref _ :: _, _, h => by cases h
theorem intsOf_map : ∀ ns : List Int, intsOf (ns.map A.int) = some ns
  | [] => rfl
  | n :: r => by rw [List.map_cons, intsOf, intsOf_map r]; rfl
def itemsL : A → Store → Option (List A)
  | .scr xs, _ => some xs
  | .ref r, st => match st[r]? with
    | some (.lst xs) => some xs
    | _ => none
  | _, _ => none
theorem itemsL_ok {K : PySem.W.Frag} {φ : List Addr} {H : Hp} {st : Store} {v : V} {a : A} {ds : List A} (rs : RS K w mg φ H st) (r : RV K φ H v a) (h : itemsL a st = some ds) : ∃ p xs, v = .ref p ∧ SqL K H p xs ∧ RVs K φ H xs ds := by
  cases r with
  | scr q qs => cases h; exact ⟨_, _, rfl, q.sq, qs⟩
  | @ref p i q =>
    unfold itemsL at h
    simp only at h
    cases e : st[i]? with
    | none => rw [e] at h; cases h
    | some o =>
      cases o with
      | oth u => rw [e] at h; cases h
      | lst xs =>
        rw [e] at h
        cases h
        obtain ⟨vs, h1, h2⟩ := rs.lst q e
        exact ⟨p, vs, rfl, .inl (.inl h1), h2⟩
  | _ => cases h
def itemsQ : A → Store → Option (List A)
  | .tup xs, _ => some xs
  | a, st => itemsL a st
theorem itemsQ_ok {K : PySem.W.Frag} {φ : List Addr} {H : Hp} {st : Store} {v : V} {a : A} {ds : List A} (rs : RS K w mg φ H st) (r : RV K φ H v a) (h : itemsQ a st = some ds) : ∃ p xs, v = .ref p ∧ (SqL K H p xs ∨ SqT K H p xs) ∧ RVs K φ H xs ds := by
  cases r with
  | tup q qs => cases h; exact ⟨_, _, rfl, .inr q.sq, qs⟩
  | scr q qs =>
    obtain ⟨p, xs, h1, h2, h3⟩ := itemsL_ok rs (.scr q qs) h
    exact ⟨p, xs, h1, .inl h2, h3⟩
  | ref q =>
    obtain ⟨p, xs, h1, h2, h3⟩ := itemsL_ok rs (.ref q) h
    exact ⟨p, xs, h1, .inl h2, h3⟩
  | _ => cases h
def maxL : List Int → Option Int
  | [] => none
  | n :: r => some (r.foldl max n)
def maxA : List A → Store → R A
  | [.int i, .int j], st => .ok (.int (if j > i then j else i)) st
  | [x], st => match (itemsL x st).bind intsOf with
    | some ns => match maxL ns with
      | some m => .ok (.int m) st
      | none => .bad
    | none => .bad
  | _, _ => .bad
theorem foldmax_mem : ∀ (r : List Int) (n : Int), r.foldl max n ∈ n :: r ∧ ∀ y ∈ n :: r, y ≤ r.foldl max n
  | [], n => ⟨List.mem_singleton_self n, fun y hy => by rw [List.mem_singleton.mp hy]; exact Int.le_refl _⟩
  | m :: r, n => by
    obtain ⟨h1, h2⟩ := foldmax_mem r (max n m)
    rw [List.foldl_cons]
    refine ⟨?_, fun y hy => ?_⟩
    · rcases List.mem_cons.mp h1 with h | h
      · rw [h]
        by_cases c : n ≤ m
        · rw [Int.max_eq_right c]; exact List.mem_cons_of_mem _ List.mem_cons_self
        · rw [Int.max_eq_left (by omega)]; exact List.mem_cons_self
      · exact List.mem_cons_of_mem _ (List.mem_cons_of_mem _ h)
    · have h3 := h2 _ List.mem_cons_self
      rcases List.mem_cons.mp hy with h | h
      · subst h; exact Int.le_trans (Int.le_max_left _ _) h3
      · rcases List.mem_cons.mp h with h | h
        · subst h; exact Int.le_trans (Int.le_max_right _ _) h3
        · exact h2 _ (List.mem_cons_of_mem _ h)
abbrev rMaxU (K : PySem.W.Frag) : List V → Hp → VK → Prop := fun xs H Q => (∃ i j, xs = [.int i, .int j] ∧ Q (.int (if j > i then j else i)) H) ∨ rMax K xs H Q
theorem call_maxU (hc : X.calm = true) : CallR X (.builtin "max") (rMaxU X.K) := CallR.or (call_max2 hc) (cr_max hc)
theorem cs_max : CaS X (rMaxU X.K) maxA := fun W φ H st vs as Q rs rv h => by
  unfold maxA at h
  split at h
  · obtain ⟨v, v', rfl, r, r'⟩ := two_rv rv
    cases r
    cases r'
    exact .inl ⟨_, _, rfl, h.ok rs (.int _)⟩
  · rename_i x
    obtain ⟨v, rfl, r⟩ := one_rv rv
    cases e : itemsL x st with
    | none => rw [e] at h; exact h.elim
    | some ds =>
      rw [e] at h
      simp only [Option.bind_some] at h
      cases e2 : intsOf ds with
      | none => rw [e2] at h; exact h.elim
      | some ns =>
        rw [e2] at h
        obtain ⟨p, xs, rfl, hq, hs⟩ := itemsL_ok rs r e
        rw [intsOf_eq e2] at hs
        rw [hs.ints] at hq
        cases ns with
        | nil => exact h.elim
        | cons n ns =>
          refine .inr ⟨p, n :: ns, rfl, hq, by simp, fun m hm hle => ?_⟩
          have ⟨h1, h2⟩ := foldmax_mem ns n
          have em : m = ns.foldl max n := Int.le_antisymm (h2 m hm) (hle _ h1)
          rw [em]
          exact Pst.ok (show Pst X.K X.w X.mg (RV X.K) W φ H (.ok (.int (ns.foldl max n)) st) Q from h) rs (.int _)
  · exact h.elim
def sumA : List A → Store → R A
  | [x], st => match (itemsL x st).bind intsOf with
    | some ns => .ok (.int ns.sum) st
    | none => .bad
  | _, _ => .bad
theorem cs_sum : CaS X (rSum X.K) sumA := fun W φ H st vs as Q rs rv h => by
  unfold sumA at h
  split at h
  · rename_i x
    obtain ⟨v, rfl, r⟩ := one_rv rv
    cases e : itemsL x st with
    | none => rw [e] at h; exact h.elim
    | some ds =>
      rw [e] at h
      simp only [Option.bind_some] at h
      cases e2 : intsOf ds with
      | none => rw [e2] at h; exact h.elim
      | some ns =>
        rw [e2] at h
        obtain ⟨p, xs, rfl, hq, hs⟩ := itemsL_ok rs r e
        rw [intsOf_eq e2] at hs
        rw [hs.ints] at hq
        exact ⟨p, ns, rfl, hq, h.ok rs (.int _)⟩
  · exact h.elim
def lenA : List A → Store → R A
  | [.str z], st => if z.length ≤ sizeLine then .ok (.int (z.length : Nat)) st else .bad
  | [x], st => match itemsQ x st with
    | some xs => .ok (.int (xs.length : Nat)) st
    | none => .bad
  | _, _ => .bad
abbrev rLenU (K : PySem.W.Frag) : List V → Hp → VK → Prop := fun xs H Q => ∃ x n, xs = [x] ∧ LenV K x H n ∧ Q (.int n) H
theorem cs_len : CaS X (rLenU X.K) lenA := fun W φ H st vs as Q rs rv h => by
  unfold lenA at h
  split at h
  · obtain ⟨v, rfl, r⟩ := one_rv rv
    cases r
    split at h
    · rename_i hz
      exact ⟨_, _, rfl, ⟨hz, rfl⟩, h.ok rs (.int _)⟩
    · exact h.elim
  · rename_i x _
    obtain ⟨v, rfl, r⟩ := one_rv rv
    cases e : itemsQ x st with
    | none => rw [e] at h; exact h.elim
    | some ds =>
      rw [e] at h
      obtain ⟨p, xs, rfl, hq, hs⟩ := itemsQ_ok rs r e
      have hl := hs.length
      rcases hq with hq | hq
      · exact ⟨_, _, rfl, .inl ⟨xs, hq, rfl⟩, by rw [hl]; exact h.ok rs (.int _)⟩
      · exact ⟨_, _, rfl, .inr ⟨xs, hq, rfl⟩, by rw [hl]; exact h.ok rs (.int _)⟩
  · exact h.elim
def listA : List A → Store → R A
  | [x], st => match itemsQ x st with
    | some xs => .ok (.ref st.length) (st ++ [.lst xs])
    | none => .bad
  | _, _ => .bad
theorem cs_list : CaS X (fun xs H Q => ∃ p ys, xs = [.ref p] ∧ (SqL X.K H p ys ∨ SqT X.K H p ys) ∧ ∀ l, H l = none → Q (.ref l) (upd H l (.lst ys))) listA := fun W φ H st vs as Q rs rv h => by
  unfold listA at h
  split at h
  · rename_i x
    obtain ⟨v, rfl, r⟩ := one_rv rv
    cases e : itemsQ x st with
    | none => rw [e] at h; exact h.elim
    | some ds =>
      rw [e] at h
      obtain ⟨p, xs, rfl, hq, hs⟩ := itemsQ_ok rs r e
      exact ⟨p, xs, rfl, hq, fun l hp => h _ _ _ (ext_alloc rs hp) (rs.alloc hp hs) (.newLst rs)⟩
  · exact h.elim
def tupleA : List A → Store → R A
  | [.tup xs], st => .ok (.tup xs) st
  | [x], st => match itemsL x st with
    | some xs => .ok (.tup xs) st
    | none => .bad
  | _, _ => .bad
def rTupP (K : PySem.W.Frag) : List V → Hp → VK → Prop := fun xs H Q => ∃ p ys, xs = [.ref p] ∧ ((SqL K H p ys ∧ NewT H ys Q) ∨ (SqT K H p ys ∧ Q (.ref p) H))
theorem call_tupleP : CallR X (.type "tuple") (rTupP X.K) := by
  intro pins s σ H xs us Q I r ⟨p, ys, ex, h⟩
  subst ex
  obtain ⟨u, rfl, rx⟩ := vals1 r
  cases rx
  rcases h with ⟨hq, q⟩ | ⟨hq, q⟩
  · obtain ⟨its, r', pl, hz⟩ := I.list hq
    have hn := r'.length
    exact call_tuple_list pl.isList (fun h' kp => new_tup (s := { s with heap := h' }) (I.kept (t' := s.toks) kp) r' hz q) (by rw [List.size_toArray]; omega)
  · obtain ⟨its, _, pl, _⟩ := I.tuple hq
    exact call_tuple_same pl ⟨.ref p, H, I, rfl, q⟩
theorem cs_tuple : CaS X (rTupP X.K) tupleA := fun W φ H st vs as Q rs rv h => by
  unfold tupleA at h
  split at h
  · obtain ⟨v, rfl, r⟩ := one_rv rv
    cases r with
    | tup q qs => exact ⟨_, _, rfl, .inr ⟨q.sq, h.ok rs (.tup q qs)⟩⟩
  · rename_i x _
    obtain ⟨v, rfl, r⟩ := one_rv rv
    cases e : itemsL x st with
    | none => rw [e] at h; exact h.elim
    | some ds =>
      rw [e] at h
      obtain ⟨p, xs, rfl, hq, hs⟩ := itemsL_ok rs r e
      exact ⟨p, xs, rfl, .inl ⟨hq, fun l o hd hp => h _ _ _ (ext_new hp) (rs.new hp) (.newTup rs hd hp hs)⟩⟩
  · exact h.elim
def ordA : List A → Store → R A
  | [.str x], st => if x.length = 1 then .ok (.int (x.cps.getD 0 0 : Nat)) st else .bad
  | _, _ => .bad
theorem cs_ord : CaS X (fun xs H Q => ∃ x : Str, xs = [.str x] ∧ x.length = 1 ∧ Q (.int (x.cps.getD 0 0 : Nat)) H) ordA := fun W φ H st vs as Q rs rv h => by
  unfold ordA at h
  split at h
  · obtain ⟨v, rfl, r⟩ := one_rv rv
    cases r
    split at h
    · rename_i hz
      exact ⟨_, rfl, hz, h.ok rs (.int _)⟩
    · exact h.elim
  · exact h.elim
inductive Ty where
  | tup | str | int | bool | list
def Ty.nm : Ty → String
  | .tup => "tuple"
  | .str => "str"
  | .int => "int"
  | .bool => "bool"
  | .list => "list"
def Ty.isL : Ty → Bool
  | .list => true
  | _ => false
def isTy : Ty → A → Store → Option Bool
  | .tup, .tup _, _ => some true
  | .str, .str _, _ => some true
  | .int, .int _, _ => some true
  | .int, .bl _, _ => some true
  | .bool, .bl _, _ => some true
  | .list, .scr _, _ => some true
  | T, .ref r, st => match st[r]? with
    | some (.lst _) => some T.isL
    | _ => none
  | _, _, _ => some false
def isiA (T : Ty) (x : A) (st : Store) : R A := match isTy T x st with
  | some b => .ok (.bl b) st
  | none => .bad
theorem tyX_of {K : PySem.W.Frag} {φ : List Addr} {H : Hp} {st : Store} {v : V} {a : A} {T : Ty} {b : Bool} (rs : RS K w mg φ H st) (r : RV K φ H v a) (h : isTy T a st = some b) : ∃ t, TyX K H v (.type t) ∧ kitB t T.nm = some b := by
  cases r with
  | non => refine ⟨"NoneType", .base .non, ?_⟩; cases T <;> (cases h; decide +kernel)
  | bl k => refine ⟨"bool", .base (.bl k), ?_⟩; cases T <;> (cases h; decide +kernel)
  | int k => refine ⟨"int", .base (.int k), ?_⟩; cases T <;> (cases h; decide +kernel)
  | str k => refine ⟨"str", .base (.str k), ?_⟩; cases T <;> (cases h; decide +kernel)
  | tup q qs =>
    refine ⟨"tuple", ?_, by cases T <;> (cases h; decide +kernel)⟩
    rcases q with ⟨⟨o, _, q⟩, _⟩ | ⟨o, its, n, q1, q2, _⟩
    · exact .fTuple q
    · exact .kTuple q1 q2
  | scr q qs =>
    refine ⟨"list", ?_, by cases T <;> (cases h; decide +kernel)⟩
    rcases q with ⟨⟨o, q⟩, _⟩ | ⟨o, its, n, q1, q2, _⟩
    · exact .base (.frz q)
    · exact .kList q1 q2
  | @ref p i q =>
    have h' : (match st[i]? with | some (.lst _) => some T.isL | _ => none) = some b := by cases T <;> exact h
    cases e : st[i]? with
    | none => rw [e] at h'; cases h'
    | some o =>
      cases o with
      | oth u => rw [e] at h'; cases h'
      | lst ds =>
        rw [e] at h'
        obtain ⟨xs, h1, _⟩ := rs.lst q e
        refine ⟨"list", .base (.lst h1), ?_⟩
        cases T <;> (have hb := Option.some.inj h'; subst hb; decide +kernel)
theorem me_isi (T : Ty) {p p2 pos : Pos} {x n : Str} (ha : PE X a (tE X W ma)) (hx : x = "isinstance") (hn : n = Str.ofString T.nm) (hm : X.mg x = none) (hm2 : X.mg n = none) (hv2 : bootBuiltins n = some (.type T.nm)) (hg : Gl X x := by rfl) (hg2 : Gl X n := by rfl) (hn1 : n ≠ "__name__" := by decide) (hd1 : (n == ("__debug__" : Str)) = false := by decide)
    (he2 : starEach [.Name n p2] X.env = (false, eval (.Name n p2) X.env) :: starEach [] X.env := by rfl) (he : starEach (a :: [.Name n p2]) X.env = (false, eval a X.env) :: starEach [.Name n p2] X.env := by rfl) (hpl : (backTo pos (starEach [.Name n p2] X.env)).any (·.1) = false := by rfl) :
    PE X (.Call (.Name x p) [a, .Name n p2] [] pos) (tE X W (mUn (isiA T) ma)) := by
  subst hx
  refine (pe_callB call_isi hg hm PyProof.Rows.boot_isinstance (pa_cons ha (pa_cons (pe_bltn (v := .ty T.nm) hg2 hm2 hv2 rfl hn1 hd1) pa_nil he2) he) (by decide) (by decide) he hpl).imp fun σ H Q ⟨φ, ρ, st, rs, re, h⟩ => ?_
  refine ⟨φ, ρ, st, rs, re, h.seq fun φ1 d v H1 st1 e1 rs1 rv1 h1 => ?_⟩
  unfold isiA at h1
  cases e : isTy T d st1 with
  | none => rw [e] at h1; exact h1.elim
  | some b =>
    rw [e] at h1
    obtain ⟨t, h2, h3⟩ := tyX_of rs1 rv1 e
    exact ⟨v, .ty T.nm, .type t, .type T.nm, b, rfl, .ty _, h2, kit_ty h3, h1.ok rs1 (.bl b)⟩
def bitsA : A → Store → R A
  | .int i, st => .ok (.int (Builtin.Int.intBits i : Nat)) st
  | _, _ => .bad
theorem me_bits {apos : Pos} (ha : PE X a (tE X W ma)) (hbase : attributeBase a "bit_length" X.env (eval a X.env) = eval a X.env := by rfl) (hline : (apos.endLine == pos.line) = true := by rfl) : PE X (.Call (.Attribute a "bit_length" apos) [] [] pos) (tE X W (mUn bitsA ma)) := (pe_bits ha hbase hline).imp fun σ H Q ⟨φ, ρ, st, rs, re, h⟩ => by
  refine ⟨φ, ρ, st, rs, re, h.seq fun φ1 d v H1 st1 e1 rs1 rv1 h1 => ?_⟩
  cases rv1 with
  | int i => exact ⟨i, rfl, h1.ok rs1 (.int _)⟩
  | _ => exact (show False from h1).elim
def isL : A → Store → Bool
  | .ref r, st => match st[r]? with
    | some (.lst _) => true
    | _ => false
  | _, _ => false
theorem isL_ok {K : PySem.W.Frag} {φ : List Addr} {H : Hp} {st : Store} {v : V} {a : A} (rs : RS K w mg φ H st) (r : RV K φ H v a) (h : isL a st = true) : tyV K "list" v H := by
  cases r with
  | @ref p i q =>
    unfold isL at h
    simp only at h
    cases e : st[i]? with
    | none => rw [e] at h; cases h
    | some o =>
      cases o with
      | oth u => rw [e] at h; cases h
      | lst ds =>
        obtain ⟨xs, h1, _⟩ := rs.lst q e
        exact .inl ⟨rfl, xs, .inl (.inl h1)⟩
  | _ => cases h
def MtS (X : Cx) (r : V → List V → Hp → VK → Prop) (g : A → List A → Store → R A) : Prop := ∀ (W : WH) (φ : List Addr) (H : Hp) (st : Store) (v : V) (a : A) (vs : List V) (as : List A) (Q : VK), RS X.K X.w X.mg φ H st → RV X.K φ H v a → RVs X.K φ H vs as → Pst X.K X.w X.mg (RV X.K) W φ H (g a as st) Q → r v vs H Q
def mBm (g : A → List A → Store → R A) (mo : MX) (ms : MA) : MX := fun ρ st => (mo ρ st).bind fun x st1 => if isL x st1 = true then (ms ρ st1).bind fun xs st2 => g x xs st2 else .bad
theorem me_bm {o : Expr} {mo : MX} {name : Str} {id : String} {apos : Pos} {r : V → List V → Hp → VK → Prop} {g : A → List A → Store → R A} (slot : Slot "list" name id) (hty : typeOf (.builtin id) = pure (.type "method_descriptor")) (hm : MtR X id r) (hs : MtS X r g) (ho : PE X o (tE X W mo)) (ha : PA X (e :: es) (tA X W ms))
    (hbase : attributeBase o name X.env (eval o X.env) = eval o X.env := by rfl)
    (hfew : ((backTo pos (starEach (e :: es) X.env)).all (fun x => !x.1) && (backToKw pos (keywordEach [] X.env)).all (fun x => x.1.isSome)
      && decide ((e :: es).length + ([] : List Keyword).length + (if ([] : List Keyword).isEmpty then 0 else 1) < 30)) = true := by rfl)
    (hline : (apos.endLine == pos.line) = true := by rfl) (he : starEach (e :: es) X.env = (false, eval e X.env) :: starEach es X.env := by rfl) (hpl : (backTo pos (starEach es X.env)).any (·.1) = false := by rfl) :
    PE X (.Call (.Attribute o name apos) (e :: es) [] pos) (tE X W (mBm g mo ms)) := by
  refine (pe_bm PySem.F.plainAttrs_list slot hty hm ho ha hbase hfew hline he hpl).imp fun σ H Q ⟨φ, ρ, st, rs, re, h⟩ => ?_
  refine ⟨φ, ρ, st, rs, re, h.seq fun φ1 d v H1 st1 e1 rs1 rv1 h1 => ?_⟩
  cases c : isL d st1 with
  | false => rw [if_neg (by rw [c]; exact Bool.false_ne_true)] at h1; exact h1.elim
  | true =>
    rw [if_pos c] at h1
    exact ⟨isL_ok rs1 rv1 c, φ1, ρ, st1, rs1, re.ext e1, h1.seq fun φ2 ds vs H2 st2 e2 rs2 rv2 h2 => hs _ _ _ _ _ _ _ _ _ rs2 (rv1.ext e2) rv2 h2⟩
def appendA : A → List A → Store → R A
  | .ref r, [x], st => match st[r]? with
    | some (.lst xs) => if xs.length < sizeLine then .ok .non (st.set r (.lst (xs ++ [x]))) else .bad
    | _ => .bad
  | _, _, _ => .bad
theorem ms_append : MtS X rAppend appendA := fun W φ H st v a vs as Q rs ra rv h => by
  unfold appendA at h
  split at h
  · rename_i r x
    obtain ⟨y, rfl, ry⟩ := one_rv rv
    cases ra with
    | @ref p _ q =>
      cases e : st[r]? with
      | none => rw [e] at h; exact h.elim
      | some o =>
        cases o with
        | oth u => rw [e] at h; exact h.elim
        | lst ds =>
          rw [e] at h
          simp only at h
          obtain ⟨xs, h1, h2⟩ := rs.lst q e
          split at h
          · rename_i hz
            obtain ⟨e2, rs2⟩ := rs.write q e (h2.app (.cons ry .nil))
            exact ⟨p, xs, y, rfl, rfl, h1, by rw [h2.length]; exact hz, h _ _ _ e2 rs2 .non⟩
          · exact h.elim
  · exact h.elim
def extendA : A → List A → Store → R A
  | .ref r, [.ref q], st => match st[r]?, st[q]? with
    | some (.lst xs), some (.lst ys) => if xs.length + ys.length ≤ sizeLine then .ok .non (st.set r (.lst (xs ++ ys))) else .bad
    | _, _ => .bad
  | .ref r, [.tup ys], st => match st[r]? with
    | some (.lst xs) => if xs.length + ys.length ≤ sizeLine then .ok .non (st.set r (.lst (xs ++ ys))) else .bad
    | _ => .bad
  | _, _, _ => .bad
theorem list_extend_tupW (l : Addr) (items : Array Value) (n : Nat) (b : Addr) (items2 : Array Value) (n2 : Nat) (dd : Option Addr) (sl : Array (Option Value)) (hs0 : ¬(!items.isEmpty && Builtin.List.listTooLong (items.size + items2.size)) = true) (hs1 : items.size ≤ sizeLine) (hs2 : items.size + items2.size ≤ sizeLine + 1) :
    Meets (Builtin.«list.extend» ⟨[.ref l, .ref b], []⟩) (fun _ R s => s.heap.get? l = some { cls := .type "list", dict := none, data := .seq items n, slots := #[] } ∧ s.heap.get? b = some { cls := .type "tuple", dict := dd, data := .seq items2 n2, slots := sl } ∧ R (.ok (.ret Value.none)) { s with heap := s.heap.update l (Obj.mapSeq fun x => x ++ items2), toks := s.toks }) :=
  .of_wp fun prog w A R s h => by
    obtain ⟨hp, g, d, tk, os⟩ := s; obtain ⟨hl, hb, h⟩ := h; have f1 := AutoSeq1.idx_int; have f2 := AutoSeq1.sub_tuple_tuple; have f3 := AutoSeq1.sub_list_list; have f4 := AutoSeq1.sub_tuple_list; have f5 := AutoSeq1.sub_list_tuple;
    have hz' : (items ++ items2).size ≤ sizeLine + 1 := by rw [Array.size_append]; exact hs2
    wp_walk using (wpAny_updateSeq hl rfl (hz := hs1) (_hz' := hz')), wpAny_loadPart' hl, wpAny_loadPart' hb; exact ⟨_, rfl, h⟩
def rExtendT (K : PySem.W.Frag) : V → List V → Hp → VK → Prop := fun x vs H Q => ∃ l b xs zs, x = .ref l ∧ vs = [.ref b] ∧ H l = some (.lst xs) ∧ SqT K H b zs ∧ xs.length + zs.length ≤ sizeLine ∧ Q .non (upd H l (.lst (xs ++ zs)))
theorem mt_extendT : MtM X "list.extend" (rExtendT X.K) := by
  intro pins s σ H x vs v us Q I rx rv h
  obtain ⟨l, b, xs, zs, rfl, rfl, hH, hB, hz, q⟩ := h
  cases rx
  obtain ⟨u, rfl, ru⟩ := rv.one
  cases ru
  obtain ⟨z, its, n, r, hl, e⟩ := I.lstM hH
  obtain ⟨its2, r2, ⟨⟨cls, dd, data, sl⟩, e2, hc, n2, hd⟩, hs⟩ := I.tuple hB
  simp only at hc hd
  subst hc hd
  have hl2 : its2.length = zs.length := r2.length.symm
  have hsz : its.toArray.size + its2.toArray.size ≤ sizeLine := by rw [List.size_toArray, List.size_toArray]; omega
  have hlong : ¬ (!its.toArray.isEmpty && Builtin.List.listTooLong (its.toArray.size + its2.toArray.size)) = true := by
    rw [notLongL hsz, Bool.and_false]
    exact Bool.false_ne_true
  refine call_meets F.slot_list_extend ⟨_, e, rfl⟩ F.entry_list_extend (F.args_list_extend_2 _ _)
    (list_extend_tupW l its.toArray n b its2.toArray n2 dd sl hlong (by rw [List.size_toArray]; omega) (by omega)) ⟨e, e2, ?_⟩
  refine ⟨.non, _, I.lset (its' := its ++ its2) hH e (by simp) (r.append r2) ?_, rfl, q⟩
  rw [List.length_append]
  omega
abbrev rExtendU (K : PySem.W.Frag) : V → List V → Hp → VK → Prop := fun x vs H Q => rExtend x vs H Q ∨ rExtendT K x vs H Q
theorem mt_extendU : MtM X "list.extend" (rExtendU X.K) := fun pins s σ H x vs v us Q I rx rv h => h.elim (mt_extend pins s σ H x vs v us Q I rx rv) (mt_extendT pins s σ H x vs v us Q I rx rv)
theorem ms_extend : MtS X (rExtendU X.K) extendA := fun W φ H st v a vs as Q rs ra rv h => by
  unfold extendA at h
  split at h
  · rename_i r x
    obtain ⟨y, rfl, ry⟩ := one_rv rv
    cases ra with
    | @ref p _ q =>
      cases ry with
      | @ref p2 _ q2 =>
        cases e : st[r]? with
        | none => rw [e] at h; exact h.elim
        | some o =>
          cases o with
          | oth u => rw [e] at h; exact h.elim
          | lst ds =>
            cases e' : st[x]? with
            | none => rw [e, e'] at h; exact h.elim
            | some o' =>
              cases o' with
              | oth u => rw [e, e'] at h; exact h.elim
              | lst es =>
                rw [e, e'] at h
                simp only at h
                obtain ⟨xs, h1, h2⟩ := rs.lst q e
                obtain ⟨ys, h1', h2'⟩ := rs.lst q2 e'
                split at h
                · rename_i hz
                  obtain ⟨e2, rs2⟩ := rs.write q e (h2.app h2')
                  exact .inl ⟨p, p2, xs, ys, rfl, rfl, h1, h1', by rw [h2.length, h2'.length]; exact hz, h _ _ _ e2 rs2 .non⟩
                · exact h.elim
  · rename_i r ys
    obtain ⟨y, rfl, ry⟩ := one_rv rv
    cases ra with
    | @ref p _ q =>
      cases ry with
      | @tup p2 zs _ q2 qs =>
        cases e : st[r]? with
        | none => rw [e] at h; exact h.elim
        | some o =>
          cases o with
          | oth u => rw [e] at h; exact h.elim
          | lst ds =>
            rw [e] at h
            simp only at h
            obtain ⟨xs, h1, h2⟩ := rs.lst q e
            split at h
            · rename_i hz
              obtain ⟨e2, rs2⟩ := rs.write q e (h2.app qs)
              exact .inr ⟨p, p2, xs, zs, rfl, rfl, h1, q2.sq, by rw [h2.length, qs.length]; exact hz, h _ _ _ e2 rs2 .non⟩
            · exact h.elim
  · exact h.elim
abbrev MF := List A → Store → R A
def spM (K : PySem.W.Frag) (w : World) (mg : Str → Option Value) (m : MF) : Sp := fun vs H Q E => ∃ φ as st, RS K w mg φ H st ∧ RVs K φ H vs as ∧ Pst K w mg (RV K) E φ H (m as st) Q
structure Cal (P : Program) (w : World) (K : PySem.W.Frag) (mg : Str → Option Value) (base : Heap) (x : Str) (k : Nat) (m : MF) : Prop where
  ex : ∃ (f : Addr) (fd : FuncData) (ps : List Str), mg x = some (.ref f) ∧ PySem.W.keepIn K (.ref f) = true ∧ Binds K fd ps [] ∧ FnOk P w K mg base (L2.CX P w) k f fd ps (spM K w mg m)
def mCall (m : MF) (ms : MA) : MX := fun ρ st => (ms ρ st).bind m
theorem me_call {k : Nat} {m : MF} {x : Str} {p : Pos} (C : Cal X.prog X.w X.K X.mg X.base x k m) (hr : Room k X.A) (tk : Takes X W) (ha : PA X (e :: es) (tA X W ms)) (hg : Gl X x := by rfl)
    (hdb : (x == ("__debug__" : Str)) = false := by decide) (he : starEach (e :: es) X.env = (false, eval e X.env) :: starEach es X.env := by rfl) (hpl : (backTo pos (starEach es X.env)).any (·.1) = false := by rfl) :
    PE X (.Call (.Name x p) (e :: es) [] pos) (tE X W (mCall m ms)) := by
  obtain ⟨f, fd, ps, hm, hk, hb, F⟩ := C.ex
  refine (pe_callS F hr hg hm hk hb (E := WE W) (fun σ => passAt tk σ) ha hdb he hpl).imp fun σ H Q ⟨φ, ρ, st, rs, re, h⟩ => ?_
  exact ⟨φ, ρ, st, rs, re, h.seq fun φ1 ds vs H1 st1 e1 rs1 rv1 h1 => ⟨φ1, ds, st1, rs1, rv1, h1⟩⟩
end
end ML
namespace ML
open PySem PySem.Spec L2
inductive SR where
  | nx (ρ : Env) (st : Store) | bk (ρ : Env) (st : Store) | ct (ρ : Env) (st : Store) | rt (a : A) (st : Store) | er (e : Er) (ρ : Env) (st : Store) | bad
abbrev MS := Env → Store → SR
def SPst (K : PySem.W.Frag) (w : World) (mg : Str → Option Value) (W : WX) (φ : List Addr) (H : Hp) (r : SR) (D : Ends) : Prop := match r with
  | .nx ρ st => ∀ φ' σ' H', Ext φ H φ' H' → RS K w mg φ' H' st → RE K φ' H' σ' ρ → D.nx σ' H'
  | .bk ρ st => ∀ φ' σ' H', Ext φ H φ' H' → RS K w mg φ' H' st → RE K φ' H' σ' ρ → D.bk σ' H'
  | .ct ρ st => ∀ φ' σ' H', Ext φ H φ' H' → RS K w mg φ' H' st → RE K φ' H' σ' ρ → D.ct σ' H'
  | .rt a st => ∀ φ' v H', Ext φ H φ' H' → RS K w mg φ' H' st → RV K φ' H' v a → D.rt v H'
  | .er e ρ st => ∀ φ' c d σ' H', Ext φ H φ' H' → RS K w mg φ' H' st → RE K φ' H' σ' ρ → RErr K mg φ' H' c d e → W c d σ' H'
  | .bad => False
def tS (X : Cx) (W : WX) (m : MS) : TS := fun D σ H => ∃ φ ρ st, RS X.K X.w X.mg φ H st ∧ RE X.K φ H σ ρ ∧ SPst X.K X.w X.mg W φ H (m ρ st) D
def R.toS {α : Type} (r : R α) (ρ : Env) (f : α → Store → SR) : SR := match r with
  | .ok a st => f a st
  | .er e st => .er e ρ st
  | .bad => .bad
section
variable {K : PySem.W.Frag} {w : World} {φ φ' : List Addr} {H H' : Hp} {st : Store} {mg : Str → Option Value} {α β : Type} {W : WX} {D : Ends} {σ : L2.St} {ρ : Env}
theorem SPst.mono {r : SR} (h : SPst K w mg W φ H r D) (e : Ext φ H φ' H') : SPst K w mg W φ' H' r D := by
  cases r with
  | nx ρ st => exact fun φ2 σ2 H2 e2 s q => h φ2 σ2 H2 (e.trans e2) s q
  | bk ρ st => exact fun φ2 σ2 H2 e2 s q => h φ2 σ2 H2 (e.trans e2) s q
  | ct ρ st => exact fun φ2 σ2 H2 e2 s q => h φ2 σ2 H2 (e.trans e2) s q
  | rt a st => exact fun φ2 v H2 e2 s q => h φ2 v H2 (e.trans e2) s q
  | er x ρ st => exact fun φ2 c d σ2 H2 e2 s q => h φ2 c d σ2 H2 (e.trans e2) s q
  | bad => exact h
theorem SPst.exp {Rl : List Addr → Hp → β → α → Prop} {r : R α} {f : α → Store → SR} {Q1 : β → Hp → Prop} (h : SPst K w mg W φ H (r.toS ρ f) D) (re : RE K φ H σ ρ)
    (k : ∀ φ1 a x H1 st1, Ext φ H φ1 H1 → RS K w mg φ1 H1 st1 → Rl φ1 H1 x a → SPst K w mg W φ1 H1 (f a st1) D → Q1 x H1) : Pst K w mg Rl (fun c d H' => W c d σ H') φ H r Q1 := by
  cases r with
  | ok a st => exact fun φ1 v H1 e s q => k φ1 a v H1 st e s q (SPst.mono h e)
  | er x st => exact fun φ1 c d H1 e s q => h φ1 c d σ H1 e s (re.ext e) q
  | bad => exact h
end
section
variable {X : Cx} {W : WX} {s : Stmt} {ss rest : List Stmt} {t t' : TS} {a b e : Expr} {ma mb : MX} {pos : Pos} {m m1 m2 : MS}
theorem _root_.L2.PS.imp (h : PS X s t) (k : ∀ D σ H, t' D σ H → t D σ H) : PS X s t' := ⟨fun pins s σ H D I q => h.run pins s σ H D I (k _ _ _ q)⟩
theorem _root_.L2.PSs.imp (h : PSs X ss t) (k : ∀ D σ H, t' D σ H → t D σ H) : PSs X ss t' := ⟨fun pins s σ H D I q => h.run pins s σ H D I (k _ _ _ q)⟩
def mSeq (m1 m2 : MS) : MS := fun ρ st => match m1 ρ st with
  | .nx ρ1 st1 => m2 ρ1 st1
  | r => r
def mNext : MS := fun ρ st => .nx ρ st
theorem mss_nil : PSs X [] (tS X W mNext) := pss_nil.imp fun D σ H ⟨φ, ρ, st, rs, re, h⟩ => h φ σ H .refl rs re
theorem mss_cons (h1 : PS X s (tS X W m1)) (h2 : PSs X rest (tS X W m2)) : PSs X (s :: rest) (tS X W (mSeq m1 m2)) := (pss_cons h1 h2).imp fun D σ H ⟨φ, ρ, st, rs, re, h⟩ => by
  refine ⟨φ, ρ, st, rs, re, ?_⟩
  unfold mSeq at h
  cases e : m1 ρ st with
  | nx ρ1 st1 =>
    rw [e] at h
    exact fun φ' σ' H' ex rs' re' => ⟨φ', ρ1, st1, rs', re', SPst.mono h ex⟩
  | bk ρ1 st1 => rw [e] at h; exact h
  | ct ρ1 st1 => rw [e] at h; exact h
  | rt a st1 => rw [e] at h; exact h
  | er x ρ1 st1 => rw [e] at h; exact h
  | bad => rw [e] at h; exact h
theorem mss_one (h1 : PS X s (tS X W m)) : PSs X [s] (tS X W m) := pss_one h1
def mExpr (ma : MX) : MS := fun ρ st => (ma ρ st).toS ρ fun _ st1 => .nx ρ st1
theorem ms_expr (ha : PE X a (tE X W ma)) (hs : swapsWith a none pos.line X.env = pure false := by rfl) : PS X (.Expr a pos) (tS X W (mExpr ma)) := (ps_expr ha hs).imp fun D σ H ⟨φ, ρ, st, rs, re, h⟩ =>
  ⟨φ, ρ, st, rs, re, h.exp re fun φ1 a x H1 st1 e1 rs1 rv1 h1 => h1 φ1 σ H1 .refl rs1 (re.ext e1)⟩
def mRet (ma : MX) : MS := fun ρ st => (ma ρ st).toS ρ fun a st1 => .rt a st1
theorem ms_ret (ha : PE X a (tE X W ma)) : PS X (.Return (some a) pos) (tS X W (mRet ma)) := (ps_ret ha).imp fun D σ H ⟨φ, ρ, st, rs, re, h⟩ =>
  ⟨φ, ρ, st, rs, re, h.exp re fun φ1 a x H1 st1 e1 rs1 rv1 h1 => h1 φ1 x H1 .refl rs1 rv1⟩
def mIfS (c : MT) (m1 m2 : MS) : MS := fun ρ st => (c ρ st).toS ρ fun b st1 => if b = true then m1 ρ st1 else m2 ρ st1
theorem ms_if {c : Expr} {mc : MT} {s1 s2 : List Stmt} (hc : PT X c (tT X W mc)) (h1 : PSs X s1 (tS X W m1)) (h2 : PSs X s2 (tS X W m2)) : PS X (.If c s1 s2 pos) (tS X W (mIfS mc m1 m2)) := (ps_if hc h1 h2).imp fun D σ H ⟨φ, ρ, st, rs, re, h⟩ => by
  refine ⟨φ, ρ, st, rs, re, h.exp re fun φ1 b x H1 st1 e1 rs1 rv1 h1 => ?_⟩
  subst rv1
  cases x with
  | true => exact iteT ⟨φ1, ρ, st1, rs1, re.ext e1, h1⟩
  | false => exact iteF ⟨φ1, ρ, st1, rs1, re.ext e1, h1⟩
def RVw (K : PySem.W.Frag) (φ : List Addr) (H : Hp) : Bool → V → A → Prop
  | false, v, a => RV K φ H v a
  | true, v, a => ∃ p xs ds, v = .ref p ∧ a = .tup ds ∧ SqT K H p xs ∧ RVs K φ H xs ds
inductive Tg where
  | one (i : Nat) | many (is : List Nat) | nest (i : Nat) (is : List Nat)
def setsV (σ : L2.St) : List Nat → List V → L2.St
  | i :: is, v :: vs => setsV (σ.set i (some v)) is vs
  | _, _ => σ
def setsA (ρ : Env) : List Nat → List A → Env
  | i :: is, v :: vs => setsA (ρ.set i (some v)) is vs
  | _, _ => ρ
def gNames : List Nat → TGs
  | [] => gNil
  | i :: is => gCons (gName i) (gNames is)
def gOf (K : PySem.W.Frag) : Tg → TG
  | .one i => gName i
  | .many is => gTup K is.length (gNames is)
  | .nest i is => gTup K 2 (gCons (gName i) (gCons (gTup K is.length (gNames is)) gNil))
def asgT : Tg → A → Env → Store → Option Env
  | .one i, a, ρ, _ => some (ρ.set i (some a))
  | .many is, .tup as, ρ, _ => if as.length = is.length then some (setsA ρ is as) else none
  | .many _, _, _, _ => none
  | .nest i is, .tup [a, .tup bs], ρ, _ => if bs.length = is.length then some (setsA (ρ.set i (some a)) is bs) else none
  | .nest _ _, _, _, _ => none
def Tg.slots : Tg → List Nat
  | .one i => [i]
  | .many is => is
  | .nest i is => i :: is
theorem gNames_run {Q : L2.St → Hp → Prop} {H : Hp} : ∀ {is : List Nat} {vs : List V} {σ : L2.St}, vs.length = is.length → Q (setsV σ is vs) H → gNames is vs σ H Q
  | [], [], σ, _, h => ⟨rfl, h⟩
  | i :: is, v :: vs, σ, hl, h => ⟨v, vs, rfl, gNames_run (by simpa using hl) h⟩
  | [], _ :: _, _, hl, _ => by simp at hl
  | _ :: _, [], _, hl, _ => by simp at hl
theorem RE.sets {K : PySem.W.Frag} {φ : List Addr} {H : Hp} : ∀ {is : List Nat} {vs : List V} {as : List A} {σ : L2.St} {ρ : Env}, RE K φ H σ ρ → RVs K φ H vs as → RE K φ H (setsV σ is vs) (setsA ρ is as)
  | [], _, _, _, _, r, q => by cases q <;> exact r
  | _ :: _, _, _, _, _, r, .nil => r
  | i :: is, _, _, _, _, r, .cons h q => RE.sets (is := is) (r.set h i) q
theorem asgT_nest {i : Nat} {is : List Nat} {d : A} {ρ ρ' : Env} {st : Store} (h : asgT (.nest i is) d ρ st = some ρ') : ∃ a bs, d = .tup [a, .tup bs] ∧ bs.length = is.length ∧ ρ' = setsA (ρ.set i (some a)) is bs := by
  cases d with
  | tup ds =>
    match ds with
    | [] => cases h
    | [_] => cases h
    | [a, b] =>
      cases b with
      | tup bs =>
        unfold asgT at h
        simp only at h
        split at h
        · rename_i hl
          cases h
          exact ⟨a, bs, rfl, hl, rfl⟩
        · cases h
      | _ => cases h
    | _ :: b :: _ :: _ => cases b <;> first | (cases h; done) | simp [asgT] at h
  | _ => cases h
theorem gOf_run {K : PySem.W.Frag} {φ : List Addr} {H : Hp} {tg : Tg} {v : V} {d : A} {σ : L2.St} {ρ ρ' : Env} {st : Store} {Q : L2.St → Hp → Prop} (r : RV K φ H v d) (re : RE K φ H σ ρ) (h : asgT tg d ρ st = some ρ')
    (k : ∀ xs, RE K φ H (setsV σ tg.slots xs) ρ' → Q (setsV σ tg.slots xs) H) : gOf K tg v σ H Q := by
  cases tg with
  | one i =>
    cases h
    exact k [v] (re.set r i)
  | many is =>
    cases r with
    | @tup p xs ds q qs =>
      unfold asgT at h
      simp only at h
      split at h
      · rename_i hl
        cases h
        have hl' : xs.length = is.length := by rw [qs.length]; exact hl
        exact ⟨p, xs, rfl, q.sq, hl', gNames_run hl' (k xs (re.sets qs))⟩
      · cases h
    | _ => cases h
  | nest i is =>
    obtain ⟨a, bs, rfl, hl, rfl⟩ := asgT_nest h
    cases r with
    | @tup p xs ds q qs =>
      cases qs with
      | cons r1 qs2 =>
        cases qs2 with
        | cons r2 qs3 =>
          cases qs3
          cases r2 with
          | @tup p2 ys ds2 q2 qq =>
            have hl' : ys.length = is.length := by rw [qq.length]; exact hl
            refine ⟨p, _, rfl, q.sq, rfl, _, _, rfl, _, _, rfl, ⟨p2, ys, rfl, q2.sq, hl', gNames_run hl' ⟨rfl, ?_⟩⟩⟩
            exact k (_ :: ys) ((re.set r1 i).sets qq)
def Tg.isOne : Tg → Bool
  | .one _ => true
  | _ => false
theorem gOf_runB {K : PySem.W.Frag} {φ : List Addr} {H : Hp} {wk : Bool} {tg : Tg} {v : V} {d : A} {σ : L2.St} {ρ ρ' : Env} {st : Store} {Q : L2.St → Hp → Prop} (hw : wk = false ∨ tg.isOne = false) (r : RVw K φ H wk v d) (re : RE K φ H σ ρ) (h : asgT tg d ρ st = some ρ')
    (k : ∀ xs, RE K φ H (setsV σ tg.slots xs) ρ' → Q (setsV σ tg.slots xs) H) : gOf K tg v σ H Q := by
  cases wk with
  | false => exact gOf_run r re h k
  | true =>
    obtain ⟨p, xs, ds, rfl, rfl, q, qs⟩ := r
    cases tg with
    | one i => exact hw.elim (fun z => by cases z) fun z => by cases z
    | many is =>
      unfold asgT at h
      simp only at h
      split at h
      · rename_i hl
        cases h
        have hl' : xs.length = is.length := by rw [qs.length]; exact hl
        exact ⟨p, xs, rfl, q, hl', gNames_run hl' (k xs (re.sets qs))⟩
      · cases h
    | nest i is =>
      obtain ⟨a, bs, e, hl, rfl⟩ := asgT_nest h
      cases e
      cases qs with
      | cons r1 qs2 =>
        cases qs2 with
        | cons r2 qs3 =>
          cases qs3
          cases r2 with
          | @tup p2 ys ds2 q2 qq =>
            have hl' : ys.length = is.length := by rw [qq.length]; exact hl
            refine ⟨p, _, rfl, q, rfl, _, _, rfl, _, _, rfl, ⟨p2, ys, rfl, q2.sq, hl', gNames_run hl' ⟨rfl, ?_⟩⟩⟩
            exact k (_ :: ys) ((re.set r1 i).sets qq)
theorem mg_one {i : Nat} {x : Str} (hN : X.N.Nodup) (hi : X.N[i]? = some x := by rfl) (hx : Loc X.env.scope x := by first | exact Or.inl rfl | exact Or.inr rfl) (hf : X.fn x = true ∨ X.env.scope.names.lookup x = some .local := by first | exact .inl rfl | exact .inr rfl | assumption) : PG X (.Name x pos) (gOf X.K (.one i)) := pg_name hN hi hx hf
theorem mgs_nil : PGs X [] (gNames []) := pgs_nil
theorem mgs_cons {i : Nat} {is : List Nat} {es : List Expr} (h1 : PG X e (gOf X.K (.one i))) (h2 : PGs X es (gNames is)) (hs : (assignEach (e :: es) X.env).map (·.2) = assign e X.env :: (assignEach es X.env).map (·.2) := by rfl) : PGs X (e :: es) (gNames (i :: is)) := pgs_cons h1 h2 hs
theorem mg_many {es : List Expr} {k : Nat} {is : List Nat} (h : PGs X es (gNames is)) (hn : (assignEach es X.env).length = is.length := by rfl) (hc : X.calm = true := by rfl) (hst : (assignEach es X.env).findIdx? (·.1) = none := by rfl) : PG X (.Tuple es k pos) (gOf X.K (.many is)) := pg_tup hc h hn hst
def mAsg (tg : Tg) (ma : MX) : MS := fun ρ st => (ma ρ st).toS ρ fun d st1 => match asgT tg d ρ st1 with
  | some ρ' => .nx ρ' st1
  | none => .bad
theorem asg_ok {tg : Tg} {D : Ends} {σ : L2.St} {H : Hp} (h : tS X W (mAsg tg ma) D σ H) : tAsg (tE X W ma) (gOf X.K tg) D σ H := by
  obtain ⟨φ, ρ, st, rs, re, h⟩ := h
  refine ⟨φ, ρ, st, rs, re, h.exp re fun φ1 d x H1 st1 e1 rs1 rv1 h1 => ?_⟩
  cases q : asgT tg d ρ st1 with
  | none => simp only [q] at h1; exact h1.elim
  | some ρ' =>
    simp only [q] at h1
    exact gOf_run rv1 (re.ext e1) q fun xs re' => h1 φ1 _ H1 .refl rs1 re'
def mSet (i : Nat) (ma : MX) : MS := fun ρ st => (ma ρ st).toS ρ fun d st1 => .nx (ρ.set i (some d)) st1
theorem set_ok {i : Nat} {D : Ends} {σ : L2.St} {H : Hp} (h : tS X W (mSet i ma) D σ H) : tAsg (tE X W ma) (gName i) D σ H := asg_ok (tg := .one i) h
theorem ms_set {i : Nat} {x : Str} {pos' : Pos} (hN : X.N.Nodup) (he : PE X e (tE X W ma)) (hi : X.N[i]? = some x := by rfl) (hx : Loc X.env.scope x := by first | exact Or.inl rfl | exact Or.inr rfl) (hs : swapsWith e (some (.Name x pos')) pos.line X.env = pure false := by rfl)
    (hf : X.fn x = true ∨ X.env.scope.names.lookup x = some .local := by first | exact .inl rfl | exact .inr rfl | assumption) : PS X (.Assign [.Name x pos'] e pos) (tS X W (mSet i ma)) := (ps_set hN hi hx he hs hf).imp fun _ _ _ h => set_ok h
def setA : A → A → A → Store → Option Store
  | .ref r, .int k, d, st => match st[r]? with
    | some (.lst xs) => match ixN xs.length k with
      | some j => some (st.set r (.lst (xs.set j d)))
      | none => none
    | _ => none
  | _, _, _, _ => none
def mPut (mo mi ma : MX) : MS := fun ρ st => (ma ρ st).toS ρ fun d st1 => (mo ρ st1).toS ρ fun o st2 => (mi ρ st2).toS ρ fun i st3 => match setA o i d st3 with
  | some st4 => .nx ρ st4
  | none => .bad
theorem ms_put {o i : Expr} {mo mi : MX} {p2 : Pos} (ho : PE X o (tE X W mo)) (hi : PE X i (tE X W mi)) (he : PE X e (tE X W ma))
    (ha : ∀ v, assign (.Subscript o i p2) X.env v = (do
      let ov ← holding [v] (eval o X.env)
      let iv ← holding [v, ov] (eval i X.env)
      standAt p2
      holding [v, ov, iv] (setItem ov iv v)
      release [v, ov, iv] []) := by intro _; rfl) (hs : swapsWithSole [.Subscript o i p2] e pos.line X.env = pure false := by rfl) (hw : swappedStores [.Subscript o i p2] e X.env = pure none := by rfl)
    (h1 : (assignEach [.Subscript o i p2] X.env).map (·.2) = [assign (.Subscript o i p2) X.env] := by rfl) : PS X (.Assign [.Subscript o i p2] e pos) (tS X W (mPut mo mi ma)) := (ps_asg he (pg_sub ho hi set_list ha) hs hw h1).imp fun D σ H ⟨φ, ρ, st, rs, re, h⟩ => by
  refine ⟨φ, ρ, st, rs, re, h.exp re fun φ1 d x H1 st1 e1 rs1 rv1 h1 => ?_⟩
  refine ⟨φ1, ρ, st1, rs1, re.ext e1, h1.exp (re.ext e1) fun φ2 o y H2 st2 e2 rs2 rv2 h2 => ?_⟩
  refine ⟨φ2, ρ, st2, rs2, (re.ext e1).ext e2, h2.exp ((re.ext e1).ext e2) fun φ3 i z H3 st3 e3 rs3 rv3 h3 => ?_⟩
  cases q : setA o i d st3 with
  | none => simp only [q] at h3; exact h3.elim
  | some st4 =>
    simp only [q] at h3
    unfold setA at q
    split at q
    · rename_i r k
      cases rv3
      have rv2' := rv2.ext e3
      cases rv2' with
      | @ref p _ qp =>
        cases e5 : st3[r]? with
        | none => rw [e5] at q; cases q
        | some ob =>
          cases ob with
          | oth u => rw [e5] at q; cases q
          | lst ds =>
            rw [e5] at q
            simp only at q
            cases e6 : ixN ds.length k with
            | none => rw [e6] at q; cases q
            | some j =>
              rw [e6] at q
              cases q
              obtain ⟨vs, g1, g2⟩ := rs3.lst qp e5
              obtain ⟨e7, rs4⟩ := rs3.write qp e5 (g2.set ((rv1.ext e2).ext e3) j)
              exact ⟨p, vs, k, j, rfl, rfl, g1, by rw [g2.length]; exact e6, h3 φ3 σ _ e7 rs4 ((((re.ext e1).ext e2).ext e3).ext e7)⟩
    · cases q
def mAug (i : Nat) (g : A → A → Store → R A) (ma : MX) : MS := fun ρ st => (mVar i ρ st).toS ρ fun x st0 => (ma ρ st0).toS ρ fun y st1 => (g x y st1).toS ρ fun z st2 => .nx (ρ.set i (some z)) st2
def iaddA : A → A → Store → R A
  | .int i, .int j, st => .ok (.int (i + j)) st
  | _, _, _ => .bad
theorem os_iadd : OpS X (ipI fun i j => i + j) iaddA := fun W φ H st x y a b Q rs ra rb h => by
  cases ra with
  | int i =>
    cases rb with
    | int j => exact ⟨i, j, rfl, rfl, h.ok rs (.int _)⟩
    | _ => exact (show False from h).elim
  | _ => exact (show False from h).elim
theorem ms_aug {i : Nat} {x : Str} {op : Operator} {ti : TIp} {pos' : Pos} {g : A → A → Store → R A} (hN : X.N.Nodup) (ho : PIp X op ti) (hg : OpS X ti g) (he : PE X e (tE X W ma)) (hi : X.N[i]? = some x := by rfl) (hx : Loc X.env.scope x := by first | exact Or.inl rfl | exact Or.inr rfl)
    (hf : X.fn x = true ∨ X.env.scope.names.lookup x = some .local := by first | exact .inl rfl | exact .inr rfl | assumption) : PS X (.AugAssign (.Name x pos') op e pos) (tS X W (mAug i g ma)) := (ps_aug hN hi hx he ho hf).imp fun D σ H ⟨φ, ρ, st, rs, re, h⟩ => by
  unfold mAug mVar at h
  cases q : ρ[i]? with
  | none => rw [q] at h; exact h.elim
  | some o =>
    cases o with
    | none => rw [q] at h; exact h.elim
    | some d =>
      rw [q] at h
      obtain ⟨v, g1, g2⟩ := re.all i d q
      refine ⟨v, g1, φ, ρ, st, rs, re, SPst.exp h re fun φ1 b y H1 st1 e1 rs1 rv1 h1 => ?_⟩
      refine hg (fun c d H' => W c d σ H') _ _ _ _ _ _ _ _ rs1 (g2.ext e1) rv1 (SPst.exp h1 (re.ext e1) fun φ2 z w H2 st2 e2 rs2 rv2 h2 => ?_)
      exact h2 φ2 _ H2 .refl rs2 (((re.ext e1).ext e2).set rv2 i)
def whileF : Nat → MT → MS → MS
  | 0, _, _, _, _ => .bad
  | n + 1, c, b, ρ, st => (c ρ st).toS ρ fun x st1 => if x = true then match b ρ st1 with
      | .nx ρ2 st2 => whileF n c b ρ2 st2
      | .ct ρ2 st2 => whileF n c b ρ2 st2
      | .bk ρ2 st2 => .nx ρ2 st2
      | r => r else .nx ρ st1
open Classical in
noncomputable def mWhile (c : MT) (b : MS) : MS := fun ρ st => if h : ∃ n, whileF n c b ρ st ≠ .bad then whileF h.choose c b ρ st else .bad
theorem whileF_mono {c : MT} {b : MS} : ∀ {n m : Nat} {ρ : Env} {st : Store}, n ≤ m → whileF n c b ρ st ≠ .bad → whileF m c b ρ st = whileF n c b ρ st
  | 0, _, _, _, _, h => absurd rfl h
  | n + 1, 0, _, _, hl, _ => absurd hl (by omega)
  | n + 1, m + 1, ρ, st, hl, h => by
    unfold whileF at h ⊢
    cases e : c ρ st with
    | bad => rw [e] at h; exact absurd rfl h
    | er x st1 => rfl
    | ok x st1 =>
      rw [e] at h
      simp only [R.toS] at h ⊢
      cases x with
      | false => rfl
      | true =>
        simp only [if_true] at h ⊢
        cases e2 : b ρ st1 with
        | nx ρ2 st2 =>
          rw [e2] at h
          simp only at h ⊢
          exact whileF_mono (by omega) h
        | ct ρ2 st2 =>
          rw [e2] at h
          simp only at h ⊢
          exact whileF_mono (by omega) h
        | _ => rfl
theorem mWhile_of {c : MT} {b : MS} {ρ : Env} {st : Store} {r : SR} (n : Nat) (h : whileF n c b ρ st = r) (hr : r ≠ .bad) : mWhile c b ρ st = r := by
  unfold mWhile
  have hx : ∃ n, whileF n c b ρ st ≠ .bad := ⟨n, by rw [h]; exact hr⟩
  rw [dif_pos hx]
  have h2 := hx.choose_spec
  rcases Nat.le_total n hx.choose with l | l
  · rw [whileF_mono l (by rw [h]; exact hr), h]
  · rw [← whileF_mono l h2, h]
theorem mWhile_ex {c : MT} {b : MS} {ρ : Env} {st : Store} (h : mWhile c b ρ st ≠ .bad) : ∃ n, whileF n c b ρ st = mWhile c b ρ st := by
  unfold mWhile at h ⊢
  by_cases hx : ∃ n, whileF n c b ρ st ≠ .bad
  · rw [dif_pos hx]
    exact ⟨_, rfl⟩
  · rw [dif_neg hx] at h
    exact absurd rfl h
theorem ms_while {c : Expr} {body : List Stmt} {mc : MT} {mb : MS} (hp : PassesOwn (model X.prog X.w) X.A X.env X.xe) (hc : PT X c (tT X W mc)) (hb : PSs X body (tS X W mb)) : PS X (.While c body [] pos) (tS X W (mWhile mc mb)) := (ps_while hp hc hb).imp fun D σ H ⟨φ, ρ, st, rs, re, h⟩ => by
  have hne : mWhile mc mb ρ st ≠ .bad := fun z => by rw [z] at h; exact h
  obtain ⟨n, hn⟩ := mWhile_ex hne
  rw [← hn] at h
  refine ⟨fun m σ H => ∃ φ ρ st, RS X.K X.w X.mg φ H st ∧ RE X.K φ H σ ρ ∧ SPst X.K X.w X.mg W φ H (whileF m mc mb ρ st) D, ⟨n, φ, ρ, st, rs, re, h⟩, ?_⟩
  rintro m σ H ⟨φ, ρ, st, rs, re, h⟩
  cases m with
  | zero => exact h.elim
  | succ m =>
    unfold whileF at h
    refine ⟨φ, ρ, st, rs, re, h.exp re fun φ1 b x H1 st1 e1 rs1 rv1 h1 => ?_⟩
    subst rv1
    cases x with
    | false => exact iteF (h1 φ1 σ H1 .refl rs1 (re.ext e1))
    | true =>
      refine iteT ⟨fun σ' H' => ∃ φ ρ st, RS X.K X.w X.mg φ H' st ∧ RE X.K φ H' σ' ρ ∧ SPst X.K X.w X.mg W φ H' (whileF m mc mb ρ st) D, fun σ' H' h => ⟨m, Nat.lt_succ_self m, h⟩, φ1, ρ, st1, rs1, re.ext e1, ?_⟩
      simp only [if_true] at h1
      cases e2 : mb ρ st1 with
      | nx ρ2 st2 =>
        rw [e2] at h1
        exact fun φ' σ' H' ex rs' re' => ⟨φ', ρ2, st2, rs', re', SPst.mono h1 ex⟩
      | ct ρ2 st2 =>
        rw [e2] at h1
        exact fun φ' σ' H' ex rs' re' => ⟨φ', ρ2, st2, rs', re', SPst.mono h1 ex⟩
      | bk ρ2 st2 => rw [e2] at h1; exact h1
      | rt a st2 => rw [e2] at h1; exact h1
      | er x ρ2 st2 => rw [e2] at h1; exact h1
      | bad => rw [e2] at h1; exact h1
inductive Src where
  | vals (xs : List A) | lst (r : Nat) | rng (lo : Int) (n : Nat) | chars (x : Str) | zipv (xs ys : List A) | zipl (r q : Nat) | revl (r n : Nat) | enul (r : Nat)
def stL (st : Store) (r : Nat) : Option (List A) := match st[r]? with
  | some (.lst xs) => some xs
  | _ => none
def Src.at (s : Src) (i : Nat) (st : Store) : Option (Option A) := match s with
  | .vals xs => some xs[i]?
  | .lst r => match stL st r with
    | some xs => some xs[i]?
    | none => none
  | .rng lo n => some (if i < n then some (.int (lo + (i : Nat))) else none)
  | .chars x => some (x.cps[i]?.map fun c => .str ⟨#[c]⟩)
  | .zipv xs ys => some (match xs[i]?, ys[i]? with
    | some a, some b => some (.tup [a, b])
    | _, _ => none)
  | .zipl r q => match stL st r, stL st q with
    | some xs, some ys => some (match xs[i]?, ys[i]? with
      | some a, some b => some (.tup [a, b])
      | _, _ => none)
    | _, _ => none
  | .revl r n => if i < n then (match stL st r with
    | some xs => (match xs[n - 1 - i]? with
      | some x => some (some x)
      | none => none)
    | none => none) else some none
  | .enul r => match stL st r with
    | some xs => some (match xs[i]? with
      | some a => some (.tup [.int (i : Nat), a])
      | none => none)
    | none => none
def Src.size (s : Src) (st : Store) : Nat := match s with
  | .vals xs => xs.length
  | .lst r => ((stL st r).getD []).length
  | .rng _ n => n
  | .chars x => x.cps.size
  | .zipv xs _ => xs.length
  | .zipl r _ => ((stL st r).getD []).length
  | .revl _ n => n
  | .enul r => ((stL st r).getD []).length
structure SimB (K : PySem.W.Frag) (w : World) (mg : Str → Option Value) (wk : Bool) (φ0 : List Addr) (H0 : Hp) (J : It) (s : Src) : Prop where
  stop : ∀ i φ H st, Ext φ0 H0 φ H → RS K w mg φ H st → s.at i st = some none → J.stop i H
  go : ∀ i φ H st a, Ext φ0 H0 φ H → RS K w mg φ H st → s.at i st = some (some a) → J.go i H ∧ ∀ x H', J.yld i H x H' → Ext φ H φ H' ∧ RS K w mg φ H' st ∧ RVw K φ H' wk x a
abbrev SimS (K : PySem.W.Frag) (w : World) (mg : Str → Option Value) := SimB K w mg false
abbrev tIW (X : Cx) (W : WX) (ms : Env → Store → R Src) : TI := tG X.K X.w X.mg (SimB X.K X.w X.mg true) W ms
abbrev tI (X : Cx) (W : WX) (ms : Env → Store → R Src) : TI := tG X.K X.w X.mg (SimS X.K X.w X.mg) W ms
theorem PIimp {tg iter : Expr} {t t' : TI} (h : PI X tg iter t) (k : ∀ σ H R, t' σ H R → t σ H R) : PI X tg iter t' := ⟨fun pins s σ H R I q => h.run pins s σ H R I (k _ _ _ q)⟩
theorem PIor {tg iter : Expr} {t t' : TI} (h : PI X tg iter t) (h' : PI X tg iter t') : PI X tg iter (fun σ H R => t σ H R ∨ t' σ H R) := ⟨fun pins s σ H R I q => q.elim (h.run pins s σ H R I) (h'.run pins s σ H R I)⟩
def srcA : A → Store → R Src
  | .tup xs, st => .ok (.vals xs) st
  | .scr xs, st => .ok (.vals xs) st
  | .str x, st => .ok (.chars x) st
  | .ref r, st => match st[r]? with
    | some (.lst _) => .ok (.lst r) st
    | _ => .bad
  | _, _ => .bad
def mSrc (ma : MX) : Env → Store → R Src := fun ρ st => (ma ρ st).bind srcA
end
section
variable {K : PySem.W.Frag} {w : World} {mg : Str → Option Value} {φ0 : List Addr} {H0 : Hp}
theorem sim_tup {a : Addr} {xs : List V} {ds : List A} (q : StT K φ0 H0 a xs) (qs : RVs K φ0 H0 xs ds) : SimS K w mg φ0 H0 (Itt K a) (.vals ds) where
  stop := fun i φ H st e rs h => ⟨xs, (q.ext e).sq, by
    have h1 : ds[i]? = none := Option.some.inj h
    rw [qs.length]
    exact List.getElem?_eq_none_iff.mp h1⟩
  go := fun i φ H st d e rs h => by
    have h1 : ds[i]? = some d := Option.some.inj h
    obtain ⟨v, h2, h3⟩ := qs.get h1
    refine ⟨⟨xs, v, (q.ext e).sq, h2⟩, fun x H' y => ?_⟩
    obtain ⟨rfl, y⟩ := y
    have e3 := (y xs (q.ext e).sq).symm.trans h2
    cases e3
    exact ⟨.refl, rs, h3.ext e⟩
theorem sim_scr {a : Addr} {xs : List V} {ds : List A} (q : StL K φ0 H0 a xs) (qs : RVs K φ0 H0 xs ds) : SimS K w mg φ0 H0 (Itl K a) (.vals ds) where
  stop := fun i φ H st e rs h => ⟨xs, (q.ext e).sq, by
    have h1 : ds[i]? = none := Option.some.inj h
    rw [qs.length]
    exact List.getElem?_eq_none_iff.mp h1⟩
  go := fun i φ H st d e rs h => by
    have h1 : ds[i]? = some d := Option.some.inj h
    obtain ⟨v, h2, h3⟩ := qs.get h1
    refine ⟨⟨xs, v, (q.ext e).sq, h2⟩, fun x H' y => ?_⟩
    obtain ⟨rfl, y⟩ := y
    have e3 := (y xs (q.ext e).sq).symm.trans h2
    cases e3
    exact ⟨.refl, rs, h3.ext e⟩
theorem stL_eq {st : Store} {r : Nat} {xs : List A} (h : stL st r = some xs) : st[r]? = some (.lst xs) := by
  unfold stL at h
  split at h
  · rename_i ys e
    cases h
    exact e
  · cases h
theorem sim_lst {a : Addr} {r : Nat} (q : φ0[r]? = some a) : SimS K w mg φ0 H0 (Itl K a) (.lst r) where
  stop := fun i φ H st e rs h => by
    unfold Src.at at h
    simp only at h
    cases e1 : stL st r with
    | none => rw [e1] at h; cases h
    | some ds =>
      rw [e1] at h
      obtain ⟨xs, h1, h2⟩ := rs.lst (e.get q) (stL_eq e1)
      have h3 : ds[i]? = none := Option.some.inj h
      exact ⟨xs, .inl (.inl h1), by rw [h2.length]; exact List.getElem?_eq_none_iff.mp h3⟩
  go := fun i φ H st d e rs h => by
    unfold Src.at at h
    simp only at h
    cases e1 : stL st r with
    | none => rw [e1] at h; cases h
    | some ds =>
      rw [e1] at h
      obtain ⟨xs, h1, h2⟩ := rs.lst (e.get q) (stL_eq e1)
      have h3 : ds[i]? = some d := Option.some.inj h
      obtain ⟨v, h4, h5⟩ := h2.get h3
      refine ⟨⟨xs, v, .inl (.inl h1), h4⟩, fun x H' y => ?_⟩
      obtain ⟨rfl, y⟩ := y
      have e3 := (y xs (.inl (.inl h1))).symm.trans h4
      cases e3
      exact ⟨.refl, rs, h5⟩
theorem sim_rng {lo : Int} {n : Nat} : SimS K w mg φ0 H0 (Itr lo n) (.rng lo n) where
  stop := fun i φ H st e rs h => by
    unfold Src.at at h
    simp only [Option.some.injEq] at h
    split at h
    · cases h
    · rename_i hn
      exact Nat.le_of_not_lt hn
  go := fun i φ H st d e rs h => by
    unfold Src.at at h
    simp only [Option.some.injEq] at h
    split at h
    · rename_i hn
      cases h
      refine ⟨hn, fun x H' y => ?_⟩
      obtain ⟨rfl, rfl⟩ := y
      exact ⟨.refl, rs, .int _⟩
    · cases h
theorem sim_chars {z : Str} : SimS K w mg φ0 H0 (Its z) (.chars z) where
  stop := fun i φ H st e rs h => by
    unfold Src.at at h
    simp only [Option.some.injEq, Option.map_eq_none_iff] at h
    exact Array.getElem?_eq_none_iff.mp h
  go := fun i φ H st d e rs h => by
    unfold Src.at at h
    simp only [Option.some.injEq, Option.map_eq_some_iff] at h
    obtain ⟨c, hc, rfl⟩ := h
    refine ⟨(Array.getElem?_eq_some_iff.mp hc).1, fun x H' y => ?_⟩
    obtain ⟨rfl, c', hc', rfl⟩ := y
    rw [hc] at hc'
    cases hc'
    exact ⟨.refl, rs, .str _⟩
theorem sim_zipv {a b : Addr} {xs ys : List V} {ds es : List A} (q : StT K φ0 H0 a xs) (qs : RVs K φ0 H0 xs ds) (p : StT K φ0 H0 b ys) (ps : RVs K φ0 H0 ys es) : SimB K w mg true φ0 H0 (RZ.ItzT K a b) (.zipv ds es) where
  stop := fun i φ H st e rs h => by
    unfold Src.at at h
    simp only [Option.some.injEq] at h
    refine ⟨xs, ys, (q.ext e).sq, (p.ext e).sq, ?_⟩
    rw [qs.length, ps.length]
    split at h
    · cases h
    · rename_i hn
      by_cases c1 : ds.length ≤ i
      · exact .inl c1
      · by_cases c2 : es.length ≤ i
        · exact .inr c2
        · exact absurd (List.getElem?_eq_getElem (Nat.lt_of_not_le c2)) (hn _ _ (List.getElem?_eq_getElem (Nat.lt_of_not_le c1)))
  go := fun i φ H st d e rs h => by
    unfold Src.at at h
    simp only [Option.some.injEq] at h
    split at h
    · rename_i d1 d2 h1 h2
      cases h
      obtain ⟨v1, g1, g2⟩ := qs.get h1
      obtain ⟨v2, g3, g4⟩ := ps.get h2
      refine ⟨⟨xs, ys, v1, v2, (q.ext e).sq, (p.ext e).sq, g1, g3⟩, fun x H' y => ?_⟩
      obtain ⟨T, x', y', rfl, hT, rfl, f1, f2⟩ := y
      have z1 := (f1 xs (q.ext e).sq).symm.trans g1
      have z2 := (f2 ys (p.ext e).sq).symm.trans g3
      cases z1
      cases z2
      exact ⟨ext_new hT, rs.new hT, T, _, _, rfl, rfl, .inl (.inl upd_same), RVs.ext (ext_new hT) (.cons (g2.ext e) (.cons (g4.ext e) .nil))⟩
    · cases h
theorem sim_zipl {a b : Addr} {r q : Nat} (ha : φ0[r]? = some a) (hb : φ0[q]? = some b) : SimB K w mg true φ0 H0 (Itz K a b) (.zipl r q) where
  stop := fun i φ H st e rs h => by
    unfold Src.at at h
    simp only at h
    cases e1 : stL st r with
    | none => rw [e1] at h; cases h
    | some ds =>
      cases e2 : stL st q with
      | none => rw [e1, e2] at h; cases h
      | some es =>
        rw [e1, e2] at h
        simp only [Option.some.injEq] at h
        obtain ⟨xs, h1, h2⟩ := rs.lst (e.get ha) (stL_eq e1)
        obtain ⟨ys, h3, h4⟩ := rs.lst (e.get hb) (stL_eq e2)
        refine ⟨xs, ys, .inl (.inl h1), .inl (.inl h3), ?_⟩
        rw [h2.length, h4.length]
        split at h
        · cases h
        · rename_i hn
          by_cases c1 : ds.length ≤ i
          · exact .inl c1
          · by_cases c2 : es.length ≤ i
            · exact .inr c2
            · exact absurd (List.getElem?_eq_getElem (Nat.lt_of_not_le c2)) (hn _ _ (List.getElem?_eq_getElem (Nat.lt_of_not_le c1)))
  go := fun i φ H st d e rs h => by
    unfold Src.at at h
    simp only at h
    cases e1 : stL st r with
    | none => rw [e1] at h; cases h
    | some ds =>
      cases e2 : stL st q with
      | none => rw [e1, e2] at h; cases h
      | some es =>
        rw [e1, e2] at h
        simp only [Option.some.injEq] at h
        obtain ⟨xs, k1, k2⟩ := rs.lst (e.get ha) (stL_eq e1)
        obtain ⟨ys, k3, k4⟩ := rs.lst (e.get hb) (stL_eq e2)
        split at h
        · rename_i d1 d2 h1 h2
          cases h
          obtain ⟨v1, g1, g2⟩ := k2.get h1
          obtain ⟨v2, g3, g4⟩ := k4.get h2
          refine ⟨⟨xs, ys, v1, v2, .inl (.inl k1), .inl (.inl k3), g1, g3⟩, fun x H' y => ?_⟩
          obtain ⟨T, x', y', rfl, hT, rfl, f1, f2⟩ := y
          have z1 := (f1 xs (.inl (.inl k1))).symm.trans g1
          have z2 := (f2 ys (.inl (.inl k3))).symm.trans g3
          cases z1
          cases z2
          exact ⟨ext_new hT, rs.new hT, T, _, _, rfl, rfl, .inl (.inl upd_same), RVs.ext (ext_new hT) (.cons g2 (.cons g4 .nil))⟩
        · cases h
end
section
variable {X : Cx} {W : WX} {a b e tg : Expr} {ma mb : MX} {ms : MA} {pos : Pos}
theorem mi_it (ha : PE X a (tE X W ma)) : PI X tg a (tI X W (mSrc ma)) := PIimp (PIor (pi_list ha) (PIor (pi_tup ha) (pi_str ha))) fun σ H Q ⟨φ, ρ, st, rs, re, h⟩ => by
  unfold mSrc at h
  cases e : ma ρ st with
  | bad => rw [e] at h; exact h.elim
  | er x st1 =>
    rw [e] at h
    exact .inl ⟨φ, ρ, st, rs, re, by rw [e]; exact h⟩
  | ok d st1 =>
    rw [e] at h
    have h : Pst X.K X.w X.mg (SimS X.K X.w X.mg) (fun c d H' => W c d σ H') φ H (srcA d st1) Q := h
    cases d with
    | tup ds =>
      refine .inr (.inl ⟨φ, ρ, st, rs, re, ?_⟩)
      rw [e]
      intro φ1 v H1 e1 rs1 rv1
      cases rv1 with
      | tup q qs => exact ⟨_, rfl, ⟨_, q.sq⟩, h φ1 _ H1 e1 rs1 (sim_tup q qs)⟩
    | scr ds =>
      refine .inl ⟨φ, ρ, st, rs, re, ?_⟩
      rw [e]
      intro φ1 v H1 e1 rs1 rv1
      cases rv1 with
      | scr q qs => exact ⟨_, rfl, ⟨_, q.sq⟩, h φ1 _ H1 e1 rs1 (sim_scr q qs)⟩
    | str z =>
      refine .inr (.inr ⟨φ, ρ, st, rs, re, ?_⟩)
      rw [e]
      intro φ1 v H1 e1 rs1 rv1
      cases rv1
      exact ⟨_, rfl, h φ1 _ H1 e1 rs1 sim_chars⟩
    | ref r =>
      refine .inl ⟨φ, ρ, st, rs, re, ?_⟩
      rw [e]
      intro φ1 v H1 e1 rs1 rv1
      unfold srcA at h
      simp only at h
      cases e2 : st1[r]? with
      | none => rw [e2] at h; exact h.elim
      | some o =>
        cases o with
        | oth u => rw [e2] at h; exact h.elim
        | lst ds =>
          rw [e2] at h
          cases rv1 with
          | ref q =>
            obtain ⟨xs, h1, _⟩ := rs1.lst q e2
            exact ⟨_, rfl, ⟨_, .inl (.inl h1)⟩, h φ1 _ H1 e1 rs1 (sim_lst q)⟩
    | _ => exact h.elim
def rngA : List A → Store → R Src
  | [.int j], st => if -(2 ^ 62) ≤ j ∧ j < 2 ^ 62 then .ok (.rng 0 j.toNat) st else .bad
  | [.int i, .int j], st => if -(2 ^ 62) ≤ i ∧ i < 2 ^ 62 ∧ -(2 ^ 62) ≤ j ∧ j < 2 ^ 62 then .ok (.rng i (j - i).toNat) st else .bad
  | _, _ => .bad
def mRng (ms : MA) : Env → Store → R Src := fun ρ st => (ms ρ st).bind rngA
theorem mi_range1 {p : Pos} {x : Str} (hm : X.mg "range" = none) (ha : PA X [a] (tA X W ms)) (hg : Gl X "range" := by rfl) (hs : starEach [a] X.env = [(false, eval a X.env)] := by rfl) (hn : ∀ ρ st as st', ms ρ st = .ok as st' → as.length = 1) : PI X tg (.Call (.Name "range" p) [a] [] pos) (tI X W (mRng ms)) := PIimp (pi_range1 hg hm ha hs) fun σ H Q ⟨φ, ρ, st, rs, re, h⟩ => by
  have hn' := hn ρ st
  refine ⟨φ, ρ, st, rs, re, ?_⟩
  unfold mRng at h
  cases e : ms ρ st with
  | bad => rw [e] at h; exact h.elim
  | er x st1 => rw [e] at h; exact h
  | ok ds st1 =>
    rw [e] at h
    have hl := hn' ds st1 e
    intro φ1 vs H1 e1 rs1 rv1
    have h1 : Pst X.K X.w X.mg (SimS X.K X.w X.mg) (fun c d H' => W c d σ H') φ H (rngA ds st1) Q := h
    unfold rngA at h1
    split at h1
    · split at h1
      · rename_i hz
        obtain ⟨v, rfl, r⟩ := one_rv rv1
        cases r
        exact ⟨_, rfl, hz.1, hz.2, h1 φ1 _ H1 e1 rs1 sim_rng⟩
      · exact h1.elim
    · simp at hl
    · exact h1.elim
theorem mi_range2 {p : Pos} {x : Str} (hm : X.mg "range" = none) (ha : PA X [a, b] (tA X W ms)) (hg : Gl X "range" := by rfl) (hs : starEach [a, b] X.env = [(false, eval a X.env), (false, eval b X.env)] := by rfl) (hs2 : starEach [b] X.env = [(false, eval b X.env)] := by rfl)
    (hn : ∀ ρ st as st', ms ρ st = .ok as st' → as.length = 2) : PI X tg (.Call (.Name "range" p) [a, b] [] pos) (tI X W (mRng ms)) := PIimp (pi_range2 hg hm ha hs hs2) fun σ H Q ⟨φ, ρ, st, rs, re, h⟩ => by
  have hn' := hn ρ st
  refine ⟨φ, ρ, st, rs, re, ?_⟩
  unfold mRng at h
  cases e : ms ρ st with
  | bad => rw [e] at h; exact h.elim
  | er x st1 => rw [e] at h; exact h
  | ok ds st1 =>
    rw [e] at h
    have hl := hn' ds st1 e
    intro φ1 vs H1 e1 rs1 rv1
    have h1 : Pst X.K X.w X.mg (SimS X.K X.w X.mg) (fun c d H' => W c d σ H') φ H (rngA ds st1) Q := h
    unfold rngA at h1
    split at h1
    · simp at hl
    · split at h1
      · rename_i hz
        obtain ⟨v, v', rfl, r, r'⟩ := two_rv rv1
        cases r
        cases r'
        exact ⟨_, _, rfl, hz, h1 φ1 _ H1 e1 rs1 sim_rng⟩
      · exact h1.elim
    · exact h1.elim
theorem cons1 {mx : MX} (ρ : Env) (st : Store) (as : List A) (st' : Store) (h : mCons mx mNil ρ st = .ok as st') : as.length = 1 := by
  unfold mCons at h
  cases e : mx ρ st with
  | ok d st1 => rw [e] at h; cases h; rfl
  | er x st1 => rw [e] at h; cases h
  | bad => rw [e] at h; cases h
theorem cons2 {mx my : MX} (ρ : Env) (st : Store) (as : List A) (st' : Store) (h : mCons mx (mCons my mNil) ρ st = .ok as st') : as.length = 2 := by
  unfold mCons at h
  cases e : mx ρ st with
  | ok d st1 =>
    rw [e] at h
    cases e2 : my ρ st1 with
    | ok d2 st2 =>
      simp only [R.bind, mCons, e2, mNil] at h
      cases h
      rfl
    | er x st2 => simp only [R.bind, mCons, e2, mNil] at h; cases h
    | bad => simp only [R.bind, mCons, e2, mNil] at h; cases h
  | er x st1 => rw [e] at h; cases h
  | bad => rw [e] at h; cases h
def zipA : List A → Store → R Src
  | [.tup xs, .tup ys], st => .ok (.zipv xs ys) st
  | [.ref r, .ref q], st => match st[r]?, st[q]? with
    | some (.lst _), some (.lst _) => .ok (.zipl r q) st
    | _, _ => .bad
  | _, _ => .bad
def mZip (ms : MA) : Env → Store → R Src := fun ρ st => (ms ρ st).bind zipA
theorem mi_zip {p tpos : Pos} {elts : List Expr} {kk : Nat} (hm : X.mg "zip" = none) (ha : PA X [a, b] (tA X W ms)) (hg : Gl X "zip" := by rfl)
    (hs : starEach [a, b] X.env = (false, eval a X.env) :: starEach [b] X.env := by rfl) (hpl : (backTo pos (starEach [b] X.env)).any (·.1) = false := by rfl) : PI X (.Tuple elts kk tpos) (.Call (.Name "zip" p) [a, b] [] pos) (tIW X W (mZip ms)) := PIimp (RZ.pi_zipA hg hm ha hs hpl) fun σ H Q ⟨φ, ρ, st, rs, re, h⟩ => by
  refine ⟨φ, ρ, st, rs, re, h.seq fun φ1 ds vs H1 st1 e1 rs1 rv1 h1 => ?_⟩
  unfold zipA at h1
  split at h1
  · obtain ⟨v, v', rfl, r, r'⟩ := two_rv rv1
    cases r with
    | tup q qs =>
      cases r' with
      | tup p ps => exact ⟨_, _, _, _, rfl, .inr ⟨q.sq, p.sq, h1.ok rs1 (sim_zipv q qs p ps)⟩⟩
  · rename_i i j
    obtain ⟨v, v', rfl, r, r'⟩ := two_rv rv1
    cases r with
    | ref q =>
      cases r' with
      | ref p =>
        cases e2 : st1[i]? with
        | none => rw [e2] at h1; exact h1.elim
        | some o =>
          cases o with
          | oth u => rw [e2] at h1; exact h1.elim
          | lst ds =>
            cases e3 : st1[j]? with
            | none => rw [e2, e3] at h1; exact h1.elim
            | some o2 =>
              cases o2 with
              | oth u => rw [e2, e3] at h1; exact h1.elim
              | lst es =>
                rw [e2, e3] at h1
                obtain ⟨xs, g1, _⟩ := rs1.lst q e2
                obtain ⟨ys, g2, _⟩ := rs1.lst p e3
                exact ⟨_, _, _, _, rfl, .inl ⟨.inl (.inl g1), .inl (.inl g2), h1.ok rs1 (sim_zipl q p)⟩⟩
  · exact h1.elim
def loopF (s : Src) (tg : Tg) (body : MS) : Nat → Nat → MS
  | 0, _, _, _ => .bad
  | n + 1, i, ρ, st => match s.at i st with
    | none => .bad
    | some none => .nx ρ st
    | some (some d) => match asgT tg d ρ st with
      | none => .bad
      | some ρ1 => match body ρ1 st with
        | .nx ρ2 st2 => loopF s tg body n (i + 1) ρ2 st2
        | .ct ρ2 st2 => loopF s tg body n (i + 1) ρ2 st2
        | .bk ρ2 st2 => .nx ρ2 st2
        | r => r
def mFor (ms : Env → Store → R Src) (tg : Tg) (body : MS) : MS := fun ρ st => (ms ρ st).toS ρ fun s st1 => loopF s tg body (s.size st1 + 1) 0 ρ st1
theorem ms_for {iter : Expr} {body : List Stmt} {wk : Bool} {mi : Env → Store → R Src} {T : Tg} {mb : MS} (hp : PassesOwn (model X.prog X.w) X.A X.env X.xe) (hi : PI X tg iter (tG X.K X.w X.mg (SimB X.K X.w X.mg wk) W mi)) (hg : PG X tg (gOf X.K T)) (hb : PSs X body (tS X W mb))
    (hc : X.calm = true := by rfl) (hs : ∀ x, foldedSetIterable iter X.env x = pure x := by intro _; rfl) (hw : wk = false ∨ T.isOne = false := by first | exact Or.inl rfl | exact Or.inr rfl) : PS X (.For tg iter body [] pos) (tS X W (mFor mi T mb)) := (ps_for hp hc hi hg hb hs).imp fun D σ H ⟨φ, ρ, st, rs, re, h⟩ => by
  refine ⟨φ, ρ, st, rs, re, h.exp re fun φ1 s J H1 st1 e1 rs1 sim h1 => ?_⟩
  refine ⟨fun i m σ H => ∃ φ ρ st, Ext φ1 H1 φ H ∧ RS X.K X.w X.mg φ H st ∧ RE X.K φ H σ ρ ∧ SPst X.K X.w X.mg W φ H (loopF s T mb m i ρ st) D, ⟨_, φ1, ρ, st1, .refl, rs1, re.ext e1, h1⟩, ?_⟩
  rintro i m σ H ⟨φ, ρ, st, ex, rs, re, h⟩
  cases m with
  | zero => exact h.elim
  | succ m =>
    unfold loopF at h
    cases q : s.at i st with
    | none => rw [q] at h; exact h.elim
    | some o =>
      cases o with
      | none =>
        rw [q] at h
        exact .inl ⟨sim.stop i φ H st ex rs q, h φ σ H .refl rs re⟩
      | some d =>
        rw [q] at h
        simp only at h
        cases q2 : asgT T d ρ st with
        | none => rw [q2] at h; exact h.elim
        | some ρ1 =>
          rw [q2] at h
          simp only at h
          obtain ⟨g1, g2⟩ := sim.go i φ H st d ex rs q
          refine .inr ⟨g1, fun σ' H' => ∃ φ ρ st, Ext φ1 H1 φ H' ∧ RS X.K X.w X.mg φ H' st ∧ RE X.K φ H' σ' ρ ∧ SPst X.K X.w X.mg W φ H' (loopF s T mb m (i + 1) ρ st) D, fun σ' H' w => ⟨m, Nat.lt_succ_self m, w⟩, fun x H' y => ?_⟩
          obtain ⟨ex2, rs2, rv2⟩ := g2 x H' y
          refine gOf_runB hw rv2 (re.ext ex2) q2 fun xs re2 => ⟨φ, ρ1, st, rs2, re2, ?_⟩
          cases q3 : mb ρ1 st with
          | nx ρ2 st2 =>
            rw [q3] at h
            exact fun φ' σ' H' e4 rs' re' => ⟨φ', ρ2, st2, (ex.trans ex2).trans e4, rs', re', SPst.mono h (ex2.trans e4)⟩
          | ct ρ2 st2 =>
            rw [q3] at h
            exact fun φ' σ' H' e4 rs' re' => ⟨φ', ρ2, st2, (ex.trans ex2).trans e4, rs', re', SPst.mono h (ex2.trans e4)⟩
          | bk ρ2 st2 => rw [q3] at h; exact SPst.mono h ex2
          | rt a st2 => rw [q3] at h; exact SPst.mono h ex2
          | er x ρ2 st2 => rw [q3] at h; exact SPst.mono h ex2
          | bad => rw [q3] at h; exact h
def mYes : MT := fun _ st => .ok true st
def loopC (s : Src) (tg : Tg) (own : List Nat) (tt : MT) (elt : MX) (ρ0 : Env) : Nat → Nat → Store → List A → R (List A)
  | 0, _, _, _ => .bad
  | n + 1, i, st, acc => match s.at i st with
    | none => .bad
    | some none => .ok acc st
    | some (some d) => match asgT tg d ρ0 st with
      | none => .bad
      | some ρ1 => match tt ρ1 st with
        | .ok b st1 => if b = true then match elt ρ1 st1 with
            | .ok y st2 => if acc.length < sizeLine then loopC s tg own tt elt ρ0 n (i + 1) st2 (acc ++ [y]) else .bad
            | _ => .bad else loopC s tg own tt elt ρ0 n (i + 1) st1 acc
        | _ => .bad
def mLc (mi : Env → Store → R Src) (tg : Tg) (own : List Nat) (tt : MT) (elt : MX) : MX := fun ρ st => (mi ρ st).bind fun s st1 => (loopC s tg own tt elt (wipeA ρ own) (s.size st1 + 1) 0 st1 []).bind fun xs st2 => .ok (.ref st2.length) (st2 ++ [.lst xs])
abbrev W0 : WX := fun _ _ _ _ => False
theorem wipe_get {σ : L2.St} {j : Nat} : ∀ {vs : List Nat}, (wipe σ vs)[j]? = if j ∈ vs then σ[j]?.map (fun _ => none) else σ[j]?
  | [] => by simp [wipe]
  | v :: vs => by
    unfold wipe
    by_cases e : v = j
    · subst e
      rw [List.getElem?_set_self', wipe_get (vs := vs)]
      simp only [List.mem_cons, true_or, if_true]
      split <;> cases σ[v]? <;> rfl
    · rw [List.getElem?_set_ne e, wipe_get (vs := vs)]
      have : (j ∈ v :: vs) ↔ j ∈ vs := by simp [show ¬ j = v from fun z => e z.symm]
      simp only [this]
theorem setsV_get {j : Nat} : ∀ {is : List Nat} {xs : List V} {σ : L2.St}, j ∉ is → (setsV σ is xs)[j]? = σ[j]?
  | [], _, _, _ => by unfold setsV; rfl
  | _ :: _, [], _, _ => by unfold setsV; rfl
  | i :: is, x :: xs, σ, h => by
    unfold setsV
    rw [setsV_get fun z => h (List.mem_cons_of_mem _ z), List.getElem?_set_ne fun z => h (by rw [z]; exact List.mem_cons_self)]
theorem setsV_len : ∀ {is : List Nat} {xs : List V} {σ : L2.St}, (setsV σ is xs).length = σ.length
  | [], _, _ => by unfold setsV; rfl
  | _ :: _, [], _ => by unfold setsV; rfl
  | i :: is, x :: xs, σ => by
    unfold setsV
    rw [setsV_len, List.length_set]
theorem wipe_sets {σ : L2.St} {own is : List Nat} {xs : List V} (h : ∀ i ∈ is, i ∈ own) : wipe (setsV (wipe σ own) is xs) own = wipe σ own := by
  refine List.ext_getElem? fun j => ?_
  rw [wipe_get]
  by_cases c : j ∈ own
  · rw [if_pos c, wipe_get, if_pos c]
    by_cases l : j < σ.length
    · rw [List.getElem?_eq_getElem l, List.getElem?_eq_getElem (by rw [setsV_len, wipe_length]; exact l)]
      rfl
    · have e1 : σ[j]? = none := List.getElem?_eq_none (by omega)
      have e2 : (setsV (wipe σ own) is xs)[j]? = none := List.getElem?_eq_none (by rw [setsV_len, wipe_length]; omega)
      rw [e1, e2]
  · rw [if_neg c, setsV_get fun z => c (h j z)]
theorem lc_ok {wk : Bool} {mi : Env → Store → R Src} {T : Tg} {own : List Nat} {tt : MT} {me : MX} {σ : L2.St} {H : Hp} {Q : VK} (hw : wk = false ∨ T.isOne = false) (ho : ∀ i ∈ T.slots, i ∈ own) (h : tE X W (mLc mi T own tt me) σ H Q) : tLc (tG X.K X.w X.mg (SimB X.K X.w X.mg wk) W mi) (gOf X.K T) (tT X W0 tt) (tE X W0 me) own σ H Q := by
  obtain ⟨φ, ρ, st, rs, re, h⟩ := h
  refine ⟨φ, ρ, st, rs, re, h.seq fun φ1 s J H1 st1 e1 rs1 sim h1 => fun D hD => ?_⟩
  have re1 := (re.ext e1).wipe own
  have nD1 : D ∉ φ1 := rs1.notin hD
  have fin : ∀ {φ2 : List Addr} {H2 : Hp} {st2 : Store} {vs : List V} {as : List A}, Ext φ1 H1 φ2 H2 → D ∉ φ2 → H2 D = some (.lst vs) → RS X.K X.w X.mg φ2 H2 st2 → RVs X.K φ2 H2 vs as →
      Ext φ1 H1 (φ2 ++ [D]) H2 ∧ RS X.K X.w X.mg (φ2 ++ [D]) H2 (st2 ++ [.lst as]) := fun {φ2 H2 st2 vs as} ex nD hv rs2 rv => by
    have e0 : Ext φ1 H1 (φ2 ++ [D]) H2 := by
      obtain ⟨⟨t, rfl⟩, f, fz⟩ := ex
      refine ⟨⟨t ++ [D], by simp⟩, fun a o n q => ?_, fz⟩
      obtain ⟨q1, q2⟩ := f a o n q
      refine ⟨q1, fun z => ?_⟩
      rcases List.mem_append.mp z with z | z
      · exact q2 z
      · have : a = D := by simpa using z
        subst this
        rw [hD] at q
        cases q
    -- data over the longer φ
    have up : ∀ {v : V} {d : A}, RV X.K φ2 H2 v d → RV X.K (φ2 ++ [D]) H2 v d := fun {v d} r => by
      have hst : ∀ {a xs}, StT X.K φ2 H2 a xs → StT X.K (φ2 ++ [D]) H2 a xs := fun {a xs} q => by
        rcases q with ⟨q, n⟩ | q
        · refine .inl ⟨q, fun z => ?_⟩
          rcases List.mem_append.mp z with z | z
          · exact n z
          · have : a = D := by simpa using z
            subst this
            obtain ⟨o, _, q⟩ := q
            rw [hv] at q
            cases q
        · exact .inr q
      have hsl : ∀ {a xs}, StL X.K φ2 H2 a xs → StL X.K (φ2 ++ [D]) H2 a xs := fun {a xs} q => by
        rcases q with ⟨⟨o, q⟩, n⟩ | q
        · refine .inl ⟨⟨o, q⟩, fun z => ?_⟩
          rcases List.mem_append.mp z with z | z
          · exact n z
          · have : a = D := by simpa using z
            subst this
            rw [hv] at q
            cases q
        · exact .inr q
      exact RV.rec (motive_1 := fun v d _ => RV X.K (φ2 ++ [D]) H2 v d) (motive_2 := fun vs ds _ => RVs X.K (φ2 ++ [D]) H2 vs ds) .non .bl .int .str (fun q _ ih => .tup (hst q) ih) (fun q _ ih => .scr (hsl q) ih)
        (fun {a i} q => .ref (by rw [List.getElem?_append_left (List.getElem?_eq_some_iff.mp q).1]; exact q)) .nil (fun _ _ a b => .cons a b) r
    have ups : ∀ {vs : List V} {ds : List A}, RVs X.K φ2 H2 vs ds → RVs X.K (φ2 ++ [D]) H2 vs ds := fun {vs ds} r => by
      induction vs generalizing ds with
      | nil => cases r; exact .nil
      | cons v vs ih =>
        cases r with
        | cons h q => exact .cons (up h) (ih q)
    refine ⟨e0, by simp [rs2.len], ?_, fun i a o h1 h2 => ?_⟩
    · rw [List.nodup_append]
      refine ⟨rs2.nd, by simp, fun a ha b hb z => ?_⟩
      have : b = D := by simpa using hb
      subst this
      subst z
      exact nD ha
    · by_cases hi : i < φ2.length
      · rw [List.getElem?_append_left hi] at h1
        rw [List.getElem?_append_left (by rw [← rs2.len]; exact hi)] at h2
        have h3 := rs2.all i a o h1 h2
        cases o with
        | oth u => exact RO2.map (fun _ _ => up) (fun _ _ => ups) rfl (fun dx o n q nl => ⟨q, fun z => (List.mem_append.mp z).elim n fun z => by
            have z : dx = D := by simpa using z
            rw [z, hv] at q
            exact nl _ (Option.some.inj q).symm⟩) h3
        | lst ds' =>
          obtain ⟨ys, y1, y2⟩ := h3
          exact ⟨ys, y1, ups y2⟩
      · have hi2 : i = φ2.length := by
          have := (List.getElem?_eq_some_iff.mp h1).1
          rw [List.length_append, List.length_singleton] at this
          omega
        subst hi2
        rw [List.getElem?_append_right (Nat.le_refl _)] at h1
        rw [List.getElem?_append_right (by rw [rs2.len]; exact Nat.le_refl _)] at h2
        simp at h1
        rw [rs2.len] at h2
        simp at h2
        subst h1
        subst h2
        exact ⟨vs, hv, ups rv⟩
  refine ⟨fun i m H2 => ∃ φ2 st2 vs as, Ext φ1 H1 φ2 H2 ∧ D ∉ φ2 ∧ H2 D = some (.lst vs) ∧ RS X.K X.w X.mg φ2 H2 st2 ∧ RVs X.K φ2 H2 vs as ∧
    Pst X.K X.w X.mg (RV X.K) (fun c d H' => W c d σ H') φ1 H1 ((loopC s T own tt me (wipeA ρ own) m i st2 as).bind fun xs st2 => .ok (.ref st2.length) (st2 ++ [.lst xs])) Q,
    ⟨_, φ1, st1, [], [], ext_new hD, nD1, upd_same, rs1.new hD, .nil, h1⟩, ?_⟩
  rintro i m H2 ⟨φ2, st2, vs, as, ex, nD, hv, rs2, rv2, h2⟩
  cases m with
  | zero => exact h2.elim
  | succ m =>
    unfold loopC at h2
    cases q : s.at i st2 with
    | none => simp only [q] at h2; exact h2.elim
    | some o =>
      cases o with
      | none =>
        simp only [q] at h2
        obtain ⟨e0, rs3⟩ := fin ex nD hv rs2 rv2
        exact .inl ⟨sim.stop i φ2 H2 st2 ex rs2 q, h2 _ _ _ e0 rs3 (.newLst rs2)⟩
      | some d =>
        simp only [q] at h2
        cases q2 : asgT T d (wipeA ρ own) st2 with
        | none => simp only [q2] at h2; exact h2.elim
        | some ρ1 =>
          simp only [q2] at h2
          obtain ⟨g1, g2⟩ := sim.go i φ2 H2 st2 d ex rs2 q
          refine .inr ⟨g1, fun H' => ∃ φ2 st2 vs as, Ext φ1 H1 φ2 H' ∧ D ∉ φ2 ∧ H' D = some (.lst vs) ∧ RS X.K X.w X.mg φ2 H' st2 ∧ RVs X.K φ2 H' vs as ∧
            Pst X.K X.w X.mg (RV X.K) (fun c d H' => W c d σ H') φ1 H1 ((loopC s T own tt me (wipeA ρ own) m (i + 1) st2 as).bind fun xs st2 => .ok (.ref st2.length) (st2 ++ [.lst xs])) Q, fun H' w => ⟨m, Nat.lt_succ_self m, w⟩, fun x H' y => ?_⟩
          obtain ⟨ex2, rs3, rv3⟩ := g2 x H' y
          obtain ⟨hv', nD'⟩ := ex2.fr D _ nD hv
          refine gOf_runB hw rv3 ((re1.ext ex).ext ex2) q2 fun xs re2 => ⟨wipe_sets ho, φ2, ρ1, st2, rs3, re2, ?_⟩
          cases q3 : tt ρ1 st2 with
          | bad => simp only [q3] at h2; exact h2.elim
          | er z st3 => simp only [q3] at h2; exact h2.elim
          | ok b st3 =>
            simp only [q3] at h2
            intro φ3 b' H3 ex3 rs4 eb
            subst eb
            obtain ⟨hv3, nD3⟩ := ex3.fr D _ nD' hv'
            have exs := (ex.trans ex2).trans ex3
            cases b' with
            | false =>
              simp only [Bool.false_eq_true, if_false] at h2
              exact iteF ⟨φ3, st3, vs, as, exs, nD3, hv3, rs4, (rv2.ext ex2).ext ex3, h2⟩
            | true =>
              simp only [if_true] at h2
              refine iteT ⟨φ3, ρ1, st3, rs4, re2.ext ex3, ?_⟩
              cases q4 : me ρ1 st3 with
              | bad => simp only [q4] at h2; exact h2.elim
              | er z st4 => simp only [q4] at h2; exact h2.elim
              | ok d4 st4 =>
                simp only [q4] at h2
                intro φ4 v4 H4 ex4 rs5 rv4
                obtain ⟨hv4, nD4⟩ := ex4.fr D _ nD3 hv3
                by_cases hz : as.length < sizeLine
                · rw [if_pos hz] at h2
                  have e5 : Ext φ4 H4 φ4 (upd H4 D (.lst (vs ++ [v4]))) → True := fun _ => trivial
                  have e6 : Ext φ1 H1 φ4 (upd H4 D (.lst (vs ++ [v4]))) := ⟨(exs.trans ex4).pre, fun a o n q => by
                    obtain ⟨y1, y2⟩ := (exs.trans ex4).fr a o n q
                    exact ⟨by rw [upd_ne (ne_of_none q hD)]; exact y1, y2⟩, fun a o u q => by rw [upd_ne (ne_of_none q hD)]; exact (exs.trans ex4).fz _ _ _ q⟩
                  -- data of H4 over the heap where D has grown
                  have hst : ∀ {a ys}, StT X.K φ4 H4 a ys → StT X.K φ4 (upd H4 D (.lst (vs ++ [v4]))) a ys := fun {a ys} q => by
                    rcases q with ⟨q, n⟩ | q
                    · obtain ⟨o, hd, q⟩ := q
                      have na : a ≠ D := fun z => by
                        subst z
                        rw [hv4] at q
                        cases q
                      exact .inl ⟨⟨o, hd, by rw [upd_ne na]; exact q⟩, n⟩
                    · exact .inr q
                  have hsl : ∀ {a ys}, StL X.K φ4 H4 a ys → StL X.K φ4 (upd H4 D (.lst (vs ++ [v4]))) a ys := fun {a ys} q => by
                    rcases q with ⟨⟨o, q⟩, n⟩ | q
                    · have na : a ≠ D := fun z => by
                        subst z
                        rw [hv4] at q
                        cases q
                      exact .inl ⟨⟨o, by rw [upd_ne na]; exact q⟩, n⟩
                    · exact .inr q
                  have up : ∀ {v : V} {d : A}, RV X.K φ4 H4 v d → RV X.K φ4 (upd H4 D (.lst (vs ++ [v4]))) v d := fun {v d} r =>
                    RV.rec (motive_1 := fun v d _ => RV X.K φ4 (upd H4 D (.lst (vs ++ [v4]))) v d) (motive_2 := fun vs' ds _ => RVs X.K φ4 (upd H4 D (.lst (vs ++ [v4]))) vs' ds) .non .bl .int .str (fun q _ ih => .tup (hst q) ih) (fun q _ ih => .scr (hsl q) ih)
                      (fun q => .ref q) .nil (fun _ _ a b => .cons a b) r
                  have ups : ∀ {ws : List V} {ds : List A}, RVs X.K φ4 H4 ws ds → RVs X.K φ4 (upd H4 D (.lst (vs ++ [v4]))) ws ds := fun {ws ds} r => by
                    induction ws generalizing ds with
                    | nil => cases r; exact .nil
                    | cons v ws ih =>
                      cases r with
                      | cons h q => exact .cons (up h) (ih q)
                  have rs6 : RS X.K X.w X.mg φ4 (upd H4 D (.lst (vs ++ [v4]))) st4 := ⟨rs5.len, rs5.nd, fun j a o k1 k2 => by
                    have k3 := rs5.all j a o k1 k2
                    have na : a ≠ D := fun z => nD4 (z ▸ List.mem_of_getElem? k1)
                    cases o with
                    | oth u => exact RO2.map (fun _ _ => up) (fun _ _ => ups) (upd_ne na) (fun dx o n q nl => ⟨by
                        rw [upd_ne (fun z => by rw [z, hv4] at q; exact nl _ (Option.some.inj q).symm)]
                        exact q, n⟩) k3
                    | lst ds' =>
                      obtain ⟨ys, y1, y2⟩ := k3
                      exact ⟨ys, by rw [upd_ne na]; exact y1, ups y2⟩⟩
                  exact ⟨vs, hv4, by rw [rv2.length]; exact hz, φ4, st4, _, as ++ [d4], e6, nD4, upd_same, rs6, ups ((((rv2.ext ex2).ext ex3).ext ex4).app (.cons rv4 .nil)), h2⟩
                · rw [if_neg hz] at h2
                  exact h2.elim
theorem mts_nil {X : Cx} : PTs X [] (tT X W0 mYes) := ⟨fun pins s σ H Q I ⟨φ, ρ, st, rs, re, h⟩ => pts_nil.run pins s σ H Q I (h.ok rs rfl)⟩
theorem mts_one {X : Cx} {c : Expr} {t : MT} (h : PT X c (tT X W0 t)) : PTs X [c] (tT X W0 t) := pts_one h
theorem me_lc {elt iter : Expr} {ifs : List Expr} {scope : Scope} (own : List (Str × Nat)) {wk : Bool} {mi : Env → Store → R Src} {T : Tg} {tt : MT} {me : MX} (hN : X.N.Nodup) (hi : PI X tg iter (tG X.K X.w X.mg (SimB X.K X.w X.mg wk) W mi)) (ok : BlkOk X.N X.env.scope scope own)
    (hg : ∀ (s : Shared) (H : Hp) (C : Addr) (cl : List (Str × Addr)) (fp : List Addr), PG (X.blk s H scope (compEnvC scope cl C X.env) fp) tg (gOf X.K T)) (ht : ∀ (s : Shared) (H : Hp) (C : Addr) (cl : List (Str × Addr)) (fp : List Addr), PTs (X.blk s H scope (compEnvC scope cl C X.env) fp) ifs (tT (X.blk s H scope (compEnvC scope cl C X.env) fp) W0 tt))
    (he : ∀ (s : Shared) (H : Hp) (C : Addr) (cl : List (Str × Addr)) (fp : List Addr), PE (X.blk s H scope (compEnvC scope cl C X.env) fp) elt (tE (X.blk s H scope (compEnvC scope cl C X.env) fp) W0 me)) (hc : X.calm = true := by rfl) (hs : ∀ x, foldedSetIterable iter X.env x = pure x := by intro _; rfl)
    (ho : ∀ i ∈ T.slots, i ∈ own.map (·.2) := by decide) (hw : wk = false ∨ T.isOne = false := by first | exact Or.inl rfl | exact Or.inr rfl) : PE X (.ListComp elt [⟨tg, iter, ifs, 0⟩] scope pos) (tE X W (mLc mi T (own.map (·.2)) tt me)) :=
  (pe_lc hc hN hi ok hg ht he hs).imp fun _ _ _ h => lc_ok hw ho h
theorem ms_setLc {i : Nat} {y : Str} {py : Pos} {spos : Pos} {elt iter : Expr} {ifs : List Expr} {scope : Scope} (own : List (Str × Nat)) {wk : Bool} {mi : Env → Store → R Src} {T : Tg} {tt : MT} {me : MX} (hN : X.N.Nodup) (hsw : swapsWith (.ListComp elt [⟨tg, iter, ifs, 0⟩] scope pos) (some (.Name y py)) spos.line X.env = pure true) (hi : PI X tg iter (tG X.K X.w X.mg (SimB X.K X.w X.mg wk) W mi)) (ok : BlkOk X.N X.env.scope scope own)
    (hg : ∀ (s : Shared) (H : Hp) (C : Addr) (cl : List (Str × Addr)) (fp : List Addr), PG (X.blk s H scope (compEnvC scope cl C X.env) fp) tg (gOf X.K T)) (ht : ∀ (s : Shared) (H : Hp) (C : Addr) (cl : List (Str × Addr)) (fp : List Addr), PTs (X.blk s H scope (compEnvC scope cl C X.env) fp) ifs (tT (X.blk s H scope (compEnvC scope cl C X.env) fp) W0 tt))
    (he : ∀ (s : Shared) (H : Hp) (C : Addr) (cl : List (Str × Addr)) (fp : List Addr), PE (X.blk s H scope (compEnvC scope cl C X.env) fp) elt (tE (X.blk s H scope (compEnvC scope cl C X.env) fp) W0 me)) (hy : X.N[i]? = some y := by rfl) (hyl : X.env.scope.names.lookup y = some .local := by rfl) (hc : X.calm = true := by rfl) (hs : ∀ x, foldedSetIterable iter X.env x = pure x := by intro _; rfl)
    (ho : ∀ i ∈ T.slots, i ∈ own.map (·.2) := by decide) (hw : wk = false ∨ T.isOne = false := by first | exact Or.inl rfl | exact Or.inr rfl) : PS X (.Assign [.Name y py] (.ListComp elt [⟨tg, iter, ifs, 0⟩] scope pos) spos) (tS X W (mSet i (mLc mi T (own.map (·.2)) tt me))) := by
  refine (ps_setLc (te := tE X W0 me) (tt := tT X W0 tt) hc hN hy hyl hsw hi ok hg ht he hs).imp fun D σ H h => ?_
  have h2 := set_ok h
  exact lc_ok hw ho h2
end
def mFn (N np : Nat) (body : MS) : MF := fun as st => if as.length = np then match body (as.map some ++ List.replicate (N - np) none) st with
  | .nx _ st' => .ok .non st'
  | .rt a st' => .ok a st'
  | .er e _ st' => .er e st'
  | _ => .bad else .bad
section
variable {P : Program} {w : World} {K : PySem.W.Frag} {mg : Str → Option Value} {base : Heap}
theorem RE.start {φ : List Addr} {H : Hp} {vs : List V} {as : List A} (q : RVs K φ H vs as) (n : Nat) : RE K φ H (vs.map some ++ List.replicate n none) (as.map some ++ List.replicate n none) := ⟨by simp [q.length], fun i d h => by
  by_cases hi : i < as.length
  · rw [List.getElem?_append_left (by simpa using hi), List.getElem?_map] at h
    cases e : as[i]? with
    | none => rw [e] at h; cases h
    | some d' =>
      rw [e] at h
      cases h
      obtain ⟨v, h1, h2⟩ := q.get e
      exact ⟨v, by rw [List.getElem?_append_left (by simp [q.length, hi]), List.getElem?_map, h1]; rfl, h2⟩
  · rw [List.getElem?_append_right (by simpa using Nat.le_of_not_lt hi), List.getElem?_replicate] at h
    split at h <;> cases h⟩
theorem fn_ok {x qual : Str} {st : Stmt} {f : Addr} {fd : FuncData} {N ps : List Str} {k : Nat} {body : MS} (F : Fun K x qual st f fd) (S : FnScope N ps (defScope st))
    (hb : ∀ (cdv : Value) (A : Around) (outer : List PySem.Env) (s : Shared) (H : Hp) (E : XK), Room k (A.deeper (PyProof.Rows.envOfC qual (defScope st) s.heap.objs.size f cdv)) →
      PSs (cxOf (L2.CX P w) P w K mg base N qual (defScope st) f cdv A outer s H E) (defBody st) (tS (cxOf (L2.CX P w) P w K mg base N qual (defScope st) f cdv A outer s H E) (fun c d _ H' => E c d H') body)) :
    FnOk P w K mg base (L2.CX P w) (k + 1) f fd ps (spM K w mg (mFn N.length ps.length body)) := by
  have len : ∀ vs H Q E, spM K w mg (mFn N.length ps.length body) vs H Q E → vs.length = ps.length := fun vs H Q E ⟨φ, as, st, rs, rv, h⟩ => by
    unfold mFn at h
    split at h
    · rename_i hl
      rw [rv.length]
      exact hl
    · exact h.elim
  refine F.okX S len fun cdv A outer s H vs Q E hr h => ⟨_, hb cdv A outer s H E hr, ?_⟩
  obtain ⟨φ, as, st, rs, rv, h⟩ := h
  unfold mFn at h
  split at h
  · rename_i hl
    have hl2 : vs.length = ps.length := by rw [rv.length]; exact hl
    refine ⟨φ, as.map some ++ List.replicate (N.length - ps.length) none, st, rs, ?_, ?_⟩
    · unfold L2.start
      rw [hl2]
      exact RE.start rv _
    · cases e : body (as.map some ++ List.replicate (N.length - ps.length) none) st with
      | nx ρ st' => rw [e] at h; exact fun φ' σ' H' ex rs' re' => h φ' .non H' ex rs' .non
      | rt a st' => rw [e] at h; exact fun φ' v H' ex rs' rv' => h φ' v H' ex rs' rv'
      | er x ρ st' => rw [e] at h; exact fun φ' c d σ' H' ex rs' re' rx => h φ' c d H' ex rs' rx
      | bk ρ st' => rw [e] at h; exact h.elim
      | ct ρ st' => rw [e] at h; exact h.elim
      | bad => rw [e] at h; exact h.elim
  · exact h.elim
structure GF (K : PySem.W.Frag) (mg : Str → Option Value) (x : Str) (st : Stmt) (ps : List Str) : Prop where
  ex : ∃ (f : Addr) (fd : FuncData), mg x = some (.ref f) ∧ Fun K x x st f fd ∧ Binds K fd ps []
theorem cal_of {x : Str} {st : Stmt} {N ps : List Str} {k : Nat} {body : MS} (G : GF K mg x st ps) (S : FnScope N ps (defScope st))
    (hb : ∀ (f : Addr) (cdv : Value) (A : Around) (outer : List PySem.Env) (s : Shared) (H : Hp) (E : XK), Room k (A.deeper (PyProof.Rows.envOfC x (defScope st) s.heap.objs.size f cdv)) →
      PSs (cxOf (L2.CX P w) P w K mg base N x (defScope st) f cdv A outer s H E) (defBody st) (tS (cxOf (L2.CX P w) P w K mg base N x (defScope st) f cdv A outer s H E) (fun c d _ H' => E c d H') body)) :
    Cal P w K mg base x (k + 1) (mFn N.length ps.length body) := by
  obtain ⟨f, fd, h1, F, b⟩ := G.ex
  exact ⟨f, fd, ps, h1, F.kp, b, fn_ok F S (hb f)⟩
theorem Cal.mono {x : Str} {k j : Nat} {m : MF} (C : Cal P w K mg base x j m) (h : j ≤ k) : Cal P w K mg base x k m := by
  obtain ⟨f, fd, ps, h1, h2, h3, F⟩ := C.ex
  exact ⟨f, fd, ps, h1, h2, h3, F.mono h⟩
theorem takesE {N : List Str} {qual : Str} {sc : Scope} {f : Addr} {cdv : Value} {A : Around} {outer : List PySem.Env} {s : Shared} {H : Hp} {E : XK} : Takes (cxOf (L2.CX P w) P w K mg base N qual sc f cdv A outer s H E) (fun c d _ H' => E c d H') := takes_of rfl rfl rfl rfl
theorem passesE {N : List Str} {qual : Str} {sc : Scope} {f : Addr} {cdv : Value} {A : Around} {outer : List PySem.Env} {s : Shared} {H : Hp} {E : XK} : PassesOwn (model P w) (A.deeper (PyProof.Rows.envOfC qual sc s.heap.objs.size f cdv)) (PyProof.Rows.envOfC qual sc s.heap.objs.size f cdv) (cxOf (L2.CX P w) P w K mg base N qual sc f cdv A outer s H E).xe := passes_of (X := cxOf (L2.CX P w) P w K mg base N qual sc f cdv A outer s H E) rfl
end
end ML
namespace ML
open PySem PySem.Spec L2
theorem units_ok {k : Nat} {A : Around} (hr : Room k A) : A.units + 64 < cLine := hr.units
section
variable {P : Program} {w : World} {K : PySem.W.Frag} {mg : Str → Option Value} {base : Heap}
theorem cal_bad {x : Str} {st : Stmt} {ps : List Str} {k : Nat} (G : GF K mg x st ps) : Cal P w K mg base x k (fun _ _ => .bad) := by
  obtain ⟨f, fd, h1, F, b⟩ := G.ex
  exact ⟨f, fd, ps, h1, F.kp, b, fun vs H Q E ⟨_, _, _, _, _, h⟩ => h.elim, fun A outer s H args us vs Q E hr e0 hb hv ⟨_, _, _, _, _, h⟩ => h.elim⟩
theorem Cal.cast {x : Str} {j k : Nat} {m : MF} (e : j = k) (C : Cal P w K mg base x j m) : Cal P w K mg base x k m := e ▸ C
def spLaw (K : PySem.W.Frag) : Sp := fun vs H Q _ => ∃ (a : Addr) (ns : List Int), vs = [.ref a] ∧ SqL K H a (ns.map V.int) ∧ Only H ∧ ns.length ≤ 63 ∧ (∀ z ∈ ns, Builtin.Int.intBits z ≤ 1048576) ∧ ∀ H', Q (.bl true) H'
def LawTrue (m : MF) : Prop := ∀ ns : List Int, ns.length ≤ 63 → (∀ z ∈ ns, Builtin.Int.intBits z ≤ 1048576) → ∃ st, m [.scr (ns.map A.int)] [] = .ok (.bl true) st
theorem law_imp {m : MF} (hm : LawTrue m) (vs : List V) (H : Hp) (Q : VK) (E : XK) (h : spLaw K vs H Q E) : spM K w mg m vs H Q E := by
  obtain ⟨a, ns, rfl, hs, ho, hl, hb, hq⟩ := h
  obtain ⟨st, he⟩ := hm ns hl hb
  have hq' : StL K [] H a (ns.map V.int) := by
    rcases hs with (h | ⟨o, h⟩) | h
    · rcases ho a with z | ⟨o, xs, z⟩
      · rw [z] at h; cases h
      · rw [z] at h; cases h
    · exact .inl ⟨⟨o, h⟩, by simp⟩
    · exact .inr h
  refine ⟨[], [.scr (ns.map A.int)], [], ⟨rfl, List.nodup_nil, fun i a o h => by simp at h⟩, .cons (.scr hq' (RVs.mkInts ns)) .nil, ?_⟩
  rw [he]
  intro φ' v H' _ _ r
  cases r
  exact hq H'
theorem law_end {l : PySem.W.OpenLaw} {k : Nat} {q : Program} {loose : List Str} {XP : (Str → Option Value) → Heap → Prop} {YP : World → Heap → Prop} {d : DefRec} {K : Params → PySem.W.Frag} {x : Str} {m : MF}
    (hn : l.most = some 63) (hdf : d.params.defaults = []) (hr : Room k callerA)
    (hY : ∀ (w : World) (h : Heap), YP w h → (K w.params).In h) (hm : LawTrue m)
    (F : ∀ (w : World) (mg : Str → Option Value) (fa : Addr) (h : Heap), (K w.params).In h → h.Ns mainGlobals mg → mg d.name = some (.ref fa) →
      ∃ fd : FuncData, (∀ (s : Shared) (u : Value), BindsTo s fd ⟨[u], []⟩ [(x, u)]) ∧ ∀ base : Heap, (K w.params).In base → base.Ns mainGlobals mg → FnOk l.prog w (K w.params) mg base (L2.CX l.prog w) k fa fd [x] (spM (K w.params) w mg m)) :
    PySem.W.WalkO q loose XP YP l.row.toRowW d [] (fun f vs => PySem.call f vs) :=
  L2.walk_ofB (n := 63) (k := k) (x := x) (CX := fun w => L2.CX l.prog w) (sp := fun w => spLaw (K w.params)) hn (by decide) hdf hr hY
    (fun w mg fa h KX G hmg => by
      obtain ⟨fd, hb, hF⟩ := F w mg fa h KX G hmg
      exact ⟨fd, hb, fun base k1 k2 => (hF base k1 k2).imp (law_imp hm)⟩)
    (fun w H a ns hl hb ho hs => ⟨a, ns, rfl, hs, ho, hl, hb, fun _ => rfl⟩)
    (fun w H s e s' h => by obtain ⟨_, _, _, _, _, _, _, _, _, _, _, _, z⟩ := h; exact z)
end
end ML
namespace ML
open PySem PySem.Spec L2 PyProof.Rows GenW
def errH (env : PySem.Env) : Value → Sem PySem.Fin := fun e => (do noteFrame e env; theTreesLotGoes e : Sem Unit).wrap (fun _ => .raise e) .raise id id
section
variable {prog : Program} {w : World} {A : Around} {R : GenEnd} {Y : Protocol} {n : Nat} {s₀ : Shared} {fs : List Frame} {s : Shared} {env : PySem.Env}
theorem errH_eq : (fun e => ((do noteFrame e env; theTreesLotGoes e : Sem Unit)).bind fun _ => (.raise e : Sem PySem.Fin)) = errH env := by
  funext e
  unfold errH
  exact Sem.bind_eq_wrap _ _
theorem seg_forLoop {target : Expr} {it : Value} {body : List Stmt}
    (h : wpAny (model prog w) (A.over (.forLoop target it body [] env) fs) (pyNext it) (fun r s1 => match r with
        | none => Seg (model prog w) A R Y n s₀ (.block [] env) (.pure (.done .next)) fs s1
        | some v => wpAny (model prog w) (A.over (.forLoop target it body [] env) fs) (letOwnedTupleGo target it v) (fun _ s2 =>
            wpAny (model prog w) (A.over (.forLoop target it body [] env) fs) (assign target env v) (fun _ s3 =>
              Seg (model prog w) A R Y n s₀ (.forLoop target it body [] env) ((execs body env).wrap (fun f => match f with
                | .next | .cont => .pure (.again (.forLoop target it body [] env))
                | .brk => .pure (.done .next)
                | .ret v => .pure (.done (.ret v))) (errH env) id id) fs s3)
              (fun x s' => Seg (model prog w) A R Y n s₀ (.forLoop target it body [] env) (errH env x) fs s') s2)
            (fun x s' => Seg (model prog w) A R Y n s₀ (.forLoop target it body [] env) (errH env x) fs s') s1)
      (fun x s' => Seg (model prog w) A R Y n s₀ (.forLoop target it body [] env) (errH env x) fs s') s) :
    Seg (model prog w) A R Y n s₀ (.forLoop target it body [] env) ((model prog w).den (.forLoop target it body [] env)) fs s := by
  show Seg _ A R Y n s₀ _ ((forTurn target it body [] env).onRaise (fun x => do noteFrame x env; theTreesLotGoes x)) fs s
  rw [Sem.onRaise_eq_wrap, errH_eq]
  unfold forTurn
  refine seg_bind_wrap (wpAny_standAt ?_)
  refine seg_bind_wrap (wpAny_onRaise (wpAny_mono h (fun r s1 h1 => ?_) fun x s1 hx => wpAny_standAt hx))
  cases r with
  | none => exact seg_again rfl h1
  | some v =>
    refine seg_bind_wrap (wpAny_mono h1 (fun _ s2 h2 => ?_) fun _ _ hx => hx)
    refine seg_bind_wrap (wpAny_mono h2 (fun _ s3 h3 => ?_) fun _ _ hx => hx)
    rw [Sem.bind_eq_wrap', Sem.wrap_wrap]
    refine Eq.mp ?_ h3
    refine congrArg (fun t => Seg (model prog w) A R Y n s₀ (.forLoop target it body [] env) t fs s3) ?_
    exact Sem.wrap_congr _ _ _ (fun f => by cases f <;> rfl) (fun _ => rfl)
end
def tGFor (wi : TI) (g : TG) (tb : TGn) : TGn := fun D ys σ H => wi σ H fun J H1 => ∃ W : Nat → Nat → List V → L2.St → Hp → Prop, (∃ m, W 0 m ys σ H1) ∧ ∀ i m ys σ H, W i m ys σ H →
  (J.stop i H ∧ D.nx ys σ H) ∨ (J.go i H ∧ ∃ N : List V → L2.St → Hp → Prop, (∀ ys' σ' H', N ys' σ' H' → ∃ m', m' < m ∧ W (i + 1) m' ys' σ' H') ∧ ∀ x H', J.yld i H x H' → g x σ H' fun σ2 H2 => tb { D with nx := N, ct := N, bk := D.nx } ys σ2 H2)
theorem gs_for {X : Cx} {tg iter : Expr} {body : List Stmt} {wi : TI} {g : TG} {tb : TGn} {pos : Pos} (hp : PassesOwn (model X.prog X.w) X.A X.env X.xe) (hc : X.calm = true) (hi : PI X tg iter wi) (hg : PG X tg g) (hb : GSs X body tb)
    (hs : ∀ x, foldedSetIterable iter X.env x = pure x := by intro _; rfl) : GS X (.For tg iter body [] pos) (tGFor wi g tb) := by
  refine ⟨fun A S ip R n ys s₀ c fs K J gd lv s σ H D gc hn k hI ht => ?_⟩
  obtain ⟨acc, cc, r, I⟩ := hI
  rw [exec_For]
  refine seg_bind_wrap (wpAny_standAt ?_)
  refine seg_bind_wrap ?_
  rw [gc.over]
  refine wpAny_mono (hi.run _ s σ H _ I ht) (fun v s1 h1 => ?_) fun x s' hx => k.exc n s₀ x s' hx
  refine seg_bind_wrap (wpAny_of_eq (hs v) ?_)
  refine seg_bind_wrap (wpAny_standAt ?_)
  refine seg_bind_wrap (wpAny_holding ?_)
  rw [gc.over]
  refine wpAny_mono h1 (fun itv s2 h2 => ?_) fun x s' hx => k.exc n s₀ x s' hx
  obtain ⟨it, fp, tn, Jt, H2, e, I2, T, st2, f2, W, ⟨m0, w0⟩, turn⟩ := h2
  subst e
  refine seg_call fun p => ?_
  have gl := fun (kk : Result → Sem PySem.Fin) => gc_loop (k := kk) (c' := .forLoop tg (.ref it) body [] X.env) (l := lv []) (kp := []) (p := p) gc rfl rfl
  have fS : ∀ b ∈ fp, b ≠ X.env.locals ∧ b ∉ X.fs ∧ (b ∈ X.ex ∨ X.s_0.heap.objs.size ≤ b) ∧ (∀ x c, X.env.cells.lookup x = some c → c ≠ b) ∧ (∀ p ∈ X.pn, p.1 ≠ b) ∧ (∀ p ∈ ip, p.1 ≠ b) ∧ S ≠ b := fun b hb => by
    obtain ⟨_, q1, q2, q3, q4, q5⟩ := f2 b hb
    exact ⟨q1, q2, q3, q4, fun p hp => q5 p (List.mem_append_left _ hp), fun p hp => q5 p (List.mem_append_right _ (List.mem_cons_of_mem _ hp)), q5 (S, lstObj acc cc) (List.mem_append_right _ List.mem_cons_self)⟩
  have fpo : ∀ {H' : Hp} {acc : Array Value} {cc : Nat}, (∀ b ∈ fp, H' b = none) → ∀ b ∈ fp, FpOk X ((S, lstObj acc cc) :: ip) H' b := fun {H' acc cc} hn b hb => by
    obtain ⟨q1, q2, q3, q4, q5, q6, q7⟩ := fS b hb
    refine ⟨hn b hb, q1, q2, q3, q4, fun p hp => ?_⟩
    rcases List.mem_append.mp hp with z | z
    · exact q5 p z
    rcases List.mem_cons.mp z with z | z
    · rw [z]; exact q7
    · exact q6 p z
  have loop : ∀ (m i n : Nat) (ys : List V) (s₀ s : Shared) (σ : L2.St) (H : Hp), n + ys.length = sizeLine → W i m ys σ H → GI X S ip ys σ H s → tn i s.heap → (∀ b ∈ fp, H b = none) →
      Seg (model X.prog X.w) A R (GY X S) n s₀ (.forLoop tg (.ref it) body [] X.env) ((model X.prog X.w).den (.forLoop tg (.ref it) body [] X.env))
        (.ret (fun r => ((match r with | .ok f => (.pure f : Sem Flow) | .error e => .raise e).onRaise (cameBack X.env)).wrap K J gd lv) none (gd false) (lv []) c p [] :: fs) s := by
    intro m
    induction m using Nat.strongRecOn with
    | ind m ih =>
      intro i n ys s₀ s σ H hn w hI hst hfr
      have ee : ∀ (n : Nat) (s₀ : Shared) (x : Value) (s' : Shared), X.xe x s' → Seg (model X.prog X.w) A R (GY X S) n s₀ (.forLoop tg (.ref it) body [] X.env) (errH X.env x)
          (.ret (fun r => ((match r with | .ok f => (.pure f : Sem Flow) | .error e => .raise e).onRaise (cameBack X.env)).wrap K J gd lv) none (gd false) (lv []) c p [] :: fs) s' := fun n s₀ x s' hx => by
        unfold errH
        refine seg_wrap ?_
        rw [(gl _).over]
        refine wpAny_bind (wpAny_mono (hp x s' hx) (fun _ s'' hcb => wpAny_theTreesLotGoes ?_) fun y s'' hcb => ?_)
        · exact seg_leaf (.error x) (seg_cameBack gc k hcb)
        · exact seg_leaf (.error y) (seg_cameBack gc k hcb)
      refine seg_forLoop ?_
      rw [(gl _).over]
      obtain ⟨acc, cc, r, I⟩ := hI
      rcases turn i m ys σ H w with ⟨stop, qn⟩ | ⟨go, N, hN, step⟩
      · refine wpAny_mono (T.done X rfl rfl rfl hc i _ s σ H X.xe I (fpo hfr) hst stop) (fun r' s4 ⟨hr, I4⟩ => ?_) fun x s' hx => ee n s₀ x s' hx
        subst hr
        exact seg_leaf (.ok .next) (k.ok n ys s₀ s4 .next hn ⟨σ, H, ⟨acc, cc, r, I4⟩, qn⟩)
      · refine wpAny_mono (T.item X rfl rfl rfl hc i _ s σ H X.xe I (fpo hfr) hst go) (fun r' s4 ⟨u, hr, h4⟩ => ?_) fun x s' hx => ee n s₀ x s' hx
        subst hr
        refine wpAny_mono h4 (fun _ s5 ⟨x, H5, I5, r5, y5, st5, fr5⟩ => ?_) fun x s' hx => ee n s₀ x s' hx
        have I5' := I5.pinned (fpo fr5) (T.obj _ _ st5)
        refine wpAny_mono (hg.run _ s5 σ H5 x u _ I5' r5 (step x H5 y5)) (fun _ s6 ⟨σ6, H6, I6, q6⟩ => ?_) fun x s' hx => ee n s₀ x s' hx
        have hip2 : ∀ q ∈ ip ++ pinsAt fp s5.heap, q.1 ≠ S := fun q hq => by
          rcases List.mem_append.mp hq with z | z
          · exact gc.ip q z
          · obtain ⟨hb, _⟩ := of_pinsAt z
            exact fun e => (fS q.1 hb).2.2.2.2.2.2 e.symm
        have gl2 : ∀ kk, GC X S (ip ++ pinsAt fp s5.heap) A (.forLoop tg (.ref it) body [] X.env) (.ret kk none (gd false) (lv []) c p [] :: fs) id := fun kk => ⟨(gl kk).pn, hip2, (gl kk).apart, (gl kk).over, (gl kk).split, (gl kk).guard, (gl kk).gd⟩
        refine hb.run A S (ip ++ pinsAt fp s5.heap) R n ys s₀ _ _ _ _ id id s6 σ6 H6 { D with nx := N, ct := N, bk := D.nx } (gl2 _) hn ⟨fun n' ys' s₀' s7 f hn' hs7 => ?_, fun n' s₀' x s7 hx => ee n' s₀' x s7 hx⟩ ⟨acc, cc, r, I6⟩ q6
        have down : ∀ {ys' : List V} {σ7 : L2.St} {H7 : Hp} {s7 : Shared}, GI X S (ip ++ pinsAt fp s5.heap) ys' σ7 H7 s7 → GI X S ip ys' σ7 H7 s7 ∧ tn (i + 1) s7.heap ∧ ∀ b ∈ fp, H7 b = none := fun {ys' σ7 H7 s7} hh => by
          obtain ⟨acc7, cc7, r7, I7⟩ := hh
          refine ⟨⟨acc7, cc7, r7, I7.pins_of fun q hq => I7.pin q (List.mem_append_right _ ?_)⟩, T.keep _ _ _ st5 fun b hb o e => (I7.pin (b, o) (List.mem_append_right _ (List.mem_cons_of_mem _ (List.mem_append_right _ (mem_pinsAt hb e))))).1, fun b hb => ?_⟩
          · rcases List.mem_cons.mp hq with z | z
            · rw [z]; exact List.mem_cons_self
            · exact List.mem_cons_of_mem _ (List.mem_append_left _ z)
          · obtain ⟨o, e, d⟩ := T.obj _ _ st5 b hb
            exact (I7.pin (b, o) (List.mem_append_right _ (List.mem_cons_of_mem _ (List.mem_append_right _ (mem_pinsAt hb e))))).2.1
        cases f with
        | next =>
          obtain ⟨σ7, H7, I7, n7⟩ := hs7
          obtain ⟨d1, d2, d3⟩ := down I7
          obtain ⟨m', hm, w7⟩ := hN ys' σ7 H7 n7
          exact seg_again rfl (ih m' hm (i + 1) n' ys' s₀' s7 σ7 H7 hn' w7 d1 d2 d3)
        | cont =>
          obtain ⟨σ7, H7, I7, n7⟩ := hs7
          obtain ⟨d1, d2, d3⟩ := down I7
          obtain ⟨m', hm, w7⟩ := hN ys' σ7 H7 n7
          exact seg_again rfl (ih m' hm (i + 1) n' ys' s₀' s7 σ7 H7 hn' w7 d1 d2 d3)
        | brk =>
          obtain ⟨σ7, H7, I7, q7⟩ := hs7
          exact seg_leaf (.ok .next) (k.ok n' ys' s₀' s7 .next hn' ⟨σ7, H7, (down I7).1, q7⟩)
        | ret v =>
          obtain ⟨v7, σ7, H7, I7, r7, q7⟩ := hs7
          exact seg_leaf (.ok (.ret v)) (k.ok n' ys' s₀' s7 (.ret v) hn' ⟨v7, σ7, H7, (down I7).1, r7, q7⟩)
  exact loop m0 0 n ys s₀ s2 σ H2 hn w0 ⟨acc, cc, r, I2⟩ st2 fun b hb => (f2 b hb).1
end ML
namespace ML
open PySem PySem.Spec L2 PyProof.Rows GenW
section
variable {P : Program} {w : World} {outer : List PySem.Env} {H : Hp} {sc s : Shared} {ex : List Addr} {Q : List V → Hp → Prop} {EX : XK} {A : Around} {k : Nat} {u : Value} {E : Value → Shared → Prop}
structure Drn (P : Program) (w : World) (outer : List PySem.Env) (H : Hp) (sc s : Shared) (ex : List Addr) (Q : List V → Hp → Prop) (S : Addr) (s' : Shared) (acc : Array Value) (c : Nat) (H' : Hp) (ys : List V) : Prop where
  lo : s.heap.objs.size ≤ S
  at_ : s'.heap.get? S = some (lstObj acc c)
  vals : Vals ys acc.toList
  len : ys.length ≤ sizeLine
  os : s'.os = sc.os
  bare : AllBare s'.gens
  un : Un (frs outer) ex H H' sc.heap s'.heap
  hok : HOk P w H' s'.heap
  no : H' S = none
  q : Q ys H'
theorem collect_made {Q' : List Value → Shared → Prop} (hr : Room (k + 2) A) (hfr : A.frames = some outer) (h : GMade P w k outer H sc ex Q EX u s)
    (hQ : ∀ S s' acc c H' ys, Drn P w outer H sc s ex Q S s' acc c H' ys → Q' acc.toList s')
    (hexc : ∀ e s' g, CX P w outer H sc EX e s' → NotStop (model P w) e s'.heap ∧ E e (s'.setGen g .finished)) :
    wpAny (model P w) A (collect u) Q' E s := by
  obtain ⟨a, g, c, rfl, ha1, ha2, hg, hgs, hos, hb, hl, hkp, wake⟩ := h
  have hSa : s.heap.objs.size ≠ a := Nat.ne_of_gt ha2
  have hcl : cStatics < s.heap.objs.size := let ⟨_, hn, _⟩ := hl; hn.lt
  have hSc : s.heap.objs.size ≠ cStatics := Nat.ne_of_gt hcl
  unfold collect
  refine wpAny_bind (wpAny_runValue (codeAny_builtin F.entry_proto_collect ?_))
  rw [Around.under_plainId F.plain_proto_collect _]
  show wpAny _ A.in1 (newList [] >>= fun l => again (.builtin "list.__iadd__" ⟨[l, .ref a], []⟩)) _ _ s
  refine wpAny_bind (wpAny_newObj_type ?_)
  refine wpAny_pure ⟨plainId_quiet F.plain_list_iadd _, codeAny_builtin F.entry_list_iadd ?_⟩
  rw [Around.under_plainId F.plain_list_iadd _]
  show wpAny _ A.in1 (Builtin.List.listExtendWith (.ref s.heap.objs.size) (.ref a) (.ref s.heap.objs.size)) _ _ _
  have hS : (s.heap.push { cls := .type "list", data := .seq ([] : List Value).toArray }).get? s.heap.objs.size = some { cls := .type "list", data := .seq ([] : List Value).toArray } := Heap.get?_push_size _ rfl
  unfold Builtin.List.listExtendWith
  have up : ∀ (h : Heap) (f : Obj → Obj), (∀ b o, s.heap.get? b = some o → h.get? b = some o) → ∀ b o, s.heap.get? b = some o → (h.update s.heap.objs.size f).get? b = some o := fun h f q b o e =>
    (Heap.get?_update_other _ _ (Ne.symm (Nat.ne_of_lt (Heap.lt_size e)))).trans (q b o e)
  have k1 : ∀ b o, s.heap.get? b = some o → (s.heap.push { cls := .type "list", data := .seq ([] : List Value).toArray }).get? b = some o := fun b o e => Heap.get?_push_of_some _ e
  have gty : ∀ {h : Heap}, (∀ b o, s.heap.get? b = some o → h.get? b = some o) → h.IsGen a g := fun {h} q => hg.keeps q
  refine wpAny_bind (wpAny_typeOf (Heap.IsGen.typeIs (s := { s with heap := _ }) (gty k1)) ?_)
  have h1 : Builtin.List.listSameRef (.ref s.heap.objs.size) (.ref a) = false := by simp [Builtin.List.listSameRef, hSa]
  have h2 : (Value.type "generator" == Value.type "list") = false := by decide
  have h3 : (Value.type "generator" == Value.type "tuple") = false := by decide
  simp only [h1, h2, h3, Bool.or_false, Bool.false_eq_true, if_false]
  refine wpAny_bind (wpAny_pyIter_gen (s := { s with heap := _ }) (gty k1) ?_)
  refine wpAny_bind (wpAny_holding ?_)
  unfold Builtin.List.listLengthHint
  refine wpAny_bind (wpAny_specialOf (Heap.IsGen.typeIs (s := { s with heap := _ }) (gty k1)) F.gen_no_len ?_)
  show wpAny _ A.in1 (specialOf (Value.ref a) (Str.ofString "__length_hint__") >>= _) _ _ _
  refine wpAny_bind (wpAny_specialOf (Heap.IsGen.typeIs (s := { s with heap := _ }) (gty k1)) F.gen_no_hint ?_)
  refine wpAny_pure ?_
  show wpAny _ A.in1 (rule "list.extend.makes-room" >>= fun _ => Builtin.List.listTouch (.ref s.heap.objs.size) >>= fun _ =>
    again (.builtin "list.extend.loop" ⟨[.ref s.heap.objs.size, .ref a, .ref s.heap.objs.size], []⟩)) _ _ _
  refine wpAny_bind (wpAny_rule ?_)
  refine wpAny_bind ?_
  show wpAny _ A.in1 (updateSeq s.heap.objs.size (·.push .none) >>= fun _ => updateSeq s.heap.objs.size (·.pop)) _ _ _
  refine wpAny_bind (wpAny_updateSeq hS rfl ?_)
  have hS3 := Heap.get?_update_self (Obj.mapSeq (·.push Value.none)) hS rfl
  refine wpAny_updateSeq (hz := by seq_fits) hS3 rfl ?_
  have hS4 := Heap.get?_update_self (Obj.mapSeq (·.pop)) hS3 rfl
  have k4 := up _ (Obj.mapSeq (·.pop)) (up _ (Obj.mapSeq (·.push Value.none)) k1)
  refine wpAny_pure ⟨plainId_quiet F.plain_extend_loop _, ?_⟩
  refine drain (P := P) (w := w) (outer := outer) (H := H) (sc := sc) (ex := ex) (Q := Q) (EX := EX) (A := A) (g := g) hr.hd (by have := hr.dp; show A.depth < _; omega) hSa hSc
    (fun s' acc c H' ys q1 q2 q3 q4 q5 q6 q7 q8 q9 => ?_) (fun e s' hc => hexc e s' g hc)
    sizeLine _ (gty k4) (hl.keeps k4) ⟨_, hgs, rfl, ?_⟩
  · show wpAny _ A (load s.heap.objs.size >>= _) _ _ s'
    refine wpAny_bind (wpAny_load q1 ?_)
    exact wpAny_pure (hQ _ s' acc c H' ys ⟨Nat.le_refl _, q1, q2, q3, q4, q5, q6, q7, q8, q9⟩)
  · refine wake _ _ _ ⟨hr.hd, ?_, ?_⟩ hfr (Nat.le_refl _) k4 ⟨_, hS4⟩ hos (allBare_setGen (s := { s with heap := _ }) hb rfl)
    · have := hr.dp
      show A.depth + 3 * k + 5 < _
      omega
    · have := hr.un
      show A.units + 1 + 1 + 16 * k + 200 < _
      omega
theorem code_tuple_made {Q' : Value → Shared → Prop} (hr : Room (k + 4) A) (hfr : A.frames = some outer) (h : GMade P w k outer H sc ex Q EX u s)
    (hQ : ∀ S s' acc c H' ys, Drn P w outer H sc s ex Q S s' acc c H' ys → Q' (.ref s'.heap.objs.size) { s' with heap := s'.heap.push { cls := .type "tuple", data := .seq acc } })
    (hexc : ∀ e s' g, CX P w outer H sc EX e s' → NotStop (model P w) e s'.heap ∧ E e (s'.setGen g .finished)) :
    codeAny (model P w) A (.call (.builtin "tuple.__new__") ⟨[.type "tuple", u], []⟩) (wants Q' E) s := by
  have hC : ∀ {Q2 : List Value → Shared → Prop}, (∀ S s' acc c H' ys, Drn P w outer H sc s ex Q S s' acc c H' ys → Q2 acc.toList s') → wpAny (model P w) A.in1 (collect u) Q2 E s := fun {Q2} hq =>
    collect_made ⟨hr.hd, by have := hr.dp; show A.depth + _ + _ < _; omega, by have := hr.un; show A.units + 1 + _ + _ < _; omega⟩ hfr h hq hexc
  obtain ⟨a, g, c, rfl, _, _, hg, _⟩ := id h
  refine codeAny_of_tree ?_
  show wpAny _ A.in1 (do checkBuiltinCall "tuple.__new__" ⟨[.type "tuple", .ref a], []⟩; again (.builtin "tuple.__new__" ⟨[.type "tuple", .ref a], []⟩)) _ _ s
  refine wpAny_bind (wpAny_of_eq (F.newCall_tuple_1 _) (wpAny_pure ⟨plainId_quiet F.plain_tuple_new _, codeAny_builtin F.entry_tuple_new ?_⟩))
  rw [Around.under_plainId F.plain_tuple_new _]
  have hsub := sub_tuple_self
  have hinit := init_tuple_lookup
  have hmh := madeHere_tuple
  have hTI : s.TypeIs (.ref a) "generator" := hg.typeIs
  wp_walk using wpAny_typeOf hTI, hC
  intro S s' acc c H' ys hd
  show wpAny _ _ (Builtin.Tuple.tupleExact acc.toList.toArray >>= fun v => ret v) _ _ _
  unfold Builtin.Tuple.tupleExact
  have hsz : acc.size ≤ sizeLine := by rw [← Array.length_toList, ← hd.vals.length]; exact hd.len
  refine wpAny_bind (wpAny_newObj_type ?_ (by show acc.toList.toArray.size ≤ sizeLine; simp only [Array.toArray_toList]; exact hsz))
  refine wpAny_pure ?_
  have e : acc.toList.toArray = acc := by simp
  rw [e]
  exact hQ S s' acc c H' ys hd
theorem call_tuple_made {Q' : Value → Shared → Prop} (hr : Room (k + 5) A) (hfr : A.frames = some outer) (h : GMade P w k outer H sc ex Q EX u s)
    (hQ : ∀ S s' acc c H' ys, Drn P w outer H sc s ex Q S s' acc c H' ys → Q' (.ref s'.heap.objs.size) { s' with heap := s'.heap.push { cls := .type "tuple", data := .seq acc } })
    (hexc : ∀ e s' g, CX P w outer H sc EX e s' → NotStop (model P w) e s'.heap ∧ E e (s'.setGen g .finished)) :
    wpAny (model P w) A (call (.type "tuple") [u]) Q' E s := by
  refine callType_codes (Q₁ := fun obj s₁ => s₁.TypeIs obj "tuple" ∧ Q' obj s₁) F.called_tuple (F.typeCall_tuple_1 _) F.entry_object_init
    (code_tuple_made (k := k) ⟨hr.hd, by have := hr.dp; show A.depth + _ + _ < _; omega, by have := hr.un; show A.units + 1 + _ + _ < _; omega⟩ hfr h (fun S s' acc c H' ys hd => ⟨⟨_, Heap.get?_push_size _ rfl, rfl⟩, hQ S s' acc c H' ys hd⟩) hexc) fun obj s₁ h₁ => ?_
  exact ⟨h₁.1, F.args_object_init_2 obj _, object_init_meets F.called_tuple.init.lookup F.called_tuple.made (by decide) P w A.in1 _ s₁ ⟨h₁.1, rfl, h₁.2⟩⟩
end
def tTupG (tg : TGen) : TE := fun σ H Q => tg σ H fun out H2 => ∀ S, H2 S = none → NewT (upd H2 S (.lst out)) out Q
theorem pe_tupG {X : Cx} {k : Nat} {p pos : Pos} {e : Expr} {tg : TGen} {E : XK} (h : PGen X k e tg E) (hx : Passes (CX X.prog X.w) X E) (hns : NoStop X.K E) (hr : Room (k + 5) X.A) (hmg : X.mg "tuple" = none) (hg : Gl X "tuple" := by rfl)
    (he : starEach [e] X.env = (false, eval e X.env) :: starEach [] X.env := by rfl) : PE X (.Call (.Name "tuple" p) [e] [] pos) (tTupG tg) := by
  refine ⟨fun pins s σ H Q I hq => ?_⟩
  refine wpAny_Call_Name_kw (ld_blt I hg hmg (by decide +kernel : bootBuiltins "tuple" = some (.type "tuple")) ?_ (by decide) (by decide))
  refine PyProof.Rows.callWith_type1 ?_ he rfl
  rw [he]
  show wpAny _ _ (spliced ((false, eval e X.env) :: backTo pos (starEach [] X.env))) _ _ s
  refine Calls.spliced_cons (thn (h.run pins s σ H _ I hq) fun u s1 ⟨H1, sc, ex, I1, hex, hG⟩ => ?_)
  refine Calls.spliced_nil ?_
  have hsz : sc.heap.objs.size ≤ s1.heap.objs.size := by
    obtain ⟨a, g, c, _, h1, h2, _⟩ := hG
    exact Nat.le_trans h1 (Nat.le_of_lt h2)
  refine call_tuple_made hr I1.ok.frames hG (fun S s' acc c H' ys d => ?_) fun e s' g hc => ?_
  · have I2 := I1.drained (Nat.le_trans hsz d.lo) d.len d.at_ d.vals hex d.os d.bare d.un d.hok d.no
    have := new_tup I2 d.vals d.len (d.q S d.no)
    simpa using this
  · have kin : X.K.In s'.heap := by
      obtain ⟨a, B, H', cls, d, _, fl, _, ub, _⟩ := id hc
      refine I1.ok.mod.kin.keeps fun b o eb => fl.1 b o (ub.keep b o (I1.bs b o eb).1 (I1.bs b o eb).2 fun hm => ?_)
      rcases List.mem_cons.mp (I1.stkSub b hm) with z | z
      · have h1 := Heap.lt_size eb
        have h2 := Nat.le_trans I1.ok.bsz I1.ok.above
        rw [z] at h1
        exact absurd (Nat.lt_of_lt_of_le h1 h2) (Nat.lt_irrefl _)
      · exact I1.ok.nofr eb z
    refine ⟨notStop_of hns kin hc, hx pins σ H1 sc e _ I1 ?_⟩
    · obtain ⟨a, B, H', cls, d, z1, fl, z2, ub, z3, z4, z5, z6⟩ := hc
      exact ⟨a, B, H', cls, d, z1, fl, z2, ub, z3, z4, allBare_setGen z5 rfl, z6⟩
end ML
namespace ML
open PySem PySem.Spec L2 PyProof.Rows GenW
inductive YR where
  | nx (ρ : Env) (st : Store) (ds : List A)
  | bad
abbrev MY := Env → Store → List A → YR
abbrev MG := List A → Store → R (List A)
def gPl (m : MS) : MY := fun ρ st ds => match m ρ st with
  | .nx ρ1 st1 => .nx ρ1 st1 ds
  | _ => .bad
def gSeq (a b : MY) : MY := fun ρ st ds => match a ρ st ds with
  | .nx ρ1 st1 ds1 => b ρ1 st1 ds1
  | .bad => .bad
def gNext : MY := fun ρ st ds => .nx ρ st ds
def gYield (ma : MX) : MY := fun ρ st ds => match ma ρ st with
  | .ok a st1 => if ds.length < sizeLine then .nx ρ st1 (ds ++ [a]) else .bad
  | _ => .bad
def loopG (s : Src) (tg : Tg) (body : MY) : Nat → Nat → MY
  | 0, _, _, _, _ => .bad
  | n + 1, i, ρ, st, ds => match s.at i st with
    | none => .bad
    | some none => .nx ρ st ds
    | some (some d) => match asgT tg d ρ st with
      | none => .bad
      | some ρ1 => match body ρ1 st ds with
        | .nx ρ2 st2 ds2 => loopG s tg body n (i + 1) ρ2 st2 ds2
        | .bad => .bad
def gFor (ms : Env → Store → R Src) (tg : Tg) (body : MY) : MY := fun ρ st ds => match ms ρ st with
  | .ok s st1 => loopG s tg body (s.size st1 + 1) 0 ρ st1 ds
  | _ => .bad
def mGen (N n : Nat) (body : MY) : MG := fun as st => if as.length = n then match body (as.map some ++ List.replicate (N - n) none) st [] with
  | .nx _ st1 ds => .ok ds st1
  | .bad => .bad else .bad
def SPg (K : PySem.W.Frag) (w : World) (mg : Str → Option Value) (φ : List Addr) (H : Hp) (r : YR) (D : GEnds) : Prop := match r with
  | .nx ρ st ds => ∀ φ' σ' H' ys', Ext φ H φ' H' → RS K w mg φ' H' st → RE K φ' H' σ' ρ → RVs K φ' H' ys' ds → D.nx ys' σ' H'
  | .bad => False
def tY (X : Cx) (m : MY) : TGn := fun D ys σ H => ∃ φ ρ st ds, RS X.K X.w X.mg φ H st ∧ RE X.K φ H σ ρ ∧ RVs X.K φ H ys ds ∧ SPg X.K X.w X.mg φ H (m ρ st ds) D
theorem gsImp {X : Cx} {s : Stmt} {t t' : TGn} (h : GS X s t) (k : ∀ D ys σ H, t' D ys σ H → t D ys σ H) : GS X s t' := ⟨fun A S ip R n ys s₀ c fs K J gd lv s σ H D g hn kk hI ht => h.run A S ip R n ys s₀ c fs K J gd lv s σ H D g hn kk hI (k _ _ _ _ ht)⟩
theorem gssImp {X : Cx} {s : List Stmt} {t t' : TGn} (h : GSs X s t) (k : ∀ D ys σ H, t' D ys σ H → t D ys σ H) : GSs X s t' := ⟨fun A S ip R n ys s₀ c fs K J gd lv s σ H D g hn kk hI ht => h.run A S ip R n ys s₀ c fs K J gd lv s σ H D g hn kk hI (k _ _ _ _ ht)⟩
section
variable {K : PySem.W.Frag} {w : World} {φ φ' : List Addr} {H H' : Hp} {mg : Str → Option Value} {D : GEnds}
theorem SPg.mono {r : YR} (h : SPg K w mg φ H r D) (e : Ext φ H φ' H') : SPg K w mg φ' H' r D := by
  cases r with
  | nx ρ st ds => exact fun φ2 σ2 H2 ys2 e2 s q v => h φ2 σ2 H2 ys2 (e.trans e2) s q v
  | bad => exact h
end
section
variable {X : Cx} {W : WX} {s : Stmt} {rest : List Stmt}
theorem gs_pl {m : MS} (h : PS X s (tS X W m)) : GS X s (tY X (gPl m)) := gsImp (gs_ps h) fun D ys σ H ⟨φ, ρ, st, ds, rs, re, rv, h⟩ => by
  refine ⟨φ, ρ, st, rs, re, ?_⟩
  unfold gPl at h
  cases q : m ρ st with
  | nx ρ1 st1 =>
    rw [q] at h
    exact fun φ' σ' H' e rs' re' => h φ' σ' H' ys e rs' re' (rv.ext e)
  | bk ρ1 st1 => rw [q] at h; exact h.elim
  | ct ρ1 st1 => rw [q] at h; exact h.elim
  | rt a st1 => rw [q] at h; exact h.elim
  | er x ρ1 st1 => rw [q] at h; exact h.elim
  | bad => rw [q] at h; exact h.elim
theorem gss_n : GSs X [] (tY X gNext) := gssImp gss_nil fun D ys σ H ⟨φ, ρ, st, ds, rs, re, rv, h⟩ => h φ σ H ys .refl rs re rv
theorem gss_c {a b : MY} (h1 : GS X s (tY X a)) (h2 : GSs X rest (tY X b)) : GSs X (s :: rest) (tY X (gSeq a b)) := gssImp (gss_cons h1 h2) fun D ys σ H ⟨φ, ρ, st, ds, rs, re, rv, h⟩ => by
  refine ⟨φ, ρ, st, ds, rs, re, rv, ?_⟩
  unfold gSeq at h
  cases q : a ρ st ds with
  | nx ρ1 st1 ds1 =>
    rw [q] at h
    exact fun φ' σ' H' ys' e rs' re' rv' => ⟨φ', ρ1, st1, ds1, rs', re', rv', SPg.mono h e⟩
  | bad => rw [q] at h; exact h.elim
theorem gs_yl {e : Expr} {ma : MX} {yp pos : Pos} (he : PE X e (tE X W ma)) (hco : X.env.scope.isCoroutine = false := by rfl) (hi : interactive X.env = false := by rfl) : GS X (.Expr (.Yield (some e) yp) pos) (tY X (gYield ma)) := gsImp (gs_yield he hco hi) fun D ys σ H ⟨φ, ρ, st, ds, rs, re, rv, h⟩ => by
  unfold gYield at h
  cases q : ma ρ st with
  | ok a st1 =>
    rw [q] at h
    simp only at h
    by_cases hl : ds.length < sizeLine
    · rw [if_pos hl] at h
      refine ⟨by rw [rv.length]; exact hl, φ, ρ, st, rs, re, ?_⟩
      rw [q]
      exact fun φ' v H' e rs' rv' => h φ' σ H' (ys ++ [v]) e rs' (re.ext e) ((rv.ext e).app (.cons rv' .nil))
    · rw [if_neg hl] at h
      exact h.elim
  | er x st1 => rw [q] at h; exact h.elim
  | bad => rw [q] at h; exact h.elim
theorem gs_fr {tg iter : Expr} {body : List Stmt} {wk : Bool} {mi : Env → Store → R Src} {T : Tg} {mb : MY} {pos : Pos} (hp : PassesOwn (model X.prog X.w) X.A X.env X.xe) (hi : PI X tg iter (tG X.K X.w X.mg (SimB X.K X.w X.mg wk) W mi)) (hg : PG X tg (gOf X.K T)) (hb : GSs X body (tY X mb))
    (hc : X.calm = true := by rfl) (hs : ∀ x, foldedSetIterable iter X.env x = pure x := by intro _; rfl) (hw : wk = false ∨ T.isOne = false := by first | exact Or.inl rfl | exact Or.inr rfl) : GS X (.For tg iter body [] pos) (tY X (gFor mi T mb)) := gsImp (gs_for hp hc hi hg hb hs) fun D ys σ H ⟨φ, ρ, st, ds, rs, re, rv, h⟩ => by
  unfold gFor at h
  refine ⟨φ, ρ, st, rs, re, ?_⟩
  cases q0 : mi ρ st with
  | er x st1 => rw [q0] at h; exact h.elim
  | bad => rw [q0] at h; exact h.elim
  | ok s st1 =>
    rw [q0] at h
    simp only at h
    intro φ1 J H1 e1 rs1 sim
    refine ⟨fun i m ys σ H => ∃ φ ρ st ds, Ext φ1 H1 φ H ∧ RS X.K X.w X.mg φ H st ∧ RE X.K φ H σ ρ ∧ RVs X.K φ H ys ds ∧ SPg X.K X.w X.mg φ H (loopG s T mb m i ρ st ds) D, ⟨_, φ1, ρ, st1, ds, .refl, rs1, re.ext e1, rv.ext e1, SPg.mono h e1⟩, ?_⟩
    rintro i m ys σ H ⟨φ, ρ, st, ds, ex, rs, re, rv, h⟩
    cases m with
    | zero => exact h.elim
    | succ m =>
      unfold loopG at h
      cases q : s.at i st with
      | none => rw [q] at h; exact h.elim
      | some o =>
        cases o with
        | none =>
          rw [q] at h
          exact .inl ⟨sim.stop i φ H st ex rs q, h φ σ H ys .refl rs re rv⟩
        | some d =>
          rw [q] at h
          simp only at h
          cases q2 : asgT T d ρ st with
          | none => rw [q2] at h; exact h.elim
          | some ρ1 =>
            rw [q2] at h
            simp only at h
            obtain ⟨g1, g2⟩ := sim.go i φ H st d ex rs q
            refine .inr ⟨g1, fun ys' σ' H' => ∃ φ ρ st ds, Ext φ1 H1 φ H' ∧ RS X.K X.w X.mg φ H' st ∧ RE X.K φ H' σ' ρ ∧ RVs X.K φ H' ys' ds ∧ SPg X.K X.w X.mg φ H' (loopG s T mb m (i + 1) ρ st ds) D, fun ys' σ' H' w => ⟨m, Nat.lt_succ_self m, w⟩, fun x H' y => ?_⟩
            obtain ⟨ex2, rs2, rv2⟩ := g2 x H' y
            refine gOf_runB hw rv2 (re.ext ex2) q2 fun xs re2 => ⟨φ, ρ1, st, ds, rs2, re2, rv.ext ex2, ?_⟩
            cases q3 : mb ρ1 st ds with
            | nx ρ2 st2 ds2 =>
              rw [q3] at h
              exact fun φ' σ' H' ys' e4 rs' re' rv' => ⟨φ', ρ2, st2, ds2, (ex.trans ex2).trans e4, rs', re', rv', SPg.mono h (ex2.trans e4)⟩
            | bad => rw [q3] at h; exact h.elim
end
def spG (K : PySem.W.Frag) (w : World) (mg : Str → Option Value) (m : MG) : SpG := fun vs H Q E => ∃ φ as st, RS K w mg φ H st ∧ RVs K φ H vs as ∧ match m as st with
  | .ok ds st' => ∀ φ' ys' H', Ext φ H φ' H' → RS K w mg φ' H' st' → RVs K φ' H' ys' ds → Q ys' H'
  | _ => False
structure CalY (P : Program) (w : World) (K : PySem.W.Frag) (mg : Str → Option Value) (base : Heap) (x : Str) (k : Nat) (m : MG) : Prop where
  ex : ∃ (f : Addr) (fd : FuncData) (ps : List Str), mg x = some (.ref f) ∧ PySem.W.keepIn K (.ref f) = true ∧ Binds K fd ps [] ∧ GFn P w K mg base k f fd ps (spG K w mg m)
section
variable {P : Program} {w : World} {K : PySem.W.Frag} {mg : Str → Option Value} {base : Heap}
theorem caly_of {x : Str} {st : Stmt} {N ps : List Str} {k : Nat} {body : MY} (G : GF K mg x st ps) (S : GScope N ps (defScope st))
    (hb : ∀ (f : Addr) (cdv : Value) (A : Around) (outer : List PySem.Env) (s : Shared) (H : Hp) (E : XK) (pn : List (Addr × Obj)), Room k (A.deeper (PyProof.Rows.envOfC x (defScope st) s.heap.objs.size f cdv)) →
      GSs (gcxOf P w K mg base N x (defScope st) f cdv A outer s H E pn) (defBody st) (tY (gcxOf P w K mg base N x (defScope st) f cdv A outer s H E pn) body)) :
    CalY P w K mg base x (k + 1) (mGen N.length ps.length body) := by
  obtain ⟨f, fd, h1, F, b⟩ := G.ex
  obtain ⟨oc, od, kV, doc, pm, an, cdv, ct, osl, e1, lk, hcd⟩ := F.ex
  subst e1
  have len : ∀ vs H Q E, spG K w mg (mGen N.length ps.length body) vs H Q E → vs.length = ps.length := fun vs H Q E ⟨φ, as, st, rs, rv, h⟩ => by
    unfold mGen at h
    split at h
    · rename_i hl
      rw [rv.length]
      by_cases c : as.length = ps.length
      · exact c
      · rw [if_neg c] at hl; cases hl
    · exact h.elim
  refine ⟨f, _, ps, h1, F.kp, b, gfn_of lk hcd S len fun A outer s H vs Q E pn hr hsp => ?_⟩
  have lv := len _ _ _ _ hsp
  refine ⟨_, hb f cdv A outer s H E pn hr, ?_⟩
  obtain ⟨φ, as, st0, rs, rv, h⟩ := hsp
  unfold mGen at h
  by_cases c : as.length = ps.length
  · rw [if_pos c] at h
    refine ⟨φ, as.map some ++ List.replicate (N.length - ps.length) none, st0, [], rs, ?_, .nil, ?_⟩
    · unfold L2.start
      rw [lv]
      exact RE.start rv _
    · cases e : body (as.map some ++ List.replicate (N.length - ps.length) none) st0 [] with
      | nx ρ st' ds => rw [e] at h; exact fun φ' σ' H' ys' ex rs' re' rv' => h φ' ys' H' ex rs' rv'
      | bad => rw [e] at h; exact h.elim
  · rw [if_neg c] at h
    exact h.elim
end
def mTupY (m : MG) (ms : MA) : MX := fun ρ st => (ms ρ st).bind fun as st1 => match m as st1 with
  | .ok ds st2 => .ok (.tup ds) st2
  | _ => .bad
section
variable {X : Cx} {W : WX}
theorem me_tupY {k : Nat} {m : MG} {ms : MA} {x : Str} {e : Expr} {es : List Expr} {p p2 pos pos2 : Pos} (C : CalY X.prog X.w X.K X.mg X.base x k m) (hr : Room (k + 5) X.A) (hmg : X.mg "tuple" = none) (ha : PA X (e :: es) (tA X W ms)) (hg2 : Gl X "tuple" := by rfl) (hg : Gl X x := by rfl)
    (hdb : (x == ("__debug__" : Str)) = false := by decide) (he : starEach (e :: es) X.env = (false, eval e X.env) :: starEach es X.env := by rfl) (hpl : (backTo pos (starEach es X.env)).any (·.1) = false := by rfl)
    (he2 : starEach [.Call (.Name x p) (e :: es) [] pos] X.env = (false, eval (.Call (.Name x p) (e :: es) [] pos) X.env) :: starEach [] X.env := by rfl) :
    PE X (.Call (.Name "tuple" p2) [.Call (.Name x p) (e :: es) [] pos] [] pos2) (tE X W (mTupY m ms)) := by
  obtain ⟨f, fd, ps, hm, hk, hb, F⟩ := C.ex
  have hx : Passes (L2.CX X.prog X.w) X (fun _ _ _ => False) := fun pins σ H s e s' I h => by
    obtain ⟨_, _, _, _, _, _, _, _, _, _, _, _, z⟩ := h
    exact z.elim
  refine (pe_tupG (k := k) (E := fun _ _ _ => False) (pgen_call (dvs := []) F (hr.mono (by omega)) hg hm hk hb .nil ha hdb he hpl) hx (fun _ _ _ z => z.elim) hr hmg hg2 he2).imp fun σ H Q ⟨φ, ρ, st, rs, re, h⟩ => ?_
  unfold mTupY at h
  refine ⟨φ, ρ, st, rs, re, h.seq fun φ1 ds vs H1 st1 e1 rs1 rv1 h1 => ?_⟩
  rw [List.append_nil]
  refine ⟨φ1, ds, st1, rs1, rv1, ?_⟩
  cases q : m ds st1 with
  | ok os st2 =>
    rw [q] at h1
    refine fun φ' ys' H' e2 rs2 rv2 S hS => ?_
    have e3 := ext_new (φ := φ') (o := .lst ys') hS
    exact fun l o hd hp => h1 _ _ _ ((e2.trans e3).trans (ext_new hp)) ((rs2.new hS).new hp) (.newTup (rs2.new hS) hd hp (rv2.ext e3))
  | er x st2 => rw [q] at h1; exact h1.elim
  | bad => rw [q] at h1; exact h1.elim
end
end ML
namespace L2
open PySem PySem.Spec PyProof.Rows
theorem draws_shift {prog : Program} {w : World} {A : Around} {it : Addr} {fp : List Addr} {n : Nat} {P : Nat → Value → Prop} {St : Nat → Heap → Prop} (D : Draws prog w A it fp n P St) (k0 : Nat) : Draws prog w A it fp (k0 + n) (fun j v => P (j - k0) v) (fun j h => k0 ≤ j ∧ St (j - k0) h) where
  live := fun i h st => D.live _ _ st.2
  frame := fun i h h' st k => ⟨st.1, D.frame _ _ _ st.2 k⟩
  item := fun i s Q E hi st hQ => by
    obtain ⟨hk, st⟩ := st
    refine D.item (i - k0) s Q E (by omega) st fun x h' tk hP hs sb => hQ x h' tk hP ⟨by omega, ?_⟩ sb
    rw [show i + 1 - k0 = i - k0 + 1 by omega]
    exact hs
  done := fun s Q E st hE => D.done s Q E (by have := st.2; rwa [Nat.add_sub_cancel_left] at this) hE
theorem callWith_type_kw {M : Model} {A : Around} {E : Value → Shared → Prop} {s : Shared} {env : PySem.Env} {pos : Pos} {T : String} {e : Expr} {rest : List Expr} {kws : List Keyword} {Q : Value → Shared → Prop}
    (h : wpAny M A (spliced (backTo pos (starEach (e :: rest) env))) (fun vs s₁ => wpAny M A (evalAll ((backToKw pos (keywordEach kws env)).map (·.2)))
      (fun kvs s₂ => wpAny M A (call (.type T) vs (((backToKw pos (keywordEach kws env)).filterMap (·.1)).zip kvs)) Q E s₂) E s₁) E s)
    (he : backTo pos (starEach (e :: rest) env) = (false, eval e env) :: backTo pos (starEach rest env))
    (hplain : (backTo pos (starEach (e :: rest) env)).any (·.1) = false)
    (hall : (backToKw pos (keywordEach kws env)).all (·.1.isSome) = true)
    (hkw : (backToKw pos (keywordEach kws env)).any (·.1.isNone) = false) :
    wpAny M A (callWith pos (.type T) [] (backTo pos (starEach (e :: rest) env)) (backToKw pos (keywordEach kws env))) Q E s := by
  have h2 : wpAny M A (evalArgs (.type T) true (backTo pos (starEach (e :: rest) env)) (backToKw pos (keywordEach kws env))) (fun a s₁ => wpAny M A (call (.type T) ([] ++ a.pos) a.kw) Q E s₁) E s := by
    rw [he] at h ⊢
    exact evalArgs_kwB hall h
  unfold callWith
  refine wpAny_bind (wpAny_holding (wpAny_mono h2 (fun a s₁ h₁ => wpAny_bind (wpAny_standAt ?_)) fun _ _ x => x))
  simp only [hplain, hkw, Bool.or_false]
  refine wpAny_bind (wpAny_pure ?_)
  exact wpAny_bind (wpAny_mono h₁ (fun r s₂ hr => wpAny_bind (wpAny_holding (wpAny_point (wpAny_pure hr)))) fun _ _ x => x)
def IteS (K : PySem.W.Frag) (k0 : Nat) (a : Addr) : It :=
  ⟨fun i H => ∃ (xs : List V) (x : V), SqT K H a xs ∧ xs[i]? = some x, fun i H v H' => ∃ T x, v = .ref T ∧ H T = none ∧ H' = upd H T (.tup [.int ((k0 + i : Nat) : Int), x]) ∧ ∀ xs, SqT K H a xs → xs[i]? = some x, fun i H => ∃ xs : List V, SqT K H a xs ∧ xs.length ≤ i⟩
theorem turn_enumS {P : Program} {w : World} {K : PySem.W.Frag} {elts : List Expr} {kk : Nat} {tpos : Pos} (k0 : Nat) (a e it : Addr) :
    Turn P w K (.Tuple elts kk tpos) (IteS K k0 a) [e, it] e (fun i h => (∃ old, IsEnum h e it ((k0 + i : Nat) : Int) old) ∧ h.IsTupleIter it a i ∧ e ≠ it) where
  mem := by simp
  obj := fun i h st b hb => by
    obtain ⟨⟨old, he⟩, ⟨o, ho, hc, hd⟩, _⟩ := st
    have e' : b = e ∨ b = it := by simpa using hb
    rcases e' with z | z
    · rw [z]; exact ⟨_, he, fun v q => nomatch q⟩
    · rw [z]; exact ⟨o, ho, fun v q => by rw [hd] at q; cases q⟩
  keep := fun i h h' st k => let ⟨⟨old, he⟩, hi, hne⟩ := st; ⟨⟨old, k e (by simp) _ he⟩, hi.at fun o q => k it (by simp) o q, hne⟩
  item := by
    intro X hP hw hK hc i pins s σ H E I hf st hg
    subst hP hw hK
    obtain ⟨⟨old, he⟩, hit, hne⟩ := st
    obtain ⟨xs, x, hq, hx⟩ := hg
    obtain ⟨its, rv, p, hz⟩ := I.tuple hq
    obtain ⟨u, hu, ru⟩ := rv.get hx
    have hel : e < s.heap.objs.size := Heap.lt_size he
    have hil : it < s.heap.objs.size := by obtain ⟨_, q, _⟩ := hit; exact Heap.lt_size q
    have pt : s.heap.IsTuple a its.toArray := p
    have hta : a ≠ it := fun z => by
      obtain ⟨o, ho, hc', _⟩ := hit
      obtain ⟨o2, ho2, hc2, _⟩ := pt
      rw [z, ho] at ho2
      cases ho2
      have z2 : Value.type "tuple_iterator" = .type "tuple" := hc'.symm.trans hc2
      exact absurd (Value.type.inj z2) (by decide)
    have hea : e ≠ a := fun z => by
      obtain ⟨o2, ho2, hc2, _⟩ := pt
      rw [← z] at ho2
      have he' : s.heap.get? e = some _ := he
      rw [he'] at ho2
      cases ho2
      have z2 : Value.type "enumerate" = .type "tuple" := hc2
      exact absurd (Value.type.inj z2) (by decide)
    have hi : i < its.toArray.size := by
      have := (List.getElem?_eq_some_iff.mp hu).1
      simpa using this
    refine wpAny_pyNext_enum_itemD (i := k0 + i) (draws_shift (Draws.tuple (prog := X.prog) (w := X.w) (A := X.A.in1) (I.ok.hd hc) it a hta its.toArray) k0) he ⟨Nat.le_add_right _ _, by rw [Nat.add_sub_cancel_left]; exact ⟨hit, pt⟩⟩ (Nat.add_lt_add_left hi k0) hne (by simp [hne, hea]) fun x1 h' tk hP ho hst hT hsz hk => ?_
    have ex : x1 = u := by
      have h1 : its.toArray[i]? = some x1 := by
        have h0 : its.toArray[k0 + i - k0]? = some x1 := hP
        rwa [Nat.add_sub_cancel_left] at h0
      have h2 : its.toArray[i]? = some u := by simpa using hu
      rw [h1] at h2
      exact Option.some.inj h2
    subst ex
    have hst : h'.IsTupleIter it a (i + 1) ∧ h'.IsTuple a its.toArray := by
      have := hst.2
      rwa [show k0 + i + 1 - k0 = i + 1 by omega] at this
    refine ⟨_, rfl, wpAny_letOwnedTupleGo_enum (s := { s with heap := h', toks := tk + 1 }) ho fun h'' he' sb => ?_⟩
    have hT2 : h''.get? s.heap.objs.size = some { cls := .type "tuple", data := .seq #[.int ((k0 + i : Nat) : Int) tk, x1] } := (sb.2 _ (Nat.ne_of_gt hel)).trans hT
    have new : ObjOk X.prog X.w (upd H s.heap.objs.size (.tup [.int ((k0 + i : Nat) : Int), x])) h'' s.heap.objs.size (.tup [.int ((k0 + i : Nat) : Int), x]) :=
      ⟨by show 2 ≤ sizeLine; decide, [.int ((k0 + i : Nat) : Int) tk, x1], .cons ⟨_, rfl⟩ (.cons ru .nil), ⟨_, hT2, rfl, _, rfl⟩⟩
    have I1 : Inv X pins σ (upd H s.heap.objs.size (.tup [.int ((k0 + i : Nat) : Int), x])) { s with heap := h'', toks := tk + 1 } :=
      I.turnedNew (ch := [e, it]) (fun b ob hb q => (sb.2 b (fun z => hb (by simp [z]))).trans (hk b ob (fun z => hb (by simp [z])) (fun z => hb (by simp [z])) q)) hf (Nat.le_refl _) new
    refine ⟨.ref s.heap.objs.size, _, I1, rfl, ⟨_, x, rfl, I.hok.fresh (Nat.le_refl _), rfl, fun ys hy => by rw [I.tuple_inj hy hq]; exact hx⟩, ⟨⟨x1, ?_⟩, hst.1.at fun o q => (sb.2 it (Ne.symm hne)).trans q, hne⟩, fun b hb => ?_⟩
    · have e1 : ((k0 + (i + 1) : Nat) : Int) = ((k0 + i : Nat) : Int) + 1 := by omega
      rw [e1]
      exact he'
    · have hb' : b < s.heap.objs.size := by
        have e' : b = e ∨ b = it := by simpa using hb
        rcases e' with z | z
        · rw [z]; exact hel
        · rw [z]; exact hil
      rw [upd_ne (Nat.ne_of_lt hb')]
      exact (hf b hb).1
  done := by
    intro X hP hw hK hc i pins s σ H E I hf st hg
    subst hP hw hK
    obtain ⟨⟨old, he⟩, hit, hne⟩ := st
    obtain ⟨xs, hq, hx⟩ := hg
    obtain ⟨its, rv, p, hz⟩ := I.tuple hq
    obtain ⟨f0, f1, f2, f3, f4, f5⟩ := hf it (by simp)
    have hl := rv.length
    have pt : s.heap.IsTuple a its.toArray := p
    have D : Draws X.prog X.w X.A.in1 it [it, a] i (fun _ _ => False) (fun j h => j = i ∧ h.IsTupleIter it a i ∧ h.IsTuple a its.toArray) :=
      { live := fun _ _ st => let ⟨o, ho, _⟩ := st.2.1; ⟨o, ho⟩
        frame := fun _ _ _ st k => ⟨st.1, st.2.1.at fun o q => k it (by simp) o q, st.2.2.at fun o q => k a (by simp) o q⟩
        item := fun j s Q E hj st _ => absurd hj (by have := st.1; omega)
        done := fun s Q E st hE => wpAny_nextOf_tuple_end (I.ok.hd hc) st.2.1 st.2.2 (by simp; omega) hE }
    exact wpAny_pyNext_enum_endD D he ⟨rfl, hit, pt⟩ fun h' eb => ⟨rfl, I.turned (t' := s.toks) (fun b o hb q => eb b o hb q) f0 f1 f3 f4 f5⟩
  self := fun A i s Q E st h => let ⟨⟨_, he⟩, _⟩ := st; wpAny_pyIter_enum he h
def iEnumS (K : PySem.W.Frag) (k0 : Nat) (ta : TA) : TI := fun σ H R => ta σ H fun vs H1 => ∃ a xs, vs = [.ref a] ∧ SqT K H1 a xs ∧ R (IteS K k0 a) H1
theorem pi_enumS {X : Cx} {e : Expr} {ta : TA} {p pos tpos : Pos} {elts : List Expr} {kk : Nat} {k0 : Nat} {kj : Nat} {kp kp2 : Pos} (h63 : (k0 : Int) < 2 ^ 63) (hg : Gl X "enumerate") (hm : X.mg "enumerate" = none) (ha : PA X [e] ta)
    (hb1 : backTo pos (starEach [e] X.env) = (false, eval e X.env) :: backTo pos (starEach [] X.env) := by rfl) (hb2 : (backTo pos (starEach [e] X.env)).any (·.1) = false := by rfl) (hb3 : (backToKw pos (keywordEach [⟨some "start", .Constant (.int (k0 : Nat)) kj kp, kp2⟩] X.env)).all (·.1.isSome) = true := by rfl) (hb4 : (backToKw pos (keywordEach [⟨some "start", .Constant (.int (k0 : Nat)) kj kp, kp2⟩] X.env)).any (·.1.isNone) = false := by rfl)
    (hb5 : (backToKw pos (keywordEach [⟨some "start", .Constant (.int (k0 : Nat)) kj kp, kp2⟩] X.env)).filterMap (·.1) = [("start" : Str)] := by rfl) :
    PI X (.Tuple elts kk tpos) (.Call (.Name "enumerate" p) [e] [⟨some "start", .Constant (.int (k0 : Nat)) kj kp, kp2⟩] pos) (iEnumS X.K k0 ta) := by
  refine ⟨fun pins s σ H R I h => ?_⟩
  refine wpAny_Call_Name_kw (ld_blt I hg hm boot_enumerate ?_ (by decide) (by decide))
  have hs2 : backTo pos (starEach [e] X.env) = (false, eval e X.env) :: backTo pos (starEach [] X.env) := hb1
  refine callWith_type_kw (thn (ha.run pos pins s σ H _ I h) fun us s1 ⟨vs, H1, I1, r1, q1⟩ => ?_) hs2 hb2 hb3 hb4
  refine thn ((pk_cons (nm := some "start") (kpos := kp2) (pe_int (i := ((k0 : Nat) : Int)) (j := kj) (pos := kp)) pk_nil).run pos pins s1 σ H1 (fun zs H2 => zs = [.int ((k0 : Nat) : Int)] ∧ H2 = H1) I1 ⟨rfl, rfl⟩) fun ws s2 ⟨zs, H2, I2, rz, e1, e2⟩ => ?_
  subst e1 e2
  rw [hb5]
  obtain ⟨a, xs, ex, hq, q⟩ := q1
  subst ex
  cases rz with
  | cons rz1 rz2 =>
    cases rz2
    obtain ⟨tk, rfl⟩ := rz1
    cases r1 with
    | cons r rr =>
      cases rr
      cases r
      obtain ⟨its, rv, p', hz⟩ := I2.tuple hq
      refine enum_begins_start (begins_tuple a its.toArray) (show s2.heap.IsTuple a its.toArray from p') (by omega) h63 fun h' he hit hsz hk => wpAny_pyIter_enum he ?_
      have I3 : Inv X pins σ H2 { s2 with heap := h' } := I2.kept (t' := s2.toks) hk
      refine ⟨s2.heap.objs.size + 1, [s2.heap.objs.size + 1, s2.heap.objs.size], _, _, H2, rfl, I3, turn_enumS k0 a (s2.heap.objs.size + 1) s2.heap.objs.size, ⟨⟨.none, he⟩, ⟨_, hit, rfl, rfl⟩, Nat.succ_ne_self _⟩, fun b hb => ?_, q⟩
      have e' : b = s2.heap.objs.size + 1 ∨ b = s2.heap.objs.size := by simpa using hb
      have hle : s2.heap.objs.size ≤ b := by
        rcases e' with z | z
        · rw [z]; exact Nat.le_add_right _ _
        · rw [z]; exact Nat.le_refl _
      exact I2.fpOk hle (I2.hok.fresh hle)
end L2
namespace ML
open PySem L2
def cntK (k0 n : Nat) : List A := (List.range n).map fun (i : Nat) => A.int ((k0 + i : Nat) : Int)
section
variable {K : PySem.W.Frag} {w : World} {mg : Str → Option Value} {φ0 : List Addr} {H0 : Hp}
theorem sim_enuS {k0 : Nat} {a : Addr} {xs : List V} {ds : List A} (q : StT K φ0 H0 a xs) (qs : RVs K φ0 H0 xs ds) : SimB K w mg true φ0 H0 (IteS K k0 a) (.zipv (cntK k0 ds.length) ds) where
  stop := fun i φ H st e rs h => by
    refine ⟨xs, (q.ext e).sq, ?_⟩
    rw [qs.length]
    unfold Src.at at h
    simp only [Option.some.injEq] at h
    rcases Nat.lt_or_ge i ds.length with c | c
    · have h1 : (cntK k0 ds.length)[i]? = some (.int ((k0 + i : Nat) : Int)) := by simp [cntK, c]
      have h2 : ds[i]? = some ds[i] := List.getElem?_eq_getElem c
      rw [h1, h2] at h
      cases h
    · exact c
  go := fun i φ H st d e rs h => by
    unfold Src.at at h
    simp only [Option.some.injEq] at h
    rcases Nat.lt_or_ge i ds.length with c | c
    · have h1 : (cntK k0 ds.length)[i]? = some (.int ((k0 + i : Nat) : Int)) := by simp [cntK, c]
      have h2 : ds[i]? = some ds[i] := List.getElem?_eq_getElem c
      rw [h1, h2] at h
      cases h
      obtain ⟨v, g2, g3⟩ := qs.get h2
      refine ⟨⟨xs, v, (q.ext e).sq, g2⟩, fun x H' y => ?_⟩
      obtain ⟨T, x', rfl, hT, rfl, f1⟩ := y
      have z1 := (f1 xs (q.ext e).sq).symm.trans g2
      cases z1
      exact ⟨ext_new hT, rs.new hT, T, _, _, rfl, rfl, .inl (.inl upd_same), RVs.ext (ext_new hT) (.cons (.int _) (.cons (g3.ext e) .nil))⟩
    · have h2 : ds[i]? = none := List.getElem?_eq_none c
      rw [h2] at h
      split at h <;> simp_all
end
section
variable {X : Cx} {W : WX} {a : Expr} {ms : MA} {pos : Pos}
def enumS (k0 : Nat) : List A → Store → R Src
  | [.tup xs], st => .ok (.zipv (cntK k0 xs.length) xs) st
  | _, _ => .bad
def mEnumS (k0 : Nat) (ms : MA) : Env → Store → R Src := fun ρ st => (ms ρ st).bind (enumS k0)
theorem mi_enumS {p tpos : Pos} {elts : List Expr} {kk : Nat} {k0 kj : Nat} {kp kp2 : Pos} (hm : X.mg "enumerate" = none) (h63 : (k0 : Int) < 2 ^ 63) (ha : PA X [a] (tA X W ms)) (hg : Gl X "enumerate" := by rfl)
    (hb1 : backTo pos (starEach [a] X.env) = (false, eval a X.env) :: backTo pos (starEach [] X.env) := by rfl) (hb2 : (backTo pos (starEach [a] X.env)).any (·.1) = false := by rfl) (hb3 : (backToKw pos (keywordEach [⟨some "start", .Constant (.int (k0 : Nat)) kj kp, kp2⟩] X.env)).all (·.1.isSome) = true := by rfl) (hb4 : (backToKw pos (keywordEach [⟨some "start", .Constant (.int (k0 : Nat)) kj kp, kp2⟩] X.env)).any (·.1.isNone) = false := by rfl)
    (hb5 : (backToKw pos (keywordEach [⟨some "start", .Constant (.int (k0 : Nat)) kj kp, kp2⟩] X.env)).filterMap (·.1) = [("start" : Str)] := by rfl) :
    PI X (.Tuple elts kk tpos) (.Call (.Name "enumerate" p) [a] [⟨some "start", .Constant (.int (k0 : Nat)) kj kp, kp2⟩] pos) (tIW X W (mEnumS k0 ms)) := PIimp (pi_enumS h63 hg hm ha hb1 hb2 hb3 hb4 hb5) fun σ H Q ⟨φ, ρ, st, rs, re, h⟩ => by
  refine ⟨φ, ρ, st, rs, re, h.seq fun φ1 ds vs H1 st1 e1 rs1 rv1 h1 => ?_⟩
  unfold enumS at h1
  split at h1
  · rename_i xs
    obtain ⟨v, rfl, rr⟩ := one_rv rv1
    cases rr with
    | tup q qs => exact ⟨_, _, rfl, q.sq, h1.ok rs1 (sim_enuS q qs)⟩
  · exact h1.elim
end
end ML
namespace ML
open PySem PySem.Spec L2 PyProof.Rows
def atD {β : Type} (kvs : List (NestedKey × β)) (k : NestedKey) : Option β := (kvs.find? fun kv => decide (kv.1 = k)).map (·.2)
def putD {β : Type} (kvs : List (NestedKey × β)) (k : NestedKey) (v : β) : List (NestedKey × β) :=
  if (atD kvs k).isSome = true then kvs.map (fun kv => if kv.1 = k then (kv.1, v) else kv) else kvs ++ [(k, v)]
def stD (st : Store) (r : Nat) : Option (List (NestedKey × A)) := match st[r]? with
  | some (.oth (.dct kvs)) => some kvs
  | _ => none
def tupK : NestedKey → Bool
  | .tup _ => true
  | _ => false
def fitD (kvs : List (NestedKey × A)) (k : NestedKey) : Bool := decide (k.depth ≤ 8) && (decide (k ≠ .none) && kvs.all fun kv => tupK kv.1 == tupK k)
def stF (st : Store) (r : Nat) : Option (List (NestedKey × A)) := match st[r]? with
  | some (.oth (.frd kvs)) => some kvs
  | _ => none
def askD (d y : A) (st : Store) : Option (Option A) := match d with
  | .ref r => match keyOf y with
    | some k => match stD st r with
      | some kvs => if fitD kvs k = true then some (atD kvs k) else none
      | none => match stF st r with
        | some kvs => if fitD kvs k = true ∧ (tupK k = false ∨ kvs.isEmpty = false) then some (atD kvs k) else none
        | none => none
    | none => none
  | _ => none
theorem stF_eq {st : Store} {r : Nat} {kvs : List (NestedKey × A)} (h : stF st r = some kvs) : st[r]? = some (.oth (.frd kvs)) := by
  unfold stF at h
  split at h
  · cases h
    assumption
  · cases h
theorem stD_eq {st : Store} {r : Nat} {kvs : List (NestedKey × A)} (h : stD st r = some kvs) : st[r]? = some (.oth (.dct kvs)) := by
  unfold stD at h
  split at h
  · cases h
    assumption
  · cases h
theorem atD_nil {β : Type} {k : NestedKey} : atD ([] : List (NestedKey × β)) k = none := rfl
theorem atD_pos {β : Type} {p : NestedKey × β} {r : List (NestedKey × β)} {k : NestedKey} (e : p.1 = k) : atD (p :: r) k = some p.2 := by simp [atD, List.find?_cons, e]
theorem atD_neg {β : Type} {p : NestedKey × β} {r : List (NestedKey × β)} {k : NestedKey} (e : ¬ p.1 = k) : atD (p :: r) k = atD r k := by simp [atD, List.find?_cons, e]
mutual
theorem keyOf_aOf : ∀ {a : A} {k : NestedKey}, keyOf a = some k → aOf k = a
  | .non, k, h => by cases h; rfl
  | .int i, k, h => by cases h; rfl
  | .str x, k, h => by cases h; rfl
  | .bl b, k, h => by cases h
  | .scr b, k, h => by cases h
  | .ref b, k, h => by cases h
  | .tup xs, k, h => by
    unfold keyOf at h
    split at h
    · rename_i ks e
      cases h
      unfold aOf
      rw [keysOf_aOfs e]
    · cases h
theorem keysOf_aOfs : ∀ {xs : List A} {ks : List NestedKey}, keysOf xs = some ks → aOfs ks = xs
  | [], ks, h => by cases h; rfl
  | x :: xs, ks, h => by
    unfold keysOf at h
    split at h
    · rename_i k ks' e1 e2
      cases h
      unfold aOfs
      rw [keyOf_aOf e1, keysOf_aOfs e2]
    · cases h
end
section
variable {X : Cx} {pins : List (Addr × Obj)} {σ : L2.St} {H : Hp} {s : Shared} {φ : List Addr} {st : Store}
mutual
theorem RV.nested (I : Inv X pins σ H s) : ∀ {k : NestedKey} {v : V} {u : Value}, RV X.K φ H v (aOf k) → RelV v u → NestedIs s.heap k u
  | .none, v, u, h, r => by
    unfold aOf at h
    cases h
    obtain rfl : u = Value.none := r
    exact .none
  | .num i, v, u, h, r => by
    unfold aOf at h
    cases h
    obtain ⟨t, rfl⟩ := r
    exact .int i t
  | .text x, v, u, h, r => by
    unfold aOf at h
    cases h
    obtain ⟨t, rfl⟩ := r
    exact .text x t
  | .tup ks, v, u, h, r => by
    unfold aOf at h
    cases h with
    | @tup a xs _ q qs =>
      obtain rfl : u = Value.ref a := r
      obtain ⟨its, rv, ⟨ob, ho, hc, n, hd⟩, _⟩ := I.tuple q.sq
      exact .tup ho hc hd (by rw [List.toList_toArray]; exact RVs.nested I qs rv)
theorem RVs.nested (I : Inv X pins σ H s) : ∀ {ks : List NestedKey} {vs : List V} {us : List Value}, RVs X.K φ H vs (aOfs ks) → Vals vs us → NestedAll s.heap ks us
  | [], vs, us, h, r => by
    unfold aOfs at h
    cases h
    cases r
    exact .nil
  | k :: ks, vs, us, h, r => by
    unfold aOfs at h
    cases h with
    | cons h1 h2 =>
      cases r with
      | cons r1 r2 => exact .cons (RV.nested I h1 r1) (RVs.nested I h2 r2)
end
def RelOA (K : PySem.W.Frag) (φ : List Addr) (H : Hp) : Option V → Option A → Prop
  | some v, some d => RV K φ H v d
  | none, none => True
  | _, _ => False
theorem nk_inj {a b : Key} (h : nk a = nk b) : a = b := by
  cases a <;> cases b <;> simp [nk] at h <;> rw [h]
theorem val_k {k : Key} : ∀ {ks : List (Key × V)} {kvs : List (NestedKey × A)}, kvs.map (·.1) = ks.map (fun x => nk x.1) → RVs X.K φ H (ks.map (·.2)) (kvs.map (·.2)) → RelOA X.K φ H (valV ks k) (atD kvs (nk k))
  | [], [], _, _ => True.intro
  | [], _ :: _, h, _ => by simp at h
  | _ :: _, [], h, _ => by simp at h
  | p :: ks, q :: kvs, h, r => by
    simp only [List.map_cons, List.cons.injEq] at h
    cases r with
    | cons r1 r2 =>
      by_cases e : p.1 = k
      · rw [valV_pos e, atD_pos (by rw [h.1, e])]
        exact r1
      · rw [valV_neg e, atD_neg (by rw [h.1]; exact fun z => e (nk_inj z))]
        exact val_k h.2 r2
theorem putK_k {k : Key} {y : V} {d : A} {ks : List (Key × V)} {kvs : List (NestedKey × A)} (h : kvs.map (·.1) = ks.map (fun x => nk x.1)) (r : RVs X.K φ H (ks.map (·.2)) (kvs.map (·.2))) (rd : RV X.K φ H y d) :
    (putD kvs (nk k) d).map (·.1) = (putK ks k y).map (fun x => nk x.1) ∧ RVs X.K φ H ((putK ks k y).map (·.2)) ((putD kvs (nk k) d).map (·.2)) := by
  have hv := val_k (k := k) h r
  have hany : (ks.any fun kv => decide (kv.1 = k)) = (valV ks k).isSome := valV_any k ks
  have hs : (valV ks k).isSome = (atD kvs (nk k)).isSome := by
    cases e1 : valV ks k <;> cases e2 : atD kvs (nk k) <;> rw [e1, e2] at hv <;> first | rfl | exact hv.elim
  unfold putK putD
  rw [hany, hs]
  split
  · rename_i hh
    clear hh hv hany hs
    induction ks generalizing kvs with
    | nil =>
      cases kvs with
      | nil => exact ⟨rfl, .nil⟩
      | cons q kvs => simp at h
    | cons p ks ih =>
      cases kvs with
      | nil => simp at h
      | cons q kvs =>
        simp only [List.map_cons, List.cons.injEq] at h
        cases r with
        | cons r1 r2 =>
          obtain ⟨i1, i2⟩ := ih h.2 r2
          by_cases e : p.1 = k
          · have e' : q.1 = nk k := by rw [h.1, e]
            simp only [List.map_cons, if_pos e, if_pos e']
            exact ⟨by rw [i1, h.1], .cons rd i2⟩
          · have e' : ¬ q.1 = nk k := by rw [h.1]; exact fun z => e (nk_inj z)
            simp only [List.map_cons, if_neg e, if_neg e']
            exact ⟨by rw [i1, h.1], .cons r1 i2⟩
  · rw [List.map_append, List.map_append, List.map_append, List.map_append, h]
    exact ⟨rfl, r.app (.cons rd .nil)⟩
def NView (X : Cx) (φ : List Addr) (H : Hp) (h : Heap) (a : Addr) (kvs : List (NestedKey × A)) (xs : List (NestedKey × Addr × Value)) : Prop :=
  h.DictOfH (nestedKind X.prog X.w) a xs ∧ (a == sysModules) = false ∧ xs.length ≤ sizeLine ∧ xs.map (·.1) = kvs.map (·.1) ∧ (∀ x ∈ xs, RV X.K φ H (.ref x.2.1) (aOf x.1) ∧ x.1.depth ≤ 8) ∧ ∃ vs, Vals vs (xs.map (·.2.2)) ∧ RVs X.K φ H vs (kvs.map (·.2))
theorem nk_tup (k : Key) : tupK (nk k) = false := by cases k <;> rfl
theorem fit_depth {kvs : List (NestedKey × A)} {k : NestedKey} (h : fitD kvs k = true) : k.depth ≤ 8 ∧ k ≠ .none ∧ ∀ kv ∈ kvs, tupK kv.1 = tupK k := by
  unfold fitD at h
  rw [Bool.and_eq_true, Bool.and_eq_true, List.all_eq_true] at h
  obtain ⟨h1, h2, h3⟩ := h
  exact ⟨of_decide_eq_true h1, of_decide_eq_true h2, fun kv hm => by simpa using h3 kv hm⟩
theorem RS.dct (rs : RS X.K X.w X.mg φ H st) {r : Nat} {a : Addr} {kvs : List (NestedKey × A)} (hp : φ[r]? = some a) (hs : stD st r = some kvs) : RDk X.K φ H a kvs ∨ RDt X.K X.w φ H a kvs := rs.all r a _ hp (stD_eq hs)
theorem dview (rs : RS X.K X.w X.mg φ H st) {r : Nat} {a : Addr} {kvs : List (NestedKey × A)} {k : NestedKey} (hp : φ[r]? = some a) (hs : stD st r = some kvs) (hf : fitD kvs k = true) :
    (∃ (κ : Key) (ks : List (Key × V)), k = nk κ ∧ H a = some (.dK ks) ∧ kvs.map (·.1) = ks.map (fun x => nk x.1) ∧ RVs X.K φ H (ks.map (·.2)) (kvs.map (·.2))) ∨
    (tupK k = true ∧ Mut (H a) ∧ ∀ (pins : List (Addr × Obj)) (σ : L2.St) (s : Shared), Inv X pins σ H s → ∃ xs, NView X φ H s.heap a kvs xs) := by
  obtain ⟨f1, f2, f3⟩ := fit_depth hf
  rcases rs.dct hp hs with ⟨ks, h1, h2, h3⟩ | ⟨xs, vs, h0, h1, h2, h3, h4, h5, h6, h7⟩
  · cases k with
    | none => exact absurd rfl f2
    | num i => exact .inl ⟨.inl i, ks, rfl, h1, h2, h3⟩
    | text x => exact .inl ⟨.inr x, ks, rfl, h1, h2, h3⟩
    | tup l =>
      refine .inr ⟨rfl, by rw [h1]; exact True.intro, fun pins σ s I => ?_⟩
      have hk : kvs = [] := by
        cases kvs with
        | nil => rfl
        | cons p kvs =>
          cases ks with
          | nil => simp at h2
          | cons q ks =>
            simp only [List.map_cons, List.cons.injEq] at h2
            have := f3 p (by simp)
            rw [h2.1, nk_tup] at this
            cases this
      subst hk
      have hks : ks = [] := by
        cases ks with
        | nil => rfl
        | cons q ks => simp at h2
      subst hks
      obtain ⟨z, hd, ws, rel, ob, es, ep, g1, g2, g3, g4⟩ := dk_of I.hok h1
      cases rel
      refine ⟨[], ⟨ob, es, ep, g1, g2, g3, ?_, by simp, by simp⟩, hd, by simp, rfl, by simp, [], .nil, .nil⟩
      obtain ⟨_, g5, _⟩ := g4
      cases hl : es.toList with
      | nil => rfl
      | cons e es' =>
        rw [hl] at g5
        cases g5
  · have ht : tupK k = true := by
      cases kvs with
      | nil => exact absurd rfl h0
      | cons p kvs =>
        cases xs with
        | nil => simp at h4
        | cons x xs =>
          have h8 := (h5 x (by simp)).1
          simp only [List.map_cons, List.cons.injEq] at h4
          have := f3 p (by simp)
          rw [← h4.1] at this
          rw [← this]
          cases e : x.1 with
          | tup l => rfl
          | _ => rw [e] at h8; unfold aOf at h8; cases h8
    refine .inr ⟨ht, by rw [h1]; exact True.intro, fun pins σ s I => ⟨xs, ?_, h2, h3, h4, h5, vs, h6, h7⟩⟩
    obtain ⟨⟨ob, es, ep, g1, g2, g3, g4, g5⟩, _, _⟩ := I.hok a _ h1
    exact ⟨ob, es, ep, g1, g2, g3, g4, fun x hx => ⟨RV.nested I (h5 x hx).1 rfl, (h5 x hx).2⟩, g5⟩
theorem RDz.tup {od : Obj} {a : Addr} {kvs : List (NestedKey × A)} {k : NestedKey} (g : RDz X.K X.w φ H od a kvs) (f3 : ∀ kv ∈ kvs, tupK kv.1 = tupK k) : tupK k = true := by
  obtain ⟨xs, vs, h0, h1, h2, h3, h4, h5, h6, h7⟩ := g
  cases kvs with
  | nil => exact absurd rfl h0
  | cons p kvs =>
    cases xs with
    | nil => simp at h4
    | cons x xs =>
      have h8 := (h5 x (by simp)).1
      simp only [List.map_cons, List.cons.injEq] at h4
      have := f3 p (by simp)
      rw [← h4.1] at this
      rw [← this]
      cases e : x.1 with
      | tup l => rfl
      | _ => rw [e] at h8; unfold aOf at h8; cases h8
theorem RDz.view {od : Obj} {a : Addr} {kvs : List (NestedKey × A)} (g : RDz X.K X.w φ H od a kvs) (I : Inv X pins σ H s) : ∃ xs, NView X φ H s.heap a kvs xs := by
  obtain ⟨xs, vs, h0, h1, h2, h3, h4, h5, h6, h7⟩ := g
  obtain ⟨_, ⟨ob, es, ep, g1, g2, g3, g4, g5⟩, _, _⟩ := I.hok a _ h1
  exact ⟨xs, ⟨ob, es, ep, g1, g2, g3, g4, fun x hx => ⟨RV.nested I (h5 x hx).1 rfl, (h5 x hx).2⟩, g5⟩, h2, h3, h4, h5, vs, h6, h7⟩
theorem val_n {k : NestedKey} : ∀ {xs : List (NestedKey × Addr × Value)} {kvs : List (NestedKey × A)} {vs : List V}, xs.map (·.1) = kvs.map (·.1) → Vals vs (xs.map (·.2.2)) → RVs X.K φ H vs (kvs.map (·.2)) → ∃ ov, RelO ov ((atKey xs k).map (·.2)) ∧ RelOA X.K φ H ov (atD kvs k)
  | [], [], _, _, _, _ => ⟨none, True.intro, True.intro⟩
  | [], _ :: _, _, h, _, _ => by simp at h
  | _ :: _, [], _, h, _, _ => by simp at h
  | x :: xs, q :: kvs, vs, h, r1, r2 => by
    simp only [List.map_cons, List.cons.injEq] at h
    cases r1 with
    | cons a1 b1 =>
      cases r2 with
      | cons a2 b2 =>
        by_cases e : x.1 = k
        · refine ⟨some _, ?_, by rw [atD_pos (by rw [← h.1, e])]; exact a2⟩
          have : atKey (x :: xs) k = some x.2 := by simp [atKey, e]
          rw [this]
          exact a1
        · obtain ⟨ov, o1, o2⟩ := val_n (k := k) h.2 b1 b2
          refine ⟨ov, ?_, by rw [atD_neg (by rw [← h.1]; exact e)]; exact o2⟩
          have : atKey (x :: xs) k = atKey xs k := by simp [atKey, e]
          rw [this]
          exact o1
theorem ask_run {x y : V} {u r : Value} {d b : A} {o : Option A} (I : Inv X pins σ H s) (rs : RS X.K X.w X.mg φ H st) (rx : RV X.K φ H x d) (ry : RV X.K φ H y b) (h : askD d b st = some o) (ru : RelV x u) (rr : RelV y r) :
    ∃ a, u = .ref a ∧ ((∃ ov, DGet H a y ov ∧ RelOA X.K φ H ov o) ∨ (∃ (k : NestedKey) (c : Addr) (xs : List (NestedKey × Addr × Value)), r = .ref c ∧ (nestedKind X.prog X.w).is s.heap k c ∧ s.heap.DictOfH (nestedKind X.prog X.w) a xs ∧ (a == sysModules) = false ∧ ∃ ov, RelO ov ((atKey xs k).map (·.2)) ∧ RelOA X.K φ H ov o)) := by
  unfold askD at h
  cases rx with
  | @ref a i q =>
    obtain rfl : u = Value.ref a := ru
    refine ⟨a, rfl, ?_⟩
    simp only at h
    split at h
    · rename_i k e2
      have hb := keyOf_aOf e2
      subst hb
      split at h
      rotate_left
      · split at h
        · rename_i kvs e1
          split at h
          · rename_i hf
            cases h
            obtain ⟨f1, f2, f3⟩ := fit_depth hf.1
            rcases rs.all i a _ q (stF_eq e1) with ⟨od, ks, g1, g2, g3⟩ | ⟨od, g⟩
            rotate_left
            · have ht := g.tup f3
              obtain ⟨xs, v1, v2, v3, v4, v5, vs, v6, v7⟩ := g.view I
              have hn := RV.nested I ry rr
              cases k with
              | tup l =>
                cases hn with
                | @tup c ob its n _ h1 h2 h3 h4 => exact .inr ⟨.tup l, c, xs, rfl, ⟨.tup h1 h2 h3 h4, f1⟩, v1, v2, val_n v4 v6 v7⟩
              | _ => cases ht
            have fin : ∀ κ : Key, k = nk κ → ∃ ov, DGet H a y ov ∧ RelOA X.K φ H ov (atD kvs k) := fun κ hk => by
              subst hk
              have hy : y = kV κ := by
                cases κ with
                | inl i => unfold nk aOf at ry; cases ry; rfl
                | inr i => unfold nk aOf at ry; cases ry; rfl
              subst hy
              exact ⟨_, .inl ⟨ks, κ, .inr ⟨od, g1⟩, rfl, rfl⟩, val_k g2 g3⟩
            cases k with
            | none => exact absurd rfl f2
            | num i => exact .inl (fin (.inl i) rfl)
            | text x => exact .inl (fin (.inr x) rfl)
            | tup l =>
              rcases hf.2 with z | z
              · cases z
              · cases kvs with
                | nil => cases z
                | cons p kvs =>
                  cases ks with
                  | nil => simp at g2
                  | cons y ks =>
                    simp only [List.map_cons, List.cons.injEq] at g2
                    have := f3 p (by simp)
                    rw [g2.1, nk_tup] at this
                    cases this
          · cases h
        · cases h
      rename_i kvs e1
      split at h
      · rename_i hf
        cases h
        rcases dview rs q e1 hf with ⟨κ, ks, rfl, g1, g2, g3⟩ | ⟨g0, _, g⟩
        · have hy : y = kV κ := by
            cases κ with
            | inl i => unfold nk aOf at ry; cases ry; rfl
            | inr i => unfold nk aOf at ry; cases ry; rfl
          subst hy
          exact .inl ⟨_, .k g1, val_k g2 g3⟩
        · obtain ⟨xs, v1, v2, v3, v4, v5, vs, v6, v7⟩ := g pins σ s I
          have hn := RV.nested I ry rr
          cases k with
          | tup l =>
            cases hn with
            | @tup c ob its n _ h1 h2 h3 h4 =>
              exact .inr ⟨.tup l, c, xs, rfl, ⟨.tup h1 h2 h3 h4, (fit_depth hf).1⟩, v1, v2, val_n v4 v6 v7⟩
          | _ => cases g0
      · cases h
    · cases h
  | _ => cases h
theorem RS.allocO (r : RS X.K X.w X.mg φ H st) {p : Addr} {o : HO} {u : Ob2} (h : H p = none) (q : RO2 X.K X.w X.mg (φ ++ [p]) (upd H p o) p u) : RS X.K X.w X.mg (φ ++ [p]) (upd H p o) (st ++ [.oth u]) := by
  have e := ext_alloc (o := o) r h
  refine ⟨by simp [r.len], ?_, fun i a o h1 h2 => ?_⟩
  · rw [List.nodup_append]
    refine ⟨r.nd, by simp, fun a ha b hb z => ?_⟩
    have : b = p := by simpa using hb
    subst this
    subst z
    exact r.notin h ha
  · by_cases hi : i < φ.length
    · rw [List.getElem?_append_left hi] at h1
      rw [List.getElem?_append_left (by rw [← r.len]; exact hi)] at h2
      have h3 := r.all i a o h1 h2
      have na : a ≠ p := fun z => r.notin h (z ▸ List.mem_of_getElem? h1)
      cases o with
      | lst ds' =>
        obtain ⟨ys, y1, y2⟩ := h3
        exact ⟨ys, by rw [upd_ne na]; exact y1, y2.ext e⟩
      | oth u => exact RO2.ext e (upd_ne na) h3
    · have hi2 : i = φ.length := by
        have := (List.getElem?_eq_some_iff.mp h1).1
        rw [List.length_append, List.length_singleton] at this
        omega
      subst hi2
      rw [List.getElem?_append_right (Nat.le_refl _)] at h1
      rw [List.getElem?_append_right (by rw [r.len]; exact Nat.le_refl _)] at h2
      simp at h1
      rw [r.len] at h2
      simp at h2
      subst h1
      subst h2
      exact q
theorem ext_write {p : Addr} {i : Nat} {o' : HO} (hp : φ[i]? = some p) (hn : ∀ od u, H p ≠ some (.frz od u)) : Ext φ H φ (upd H p o') := ⟨⟨[], by simp⟩, fun a u n q => ⟨by rw [upd_ne (show a ≠ p from fun z => n (by rw [z]; exact List.mem_of_getElem? hp))]; exact q, n⟩, fun a o u q => by
  rw [upd_ne (show a ≠ p from fun z => hn o u (by rw [← z]; exact q))]
  exact q⟩
theorem RS.writeO (r : RS X.K X.w X.mg φ H st) {i : Nat} {p : Addr} {o : Ob} {o' : HO} {u : Ob2} (hp : φ[i]? = some p) (ho : st[i]? = some o) (hn : ∀ od u, H p ≠ some (.frz od u)) (q : RO2 X.K X.w X.mg φ (upd H p o') p u) : RS X.K X.w X.mg φ (upd H p o') (st.set i (.oth u)) := by
  have hm : p ∈ φ := List.mem_of_getElem? hp
  have e : Ext φ H φ (upd H p o') := ext_write hp hn
  refine ⟨by rw [List.length_set]; exact r.len, r.nd, fun j a v h1 h2 => ?_⟩
  by_cases hj : i = j
  · subst hj
    rw [hp] at h1
    cases h1
    rw [List.getElem?_set_self (List.getElem?_eq_some_iff.mp ho).1] at h2
    cases h2
    exact q
  · rw [List.getElem?_set_ne hj] at h2
    have h3 := r.all j a v h1 h2
    have na : a ≠ p := fun z => by
      subst z
      obtain ⟨l1, e1⟩ := List.getElem?_eq_some_iff.mp hp
      obtain ⟨l2, e2⟩ := List.getElem?_eq_some_iff.mp h1
      exact hj ((List.getElem_inj r.nd).mp (e1.trans e2.symm))
    cases v with
    | lst ds' =>
      obtain ⟨zs, y1, y2⟩ := h3
      exact ⟨zs, by rw [upd_ne na]; exact y1, y2.ext e⟩
    | oth u => exact RO2.ext e (upd_ne na) h3
def mDNew : MX := fun _ st => .ok (.ref st.length) (st ++ [.oth (.dct [])])
theorem me_dnew {pos : Pos} {W : WX} : PE X (.Dict [] [] pos) (tE X W mDNew) := pe_dnewK.imp fun σ H Q ⟨φ, ρ, st, rs, re, h⟩ => fun p hp => by
  exact h _ _ _ (ext_alloc rs hp) (rs.allocO hp (.inl ⟨[], upd_same, rfl, .nil⟩)) (.newLst rs)
def putS (d b v : A) (st : Store) : Option Store := match d with
  | .ref r => match stD st r, keyOf b with
    | some kvs, some k => if fitD kvs k = true ∧ kvs.length < sizeLine then some (st.set r (.oth (.dct (putD kvs k v)))) else none
    | _, _ => none
  | _ => none
def mDPut (mo mi ma : MX) : MS := fun ρ st => (ma ρ st).toS ρ fun v st1 => (mo ρ st1).toS ρ fun d st2 => (mi ρ st2).toS ρ fun b st3 => match putS d b v st3 with
  | some st4 => .nx ρ st4
  | none => .bad
theorem putD_len {kvs : List (NestedKey × A)} {k : NestedKey} {v : A} : (putD kvs k v).length ≤ kvs.length + 1 := by
  unfold putD
  split <;> simp
theorem putD_ne {kvs : List (NestedKey × A)} {k : NestedKey} {v : A} : putD kvs k v ≠ [] := by
  unfold putD
  split
  · rename_i h
    cases kvs with
    | nil => simp [atD] at h
    | cons p r => simp
  · simp
theorem atKey_atD : ∀ {xs : List (NestedKey × Addr × Value)} {kvs : List (NestedKey × A)} {k : NestedKey}, xs.map (·.1) = kvs.map (·.1) → (atKey xs k).isSome = (atD kvs k).isSome
  | [], [], _, _ => rfl
  | [], _ :: _, _, h => by simp at h
  | _ :: _, [], _, h => by simp at h
  | x :: xs, q :: kvs, k, h => by
    simp only [List.map_cons, List.cons.injEq] at h
    have ih := atKey_atD (k := k) h.2
    by_cases e : x.1 = k
    · rw [atD_pos (by rw [← h.1, e])]
      simp [atKey, e]
    · rw [atD_neg (by rw [← h.1]; exact e)]
      have : atKey (x :: xs) k = atKey xs k := by simp [atKey, e]
      rw [this]
      exact ih
theorem put_n {k : NestedKey} {c : Addr} {y : V} {d : A} {r : Value} {xs : List (NestedKey × Addr × Value)} {kvs : List (NestedKey × A)} {vs : List V} (h : xs.map (·.1) = kvs.map (·.1)) (hv : Vals vs (xs.map (·.2.2))) (rv : RVs X.K φ H vs (kvs.map (·.2))) (ry : RelV y r) (rd : RV X.K φ H y d) :
    (storedH xs k c r).map (·.1) = (putD kvs k d).map (·.1) ∧ ∃ vs', Vals vs' ((storedH xs k c r).map (·.2.2)) ∧ RVs X.K φ H vs' ((putD kvs k d).map (·.2)) := by
  unfold storedH putD
  rw [atKey_atD h]
  split
  · rename_i hh
    clear hh
    induction xs generalizing kvs vs with
    | nil =>
      cases kvs with
      | nil => exact ⟨rfl, vs, hv, rv⟩
      | cons q kvs => simp at h
    | cons x xs ih =>
      cases kvs with
      | nil => simp at h
      | cons q kvs =>
        simp only [List.map_cons, List.cons.injEq] at h
        cases hv with
        | @cons v0 _ vs0 _ a1 b1 =>
          cases rv with
          | cons a2 b2 =>
            obtain ⟨i1, vs', i2, i3⟩ := ih h.2 b1 b2
            by_cases e : x.1 = k
            · have e' : q.1 = k := by rw [← h.1, e]
              simp only [List.map_cons, if_pos e', putAt, if_pos e]
              exact ⟨by rw [← h.1]; exact congrArg _ i1, y :: vs', .cons ry i2, .cons rd i3⟩
            · have e' : ¬ q.1 = k := by rw [← h.1]; exact e
              simp only [List.map_cons, if_neg e', putAt, if_neg e]
              exact ⟨by rw [h.1]; exact congrArg _ i1, v0 :: vs', .cons a1 i2, .cons a2 i3⟩
  · refine ⟨by rw [List.map_append, List.map_append, h]; rfl, vs ++ [y], ?_, ?_⟩
    · rw [List.map_append]
      exact Vals.append hv (.cons ry .nil)
    · rw [List.map_append]
      exact rv.app (.cons rd .nil)
theorem me_dput {o i e : Expr} {mo mi ma : MX} {p2 pos : Pos} {W : WX} (hu : X.A.units + 64 < cLine) (ho : PE X o (tE X W mo)) (hi : PE X i (tE X W mi)) (he : PE X e (tE X W ma)) (hs : swapsWith e (some (.Subscript o i p2)) pos.line X.env = pure false := by rfl) :
    PS X (.Assign [.Subscript o i p2] e pos) (tS X W (mDPut mo mi ma)) := by
  refine ⟨fun pins s σ H D I ⟨φ, ρ, st, rs, re, h⟩ => ?_⟩
  refine wpAny_Assign_Subscript (thn (he.run pins s σ H (fun v H1 => tE X W mo σ H1 fun x H2 => tE X W mi σ H2 fun y H3 => ∃ φ st d b z st4 ρ, RS X.K X.w X.mg φ H3 st ∧ RE X.K φ H3 σ ρ ∧ RV X.K φ H3 x d ∧ RV X.K φ H3 y b ∧ RV X.K φ H3 v z ∧ putS d b z st = some st4 ∧ ∀ H', Ext φ H3 φ H' → RS X.K X.w X.mg φ H' st4 → D.nx σ H') I ⟨φ, ρ, st, rs, re, h.exp re fun φ1 z v H1 st1 e1 rs1 rv1 h1 => ⟨φ1, ρ, st1, rs1, re.ext e1, h1.exp (re.ext e1) fun φ2 d x H2 st2 e2 rs2 rv2 h2 => ⟨φ2, ρ, st2, rs2, (re.ext e1).ext e2, h2.exp ((re.ext e1).ext e2) fun φ3 b y H3 st3 e3 rs3 rv3 h3 => ?_⟩⟩⟩) fun r s1 ⟨v, H1, I1, rv, q1⟩ => thn (ho.run pins s1 σ H1 _ I1 q1) fun u s2 ⟨x, H2, I2, rx, q2⟩ => thn (hi.run pins s2 σ H2 _ I2 q2) fun iv s3 ⟨y, H3, I3, ry, φ3, st3, d, b, z, st4, ρ3, rs3, re3, rd, rb, rz, hp, q3⟩ => ?_) hs
  · cases q : putS d b z st3 with
    | none => simp only [q] at h3; exact h3.elim
    | some st4 =>
      simp only [q] at h3
      exact ⟨φ3, st3, d, b, z, st4, ρ, rs3, ((re.ext e1).ext e2).ext e3, rv2.ext e3, rv3, (rv1.ext e2).ext e3, q, fun H' ex rs' => h3 φ3 σ H' ex rs' ((((re.ext e1).ext e2).ext e3).ext ex)⟩
  · unfold putS at hp
    cases rd with
    | @ref a j qa =>
      obtain rfl : u = Value.ref a := rx
      simp only at hp
      split at hp
      · rename_i kvs k e1 e2
        split at hp
        · rename_i hf
          cases hp
          have hb := keyOf_aOf e2
          subst hb
          rcases dview rs3 qa e1 hf.1 with ⟨κ, ks, rfl, g1, g2, g3⟩ | ⟨g0, gm, g⟩
          · have hy : y = kV κ := by
              cases κ with
              | inl i => unfold nk aOf at rb; cases rb; rfl
              | inr i => unfold nk aOf at rb; cases rb; rfl
            subst hy
            have hlen : kvs.length = ks.length := by
              have := congrArg List.length g2
              simpa using this
            have hnf : ∀ od u, H3 a ≠ some (.frz od u) := fun od u z => by rw [g1] at z; cases z
            refine d_setItem (by omega) I3 (.k g1 (by omega)) ry rv fun s' I' => ⟨σ, _, I', q3 _ (ext_write qa hnf) ?_⟩
            have ex : Ext φ3 H3 φ3 (upd H3 a (.dK (putK ks κ v))) := ext_write qa hnf
            obtain ⟨p1, p2⟩ := putK_k (k := κ) (g2) (g3.ext ex) (rz.ext ex)
            exact rs3.writeO qa (stD_eq e1) hnf (.inl ⟨_, upd_same, p1, p2⟩)
          · obtain ⟨xs, v1, v2, v3, v4, v5, vs, v6, v7⟩ := g pins σ s3 I3
            have hn := RV.nested I3 rb ry
            have hdep := (fit_depth hf.1).1
            cases k with
            | tup l =>
              cases hn with
              | @tup c ob its n _ h1 h2 h3 h4 =>
                have hlen : xs.length = kvs.length := by
                  have := congrArg List.length v4
                  simpa using this
                refine wpAny_setItem_heap (knd := nestedKind X.prog X.w) (k := .tup l) (hsz := v3) (by show X.A.units + 1 + 8 < _; omega) ⟨.tup h1 h2 h3 h4, hdep⟩ v1 fun h' dd' hsb => ?_
                obtain ⟨q, es, ep, hq, w2, w3, w4, _, w5⟩ := dd'
                obtain ⟨p1, vs', p2, p3⟩ := put_n (k := .tup l) (c := c) v4 v6 v7 rv rz
                have ex : Ext φ3 H3 φ3 (upd H3 a (.ext (DRaw X.w a (storedH xs (.tup l) c r)))) := ext_write qa (fun od u z => by rw [z] at gm; exact gm)
                refine ⟨σ, upd H3 a (.ext (DRaw X.w a (storedH xs (.tup l) c r))), d_write I3 gm hsb ⟨q, hq⟩ ⟨⟨q, es, ep, hq, w2, w3, w4, w5⟩, ⟨q, hq⟩, fun h1 h2 ⟨o1, es1, ep1, c1, c2⟩ k1 => ⟨o1, es1, ep1, k1 _ c1, c2⟩⟩, q3 _ ex (rs3.writeO qa (stD_eq e1) (fun od u z => by rw [z] at gm; exact gm) (.inr ⟨_, vs', putD_ne, upd_same, v2, ?_, p1, ?_, p2, p3.ext ex⟩))⟩
                · have e5 := congrArg List.length p1
                  rw [List.length_map, List.length_map] at e5
                  have := putD_len (kvs := kvs) (k := .tup l) (v := z)
                  omega
                · intro x hx
                  unfold storedH at hx
                  split at hx
                  · rw [List.mem_map] at hx
                    obtain ⟨x0, m0, rfl⟩ := hx
                    have v5' := v5 x0 m0
                    unfold putAt
                    split <;> exact ⟨v5'.1.ext ex, v5'.2⟩
                  · rcases List.mem_append.mp hx with hx | hx
                    · exact ⟨(v5 x hx).1.ext ex, (v5 x hx).2⟩
                    · simp at hx
                      subst hx
                      obtain rfl : y = .ref c := by
                        unfold aOf at rb
                        cases rb with
                        | tup q1 q2 => cases ry; rfl
                      exact ⟨rb.ext ex, hdep⟩
            | _ => cases g0
        · cases hp
      · cases hp
    | _ => cases hp
def isDA (d : A) (st : Store) : Bool := match d with
  | .ref r => (stD st r).isSome
  | _ => false
def mDGet1 (mo mi : MX) : MX := fun ρ st => (mo ρ st).bind fun d st1 => if isDA d st1 = true then (mi ρ st1).bind fun b st2 => match askD d b st2 with
  | some o => .ok (o.getD .non) st2
  | none => .bad else .bad
theorem isDA_ok {d : A} {x : V} {u : Value} (I : Inv X pins σ H s) (rs : RS X.K X.w X.mg φ H st) (rx : RV X.K φ H x d) (h : isDA d st = true) (ru : RelV x u) : s.TypeIs u "dict" ∧ (∀ b, u = .ref b → ∃ ob, s.heap.get? b = some ob ∧ ob.dict = none) := by
  unfold isDA at h
  cases rx with
  | @ref a r q =>
    obtain rfl : u = Value.ref a := ru
    simp only at h
    obtain ⟨kvs, e⟩ := Option.isSome_iff_exists.mp h
    rcases rs.dct q e with ⟨ks, h1, h2, h3⟩ | ⟨xs, vs, h0, h1, h2, h3, h4, h5, h6, h7⟩
    · obtain ⟨t1, t2, _⟩ := isD_at I (.inl ⟨_, .inl h1⟩)
      exact ⟨t1, t2⟩
    · obtain ⟨⟨ob, es, ep, g1, g2, g3, g4, g5⟩, _, _⟩ := I.hok a _ h1
      exact ⟨⟨ob, g1, g2.1⟩, fun b e => by cases e; exact ⟨ob, g1, g2.2.1⟩⟩
  | _ => cases h
theorem me_dget1 {o e : Expr} {apos cpos : Pos} {mo mi : MX} {W : WX} (hu : X.A.units + 64 < cLine) (ho : PE X o (tE X W mo)) (he : PE X e (tE X W mi)) (m : M1 X o "get" apos e cpos) : PE X (.Call (.Attribute o "get" apos) [e] [] cpos) (tE X W (mDGet1 mo mi)) := by
  refine ⟨fun pins s σ H Q I ⟨φ, ρ, st, rs, re, h⟩ => ?_⟩
  refine wpAny_Call_method m.base m.few m.line PySem.F.plainAttrs_dict PySem.F.slot_dict_get PySem.F.type_dict_get (thn (ho.run pins s σ H (fun x H1 => (∃ φ st d, RS X.K X.w X.mg φ H1 st ∧ RV X.K φ H1 x d ∧ isDA d st = true) ∧ tE X W mi σ H1 fun y H2 => ∃ φ st d b o, RS X.K X.w X.mg φ H2 st ∧ RV X.K φ H2 x d ∧ RV X.K φ H2 y b ∧ askD d b st = some o ∧ ∀ w, RV X.K φ H2 w (o.getD .non) → Q w H2) I ⟨φ, ρ, st, rs, re, h.seq fun φ1 d x H1 st1 e1 rs1 rv1 h1 => ?_⟩) fun u s1 ⟨x, H1, I1, rx, ⟨φ1, st1, d1, rs1, rd1, hd1⟩, q1⟩ => ?_)
  · by_cases c : isDA d st1 = true
    · rw [if_pos c] at h1
      refine ⟨⟨φ1, st1, d, rs1, rv1, c⟩, φ1, ρ, st1, rs1, re.ext e1, h1.seq fun φ2 b y H2 st2 e2 rs2 rv2 h2 => ?_⟩
      cases e : askD d b st2 with
      | none => rw [e] at h2; exact h2.elim
      | some o =>
        rw [e] at h2
        exact ⟨φ2, st2, d, b, o, rs2, rv1.ext e2, rv2, e, fun w rw' => h2.ok rs2 rw'⟩
    · rw [if_neg c] at h1
      exact h1.elim
  · obtain ⟨t1, t2⟩ := isDA_ok I1 rs1 rd1 hd1 rx
    refine ⟨t1, t2, ?_⟩
    rw [m.trees]
    refine Calls.callWith_builtin rfl (Calls.evalArgs_plain (Calls.spliced_cons (thn (he.run pins s1 σ H1 _ I1 q1) fun iv s2 ⟨y, H2, I2, ry, φ2, st2, d, b, o, rs2, rd, rb, hv, q2⟩ => Calls.spliced_nil ?_)))
    obtain ⟨a, rfl, ⟨ov, g, r⟩ | ⟨k, c, xs, rfl, g1, g2, g3, ov, r1, r2⟩⟩ := ask_run I2 rs2 rd rb hv rx ry
    · refine d_get1 (by omega) I2 g ry fun w' s3 I3 rw' => ⟨_, H2, I3, rw', q2 _ ?_⟩
      cases ov <;> cases o <;> first | exact r.elim | exact .non | exact r
    · refine call_meetsIn PySem.F.slot_dict_get g2.typeIs PySem.F.entry_dict_get (PySem.F.args_dict_get_2 _ _) (meetsH_dict_get (nestedKind X.prog X.w) a c g3) ⟨by show X.A.in1.units + 8 < _; show X.A.units + 1 + 8 < _; omega, k, xs, g1, g2, ov.getD .non, H2, I2.tok _, r1.getD rfl, q2 _ ?_⟩
      cases ov <;> cases o <;> first | exact r2.elim | exact .non | exact r2
end
end ML
namespace ML
open PySem PySem.Spec L2 PyProof.Rows
def clsAt (s : Stmt) (j : Nat) : Stmt := match s with
  | .ClassDef _ _ _ body .. => body.getD j (.Pass ⟨0, 0, 0, 0⟩)
  | s => s
def insA (cls : Str) (x : A) (st : Store) : Option (List (Str × A)) := match x with
  | .ref r => match st[r]? with
    | some (.oth (.ins c fs)) => if c = cls then some fs else none
    | _ => none
  | _ => none
def putFA (f : Str) (v : A) : List (Str × A) → List (Str × A)
  | [] => [(f, v)]
  | (g, x) :: r => if g = f then (g, v) :: r else (g, x) :: putFA f v r
def setIA (cls : Str) (f : Str) (v : A) (x : A) (st : Store) : Option Store := match x with
  | .ref r => match insA cls (.ref r) st with
    | some fs => if fs.length < 1000 then some (st.set r (.oth (.ins cls (putFA f v fs)))) else none
    | none => none
  | _ => none
def mFld (cls f : Str) (ma : MX) : MX := fun ρ st => (ma ρ st).bind fun x st1 => match insA cls x st1 with
  | some fs => match fs.lookup f with
    | some v => .ok v st1
    | none => .bad
  | none => .bad
def mPutF (cls f : Str) (mo ma : MX) : MS := fun ρ st => (ma ρ st).toS ρ fun v st1 => (mo ρ st1).toS ρ fun x st2 => match setIA cls f v x st2 with
  | some st3 => .nx ρ st3
  | none => .bad
def mMeth (cls m : Str) (mf : MF) (mo : MX) (ms : MA) : MX := fun ρ st => (mo ρ st).bind fun x st1 => match insA cls x st1 with
  | some fs => if fs.lookup m = none then (ms ρ st1).bind fun vs st2 => mf (x :: vs) st2 else .bad
  | none => .bad
def mMake (cls : Str) (mf : MF) (ms : MA) : MX := fun ρ st => (ms ρ st).bind fun vs st1 => (mf (.ref st1.length :: vs) (st1 ++ [.oth (.ins cls [])])).bind fun v st2 => match v with
  | .non => .ok (.ref st1.length) st2
  | _ => .bad
section
variable {K : PySem.W.Frag} {w : World} {mg : Str → Option Value} {φ : List Addr} {H : Hp} {st : Store}
theorem insA_eq {cls : Str} {r : Nat} {fs : List (Str × A)} (h : insA cls (.ref r) st = some fs) : st[r]? = some (.oth (.ins cls fs)) := by
  unfold insA at h
  simp only at h
  split at h
  · split at h
    · rename_i e c
      cases h
      rw [← c]
      assumption
    · cases h
  · cases h
theorem ins_at {cls : Str} {x : V} {a : A} {fs : List (Str × A)} (rs : RS K w mg φ H st) (rx : RV K φ H x a) (h : insA cls a st = some fs) :
    ∃ (r : Nat) (p C dx : Addr) (vs : List V), a = .ref r ∧ x = .ref p ∧ φ[r]? = some p ∧ st[r]? = some (.oth (.ins cls fs)) ∧ mg cls = some (.ref C) ∧ H p = some (.ins C dx ((fs.map (·.1)).zip vs)) ∧ H dx = some (.own p) ∧ dx ∉ φ ∧ RVs K φ H vs (fs.map (·.2)) := by
  cases rx with
  | @ref p r q =>
    have e := insA_eq h
    obtain ⟨C, dx, vs, h1, h2, h3, h4, h5⟩ := rs.all r p _ q e
    exact ⟨r, p, C, dx, vs, rfl, rfl, q, e, h1, h2, h3, h4, h5⟩
  | _ => cases h
theorem look_z {f : Str} {v : A} : ∀ {fs : List (Str × A)} {vs : List V}, RVs K φ H vs (fs.map (·.2)) → fs.lookup f = some v → ∃ u, ((fs.map (·.1)).zip vs).lookup f = some u ∧ RV K φ H u v
  | [], _, _, h => by simp at h
  | (g, x) :: fs, vs, r, h => by
    cases r with
    | @cons u _ us _ r1 r2 =>
      simp only [List.map_cons, List.zip_cons_cons, List.lookup_cons] at h ⊢
      cases c : f == g with
      | true =>
        rw [c] at h
        simp only at h
        cases h
        exact ⟨u, rfl, r1⟩
      | false =>
        rw [c] at h
        exact look_z r2 h
theorem look_none {f : Str} : ∀ {fs : List (Str × A)} {vs : List V}, vs.length = fs.length → fs.lookup f = none → ((fs.map (·.1)).zip vs).lookup f = none
  | [], _, _, _ => by simp
  | (g, x) :: fs, [], h, _ => by simp at h
  | (g, x) :: fs, u :: us, h, h2 => by
    simp only [List.map_cons, List.zip_cons_cons, List.lookup_cons] at h2 ⊢
    cases c : f == g with
    | true =>
      rw [c] at h2
      cases h2
    | false =>
      rw [c] at h2
      exact look_none (by simpa using h) h2
theorem put_z {f : Str} {u : V} {v : A} (ru : RV K φ H u v) : ∀ {fs : List (Str × A)} {vs : List V}, RVs K φ H vs (fs.map (·.2)) → ∃ us, putF f u ((fs.map (·.1)).zip vs) = ((putFA f v fs).map (·.1)).zip us ∧ RVs K φ H us ((putFA f v fs).map (·.2))
  | [], vs, r => by
    cases r
    exact ⟨[u], rfl, .cons ru .nil⟩
  | (g, x) :: fs, vs, r => by
    cases r with
    | @cons y ys _ _ r1 r2 =>
      simp only [List.map_cons, List.zip_cons_cons, putF, putFA]
      by_cases c : g = f
      · rw [if_pos c, if_pos c]
        exact ⟨u :: ys, rfl, .cons ru r2⟩
      · rw [if_neg c, if_neg c]
        obtain ⟨us, e1, e2⟩ := put_z (f := f) ru r2
        exact ⟨y :: us, by rw [e1]; rfl, .cons r1 e2⟩
end
structure FldF (K : PySem.W.Frag) (mg : Str → Option Value) (cls f : Str) : Prop where
  ex : ∃ C, mg cls = some (.ref C) ∧ L2.Cls K C ∧ NoAttr K C f
section
variable {X : Cx} {W : WX} {o e : Expr} {f cls : Str} {pos pos' : Pos} {mo ma : MX}
theorem me_fld (F : FldF X.K X.mg cls f) (he : PE X e (tE X W ma)) (hb : attributeBase e f X.env (eval e X.env) = eval e X.env := by rfl) : PE X (.Attribute e f pos) (tE X W (mFld cls f ma)) := (pe_fld he hb).imp fun σ H Q ⟨φ, ρ, st, rs, re, h⟩ => by
  obtain ⟨C, hC, hc, hn⟩ := F.ex
  refine ⟨φ, ρ, st, rs, re, h.seq fun φ1 d x H1 st1 e1 rs1 rv1 h1 => ?_⟩
  cases q : insA cls d st1 with
  | none => rw [q] at h1; exact h1.elim
  | some fs =>
    rw [q] at h1
    simp only at h1
    cases q2 : fs.lookup f with
    | none => rw [q2] at h1; exact h1.elim
    | some v =>
      rw [q2] at h1
      simp only at h1
      obtain ⟨r, p, C', dx, vs, rfl, rfl, g1, g2, g3, g4, g5, g6, g7⟩ := ins_at rs1 rv1 q
      rw [hC] at g3
      cases g3
      obtain ⟨u, l1, l2⟩ := look_z g7 q2
      exact ⟨p, C, dx, _, u, rfl, g4, hc, hn, l1, h1.ok rs1 l2⟩
theorem ms_putf {value : Expr} (F : FldF X.K X.mg cls f) (ho : PE X o (tE X W mo)) (hv : PE X value (tE X W ma)) (hs : swapsWith value (some (.Attribute o f pos')) pos.line X.env = pure false := by rfl) : PS X (.Assign [.Attribute o f pos'] value pos) (tS X W (mPutF cls f mo ma)) := (ps_fld ho hv hs).imp fun D σ H ⟨φ, ρ, st, rs, re, h⟩ => by
  obtain ⟨C, hC, hc, hn⟩ := F.ex
  refine ⟨φ, ρ, st, rs, re, h.exp re fun φ1 d v H1 st1 e1 rs1 rv1 h1 => ?_⟩
  refine ⟨φ1, ρ, st1, rs1, re.ext e1, h1.exp (re.ext e1) fun φ2 a x H2 st2 e2 rs2 rv2 h2 => ?_⟩
  cases q : setIA cls f d a st2 with
  | none => rw [q] at h2; exact h2.elim
  | some st3 =>
    rw [q] at h2
    simp only at h2
    unfold setIA at q
    cases rv2 with
    | @ref p r qp =>
      simp only at q
      cases q2 : insA cls (.ref r) st2 with
      | none => rw [q2] at q; cases q
      | some fs =>
        rw [q2] at q
        simp only at q
        split at q
        · rename_i hl
          cases q
          obtain ⟨r', p', C', dx, vs, e3, e4, g1, g2, g3, g4, g5, g6, g7⟩ := ins_at rs2 (.ref qp) q2
          cases e3
          cases e4
          rw [hC] at g3
          cases g3
          have ex : Ext φ2 H2 φ2 (upd H2 p (.ins C dx (putF f v ((fs.map (·.1)).zip vs)))) := ext_write qp (fun od u z => by rw [g4] at z; cases z)
          obtain ⟨us, u1, u2⟩ := put_z (f := f) ((rv1.ext e2).ext ex) (fs := fs) (g7.ext ex)
          have hlen : ((fs.map (·.1)).zip vs).length < 1000 := by
            rw [List.length_zip, List.length_map]
            omega
          refine ⟨p, C, dx, _, rfl, g4, hc, hn, hlen, h2 φ2 σ _ ex (rs2.writeO qp g2 (fun od u z => by rw [g4] at z; cases z) ⟨C, dx, us, hC, ?_, ?_, g6, u2⟩) (((re.ext e1).ext e2).ext ex)⟩
          · rw [upd_same, u1]
          · rw [upd_ne (fun z => by rw [z, g4] at g5; cases g5)]
            exact g5
        · cases q
    | _ => cases q
end
structure GM (K : PySem.W.Frag) (mg : Str → Option Value) (cls m qual : Str) (st : Stmt) (ps : List Str) : Prop where
  ex : ∃ (C f : Addr) (fd : FuncData), mg cls = some (.ref C) ∧ L2.Cls K C ∧ Meth K C m f ∧ Fun K m qual st f fd ∧ Binds K fd ps []
structure CalM (P : Program) (w : World) (K : PySem.W.Frag) (mg : Str → Option Value) (base : Heap) (cls m : Str) (k : Nat) (mf : MF) : Prop where
  ex : ∃ (C f : Addr) (fd : FuncData) (ps : List Str), mg cls = some (.ref C) ∧ L2.Cls K C ∧ Meth K C m f ∧ Binds K fd ps [] ∧ FnOk P w K mg base (L2.CX P w) k f fd ps (spM K w mg mf)
theorem CalM.mono {P : Program} {w : World} {K : PySem.W.Frag} {mg : Str → Option Value} {base : Heap} {cls m : Str} {k j : Nat} {mf : MF} (C : CalM P w K mg base cls m j mf) (h : j ≤ k) : CalM P w K mg base cls m k mf := by
  obtain ⟨A, f, fd, ps, h1, h2, h3, h4, F⟩ := C.ex
  exact ⟨A, f, fd, ps, h1, h2, h3, h4, F.mono h⟩
theorem calm_of {P : Program} {w : World} {K : PySem.W.Frag} {mg : Str → Option Value} {base : Heap} {cls m qual : Str} {st : Stmt} {N ps : List Str} {k : Nat} {body : MS} (G : GM K mg cls m qual st ps) (S : FnScope N ps (defScope st))
    (hb : ∀ (f : Addr) (cdv : Value) (A : Around) (outer : List PySem.Env) (s : Shared) (H : Hp) (E : XK), Room k (A.deeper (PyProof.Rows.envOfC qual (defScope st) s.heap.objs.size f cdv)) →
      PSs (cxOf (L2.CX P w) P w K mg base N qual (defScope st) f cdv A outer s H E) (defBody st) (tS (cxOf (L2.CX P w) P w K mg base N qual (defScope st) f cdv A outer s H E) (fun c d _ H' => E c d H') body)) :
    CalM P w K mg base cls m (k + 1) (mFn N.length ps.length body) := by
  obtain ⟨C, f, fd, h1, h2, h3, F, b⟩ := G.ex
  exact ⟨C, f, fd, ps, h1, h2, h3, b, fn_ok F S (hb f)⟩
structure GI (K : PySem.W.Frag) (mg : Str → Option Value) (cls qual : Str) (st : Stmt) (ps : List Str) : Prop where
  ex : ∃ (C f : Addr) (fd : FuncData), mg cls = some (.ref C) ∧ Mk K C f ∧ Fun K "__init__" qual st f fd ∧ Binds K fd ps []
structure CalI (P : Program) (w : World) (K : PySem.W.Frag) (mg : Str → Option Value) (base : Heap) (cls : Str) (k : Nat) (mf : MF) : Prop where
  ex : ∃ (C f : Addr) (fd : FuncData) (ps : List Str), mg cls = some (.ref C) ∧ Mk K C f ∧ Binds K fd ps [] ∧ FnOk P w K mg base (L2.CX P w) k f fd ps (spM K w mg mf)
theorem CalI.mono {P : Program} {w : World} {K : PySem.W.Frag} {mg : Str → Option Value} {base : Heap} {cls : Str} {k j : Nat} {mf : MF} (C : CalI P w K mg base cls j mf) (h : j ≤ k) : CalI P w K mg base cls k mf := by
  obtain ⟨A, f, fd, ps, h1, h2, h3, F⟩ := C.ex
  exact ⟨A, f, fd, ps, h1, h2, h3, F.mono h⟩
theorem cali_of {P : Program} {w : World} {K : PySem.W.Frag} {mg : Str → Option Value} {base : Heap} {cls qual : Str} {st : Stmt} {N ps : List Str} {k : Nat} {body : MS} (G : GI K mg cls qual st ps) (S : FnScope N ps (defScope st))
    (hb : ∀ (f : Addr) (cdv : Value) (A : Around) (outer : List PySem.Env) (s : Shared) (H : Hp) (E : XK), Room k (A.deeper (PyProof.Rows.envOfC qual (defScope st) s.heap.objs.size f cdv)) →
      PSs (cxOf (L2.CX P w) P w K mg base N qual (defScope st) f cdv A outer s H E) (defBody st) (tS (cxOf (L2.CX P w) P w K mg base N qual (defScope st) f cdv A outer s H E) (fun c d _ H' => E c d H') body)) :
    CalI P w K mg base cls (k + 1) (mFn N.length ps.length body) := by
  obtain ⟨C, f, fd, h1, h2, F, b⟩ := G.ex
  exact ⟨C, f, fd, ps, h1, h2, b, fn_ok F S (hb f)⟩
section
variable {X : Cx} {E : XK} {o e : Expr} {es : List Expr} {m cls : Str} {pos apos p : Pos} {mo : MX} {ms : MA} {mf : MF} {k : Nat} {pl : Sem Bool}
theorem passX (tk : Takes X (fun c d _ H' => E c d H')) : Passes (L2.CX X.prog X.w) X E := fun pins σ H s e s' I c => passAt tk σ pins H s e s' I c
theorem meth_ok {C : Addr} {ta : TE} {σ : L2.St} {H : Hp} {Q : VK} (hC : X.mg cls = some (.ref C)) (h : tE X (fun c d _ H' => E c d H') (mMeth cls m mf mo ms) σ H Q) :
    tMeth C m (spM X.K X.w X.mg mf) [] E (tE X (fun c d _ H' => E c d H') mo) (tA X (fun c d _ H' => E c d H') ms) σ H Q := by
  obtain ⟨φ, ρ, st, rs, re, h⟩ := h
  refine ⟨φ, ρ, st, rs, re, h.seq fun φ1 a x H1 st1 e1 rs1 rv1 h1 => ?_⟩
  cases q : insA cls a st1 with
  | none => rw [q] at h1; exact h1.elim
  | some fs =>
    rw [q] at h1
    simp only at h1
    obtain ⟨r, p, C', dx, vs, rfl, rfl, g1, g2, g3, g4, g5, g6, g7⟩ := ins_at rs1 rv1 q
    rw [hC] at g3
    cases g3
    split at h1
    · rename_i hl
      refine ⟨p, dx, _, rfl, g4, look_none (by have := g7.length; simpa using this) hl, φ1, ρ, st1, rs1, re.ext e1, h1.seq fun φ2 ds us H2 st2 e2 rs2 rv2 h2 => ?_⟩
      rw [List.append_nil]
      exact ⟨φ2, .ref r :: ds, st2, rs2, .cons (rv1.ext e2) rv2, h2⟩
    · exact h1.elim
theorem me_meth (M : CalM X.prog X.w X.K X.mg X.base cls m k mf) (hr : Room k X.A) (tk : Takes X (fun c d _ H' => E c d H')) (ho : PE X o (tE X (fun c d _ H' => E c d H') mo)) (ha : PA X (e :: es) (tA X (fun c d _ H' => E c d H') ms))
    (hst : starEach (e :: es) X.env = (false, eval e X.env) :: starEach es X.env := by rfl) (hpl : (backTo pos (starEach es X.env)).any (·.1) = false := by rfl)
    (ht : eval (.Call (.Attribute o m apos) (e :: es) [] pos) X.env = (do
      let ov ← eval o X.env
      standAt apos.atName
      let (f, first) ← holding [ov] (getMethod ov m pl)
      callWith pos f first (backTo pos (starEach (e :: es) X.env)) (backToKw pos (keywordEach [] X.env))) := by rfl) :
    PE X (.Call (.Attribute o m apos) (e :: es) [] pos) (tE X (fun c d _ H' => E c d H') (mMeth cls m mf mo ms)) := by
  obtain ⟨C, f, fd, ps, hC, hc, hm, hb, F⟩ := M.ex
  exact (pe_meth ho hc hm F hr hb .nil (passX tk) ha hst hpl ht).imp fun σ H Q h => meth_ok (ta := tE X (fun c d _ H' => E c d H') mo) hC h
theorem me_meth0 (M : CalM X.prog X.w X.K X.mg X.base cls m k mf) (hr : Room k X.A) (tk : Takes X (fun c d _ H' => E c d H')) (ho : PE X o (tE X (fun c d _ H' => E c d H') mo))
    (ht : eval (.Call (.Attribute o m apos) [] [] pos) X.env = (do
      let ov ← eval o X.env
      standAt apos.atName
      let (f, first) ← holding [ov] (getMethod ov m pl)
      callWith pos f first (backTo pos (starEach [] X.env)) (backToKw pos (keywordEach [] X.env))) := by rfl) :
    PE X (.Call (.Attribute o m apos) [] [] pos) (tE X (fun c d _ H' => E c d H') (mMeth cls m mf mo mNil)) := by
  obtain ⟨C, f, fd, ps, hC, hc, hm, hb, F⟩ := M.ex
  refine (pe_meth0 ho hc hm F hr hb .nil (passX tk) ht).imp fun σ H Q h => ?_
  have h2 := meth_ok (ta := tE X (fun c d _ H' => E c d H') mo) hC h
  obtain ⟨φ, ρ, st, rs, re, h3⟩ := h2
  refine ⟨φ, ρ, st, rs, re, h3.imp fun x H1 ⟨a, dx, fs, q1, q2, q3, φ1, ρ1, st1, rs1, re1, q4⟩ => ⟨a, dx, fs, q1, q2, q3, ?_⟩⟩
  exact q4.ok rs1 .nil
theorem make_ok {C : Addr} {σ : L2.St} {H : Hp} {Q : VK} (hC : X.mg cls = some (.ref C)) (h : tE X (fun c d _ H' => E c d H') (mMake cls mf ms) σ H Q) : tMake C (spM X.K X.w X.mg mf) [] E (tA X (fun c d _ H' => E c d H') ms) σ H Q := by
  obtain ⟨φ, ρ, st, rs, re, h⟩ := h
  refine ⟨φ, ρ, st, rs, re, h.seq fun φ1 ds vs H1 st1 e1 rs1 rv1 h1 => fun x dx hx hdx ne => ?_⟩
  rw [List.append_nil]
  have ex : Ext φ1 H1 (φ1 ++ [x]) (upd (upd H1 dx (.own x)) x (.ins C dx [])) := ⟨⟨[x], rfl⟩, fun a u n q => by
    have n1 : a ≠ x := ne_of_none q hx
    have n2 : a ≠ dx := ne_of_none q hdx
    refine ⟨by rw [upd_ne n1, upd_ne n2]; exact q, fun z => ?_⟩
    rcases List.mem_append.mp z with z | z
    · exact n z
    · exact n1 (by simpa using z), fun a o u q => by rw [upd_ne (ne_of_none q hx), upd_ne (ne_of_none q hdx)]; exact q⟩
  have e0 : Ext φ1 H1 φ1 (upd H1 dx (.own x)) := ext_new hdx
  have rs2 : RS X.K X.w X.mg φ1 (upd H1 dx (.own x)) st1 := rs1.new hdx
  have hx2 : upd H1 dx (.own x) x = none := by
    rw [upd_ne (Ne.symm ne)]
    exact hx
  have nd : dx ∉ φ1 ++ [x] := fun z => by
    rcases List.mem_append.mp z with z | z
    · exact rs1.notin hdx z
    · exact ne (by simpa using z)
  have rs3 : RS X.K X.w X.mg (φ1 ++ [x]) (upd (upd H1 dx (.own x)) x (.ins C dx [])) (st1 ++ [.oth (.ins cls [])]) := rs2.allocO hx2 ⟨C, dx, [], hC, upd_same, by rw [upd_ne ne, upd_same], nd, .nil⟩
  refine ⟨φ1 ++ [x], .ref st1.length :: ds, st1 ++ [.oth (.ins cls [])], rs3, .cons (.newLst rs1) (rv1.ext ex), ?_⟩
  refine (h1.mono ex).seq fun φ2 a v H2 st2 e2 rs4 rv4 h4 => ?_
  cases rv4 with
  | non => exact ⟨rfl, h4.ok rs4 (RV.ext e2 (.newLst rs1 (H' := upd (upd H1 dx (.own x)) x (.ins C dx []))))⟩
  | _ => exact h4.elim
theorem me_make0 {x : Str} (M : CalI X.prog X.w X.K X.mg X.base x k mf) (hr : Room (k + 1) X.A) (tk : Takes X (fun c d _ H' => E c d H')) (hg : Gl X x := by rfl) (hdb : (x == ("__debug__" : Str)) = false := by decide) :
    PE X (.Call (.Name x p) [] [] pos) (tE X (fun c d _ H' => E c d H') (mMake x mf mNil)) := by
  obtain ⟨C, f, fd, ps, hC, hm, hb, F⟩ := M.ex
  refine (pe_make0 hm F hr hg hC hb .nil (passX tk) hdb).imp fun σ H Q h => ?_
  obtain ⟨φ, ρ, st, rs, re, h3⟩ := make_ok hC h
  exact h3.ok rs .nil
end
end ML
namespace ML
open PySem PySem.Spec L2 PyProof.Rows
section
variable {K : PySem.W.Frag} {w : World} {mg : Str → Option Value} {φ φ' : List Addr} {H H' : Hp} {st : Store} {σ : L2.St} {ρ : Env}
theorem StT.up {p : Addr} {o : HO} (hp : p ∈ φ) {a : Addr} {xs : List V} (h : StT K φ H a xs) : StT K φ (upd H p o) a xs := by
  rcases h with ⟨⟨q, hd, h⟩, n⟩ | h
  · have ne : a ≠ p := fun z => n (z ▸ hp)
    exact .inl ⟨⟨q, hd, by rw [upd_ne ne]; exact h⟩, n⟩
  · exact .inr h
theorem StL.up {p : Addr} {o : HO} (hp : p ∈ φ) {a : Addr} {xs : List V} (h : StL K φ H a xs) : StL K φ (upd H p o) a xs := by
  rcases h with ⟨⟨q, h⟩, n⟩ | h
  · have ne : a ≠ p := fun z => n (z ▸ hp)
    exact .inl ⟨⟨q, by rw [upd_ne ne]; exact h⟩, n⟩
  · exact .inr h
mutual
theorem RV.up {p : Addr} {o : HO} (hp : p ∈ φ) : ∀ {v : V} {d : A}, RV K φ H v d → RV K φ (upd H p o) v d
  | _, _, .non => .non
  | _, _, .bl b => .bl b
  | _, _, .int i => .int i
  | _, _, .str x => .str x
  | _, _, .tup h q => .tup (h.up hp) (RVs.up hp q)
  | _, _, .scr h q => .scr (h.up hp) (RVs.up hp q)
  | _, _, .ref h => .ref h
theorem RVs.up {p : Addr} {o : HO} (hp : p ∈ φ) : ∀ {vs : List V} {ds : List A}, RVs K φ H vs ds → RVs K φ (upd H p o) vs ds
  | _, _, .nil => .nil
  | _, _, .cons h q => .cons (RV.up hp h) (RVs.up hp q)
end
theorem RE.up {p : Addr} {o : HO} (hp : p ∈ φ) (r : RE K φ H σ ρ) : RE K φ (upd H p o) σ ρ := ⟨r.len, fun i d h => by
  obtain ⟨v, h1, h2⟩ := r.all i d h
  exact ⟨v, h1, RV.up hp h2⟩⟩
end
end ML
namespace ML
open PySem PySem.Spec L2 PyProof.Rows
section
variable {K : PySem.W.Frag} {φ : List Addr} {H : Hp} {P : Program} {w : World} {h : Heap}
def Kq (F : List Addr) (h h' : Heap) : Prop := ∀ b o, h.get? b = some o → ∃ sl, h'.get? b = some { o with slots := sl } ∧ (b ∉ F → h'.get? b = some o)
theorem Kq.refl {F : List Addr} (h : Heap) : Kq F h h := fun b o e => ⟨o.slots, e, fun _ => e⟩
theorem Kq.trans {F : List Addr} {h h' h2 : Heap} (a : Kq F h h') (b : Kq F h' h2) : Kq F h h2 := fun c o e => by
  obtain ⟨sl, e1, e2⟩ := a c o e
  obtain ⟨sl', e3, _⟩ := b c _ e1
  refine ⟨sl', e3, fun n => ?_⟩
  obtain ⟨_, _, e5⟩ := b c o (e2 n)
  exact e5 n
theorem Kq.of {F : List Addr} {h h' : Heap} (k : ∀ b o, h.get? b = some o → h'.get? b = some o) : Kq F h h' := fun b o e => ⟨o.slots, k b o e, fun _ => k b o e⟩
end
section
open PySem.W
def Kz (F : List Addr) (z : Addr) (h h' : Heap) : Prop := ∀ b o, b ≠ z → h.get? b = some o → ∃ sl, h'.get? b = some { o with slots := sl } ∧ (b ∉ F → h'.get? b = some o)
theorem Kz.kq {F : List Addr} {z : Addr} {h h' h2 : Heap} (k : Kz F z h h') (q : Kq F h' h2) : Kz F z h h2 := fun b o n e => by
  obtain ⟨sl, e1, e2⟩ := k b o n e
  obtain ⟨sl2, e3, _⟩ := q b _ e1
  refine ⟨sl2, e3, fun nf => ?_⟩
  obtain ⟨_, _, e5⟩ := q b o (e2 nf)
  exact e5 nf
def MixOk (kz : List PyData) : Prop := ∀ x ∈ kz, ∀ y ∈ kz, ∃ (i j : Int) (r t : List PyData), x = .tuple (.int i :: r) ∧ y = .tuple (.int j :: t) ∧ (i = j → alikeAll r t = true)
def KzOk (kz : List PyData) : Prop := (AllAlike kz ∧ Sortable kz) ∨ MixOk kz
theorem KzOk.self {kz : List PyData} (m : KzOk kz) {x : PyData} (hx : x ∈ kz) : alike x x = true := by
  rcases m with ⟨al, _⟩ | m
  · exact al x hx x hx
  · obtain ⟨i, j, r, t, e1, e2, al⟩ := m x hx x hx
    rw [e1] at e2
    cases e2
    rw [e1]
    have := al rfl
    simpa [alike, alikeAll] using this
theorem KzOk.same {kz : List PyData} {h : Heap} {v : Value} {x y : PyData} {as bs : List Addr} (m : KzOk kz) (hx : x ∈ kz) (hy : y ∈ kz) (rx : Reads h v x as) (ry : Reads h v y bs) : x = y := by
  rcases m with ⟨al, _⟩ | m
  · exact alike_unique x y v as bs (al x hx y hy) rx ry
  · obtain ⟨i, j, r, t, rfl, rfl, al⟩ := m x hx y hy
    refine alike_unique _ _ v as bs ?_ rx ry
    have eij : i = j := by
      cases rx with
      | tuple g1 g2 g3 g4 =>
        cases ry with
        | tuple k1 k2 k3 k4 =>
          rw [g1] at k1
          cases k1
          rw [g3] at k3
          cases k3
          generalize hz : Array.toList _ = zs at g4 k4
          cases g4 with
          | cons p1 p2 =>
            cases k4 with
            | cons q1 q2 =>
              cases p1
              cases q1
              rfl
    have := al eij
    simpa [alike, alikeAll] using this
theorem KzOk.key {kz : List PyData} {h : Heap} {v : Value} {x : PyData} {as : List Addr} (m : KzOk kz) (hx : x ∈ kz) (rx : Reads h v x as) : (dataKind h kz).keyOf v = some (keyToks x) := by
  have has : ∃ y, y ∈ kz ∧ ∃ bs, Reads h v y bs := ⟨x, hx, as, rx⟩
  have at0 : (dataKind h kz).keyOf v = some (keyToks has.choose) := dif_pos has
  obtain ⟨hy, bs, ry⟩ := has.choose_spec
  rw [at0, m.same hy hx ry rx]
end
end ML
namespace ML
open PySem PySem.Spec L2 PyProof.Rows
structure FnG (P : Program) (w : World) (K : PySem.W.Frag) (mg : Str → Option Value) (base : Heap) (k : Nat) (f : Addr) (fd : FuncData) (ps : List Str) (sp : Sp) : Prop where
  len : ∀ vs H Q E, sp vs H Q E → vs.length = ps.length
  run : ∀ (A : Around) (outer : List PySem.Env) (s : Shared) (H : Hp) (args : Args) (us : List Value) (vs : List V) (Q : VK) (E : XK), A.guards = some [] → Room k A → Env0 P w K mg base A outer s H → BindsTo s fd args (ps.zip us) → Vals vs us → sp vs H Q E →
    codeAny (model P w) A (.call (.ref f) args) (CR (L2.CX P w) outer P w H s Q E) s
theorem FnG.imp {P : Program} {w : World} {K : PySem.W.Frag} {mg : Str → Option Value} {base : Heap} {k : Nat} {f : Addr} {fd : FuncData} {ps : List Str} {sp sp' : Sp} (F : FnG P w K mg base k f fd ps sp) (h : ∀ vs H Q E, sp' vs H Q E → sp vs H Q E) : FnG P w K mg base k f fd ps sp' :=
  ⟨fun vs H Q E q => F.len _ _ _ _ (h _ _ _ _ q), fun A outer s H args us vs Q E g hr e0 hb hv q => F.run A outer s H args us vs Q E g hr e0 hb hv (h _ _ _ _ q)⟩
def reprOk (d : PyData) : Prop := d.showable = true ∧ d.hasDict = false ∧ d.depth ≤ 30 ∧ d.shown.length ≤ sizeLine
instance (d : PyData) : Decidable (reprOk d) := by unfold reprOk; infer_instance
end ML
namespace ML
open PySem PySem.Spec L2 PyProof.Rows
section
variable {X : Cx} {pins : List (Addr × Obj)} {σ : L2.St} {H : Hp} {s : Shared} {φ : List Addr}
def entA (kv : NestedKey × A) : A := .tup [aOf kv.1, kv.2]
end
end ML
namespace ML
open PySem PySem.Spec PyProof.Rows L2
section
variable {K : PySem.W.Frag} {w : World} {mg : Str → Option Value} {φ : List Addr} {H : Hp} {st : Store} {σ : L2.St} {ρ : ML.Env} {P : Addr} {ps : Array Value}
theorem notin_push {a : Addr} {o : HO} (hP : H P = some (.tbl ps)) (h : H a = some o) (n : a ∉ φ) (ne : o ≠ .tbl ps) : a ∉ φ ++ [P] := fun z => by
  rcases List.mem_append.mp z with z | z
  · exact n z
  · rw [List.mem_singleton.mp z, hP] at h
    exact ne (Option.some.inj h).symm
theorem StT.push {a : Addr} {xs : List V} (hP : H P = some (.tbl ps)) (h : StT K φ H a xs) : StT K (φ ++ [P]) H a xs := by
  rcases h with ⟨⟨o, hd, h⟩, n⟩ | h
  · exact .inl ⟨⟨o, hd, h⟩, notin_push hP h n (by simp)⟩
  · exact .inr h
theorem StL.push {a : Addr} {xs : List V} (hP : H P = some (.tbl ps)) (h : StL K φ H a xs) : StL K (φ ++ [P]) H a xs := by
  rcases h with ⟨⟨o, h⟩, n⟩ | h
  · exact .inl ⟨⟨o, h⟩, notin_push hP h n (by simp)⟩
  · exact .inr h
theorem get_push {i : Nat} {a : Addr} (h : φ[i]? = some a) : (φ ++ [P])[i]? = some a := by
  rw [List.getElem?_append_left (List.getElem?_eq_some_iff.mp h).1]
  exact h
mutual
theorem RV.push (hP : H P = some (.tbl ps)) : ∀ {v : V} {d : A}, RV K φ H v d → RV K (φ ++ [P]) H v d
  | _, _, .non => .non
  | _, _, .bl b => .bl b
  | _, _, .int i => .int i
  | _, _, .str x => .str x
  | _, _, .tup h q => .tup (h.push hP) (RVs.push hP q)
  | _, _, .scr h q => .scr (h.push hP) (RVs.push hP q)
  | _, _, .ref h => .ref (get_push h)
theorem RVs.push (hP : H P = some (.tbl ps)) : ∀ {vs : List V} {ds : List A}, RVs K φ H vs ds → RVs K (φ ++ [P]) H vs ds
  | _, _, .nil => .nil
  | _, _, .cons h q => .cons (RV.push hP h) (RVs.push hP q)
end
theorem RE.push (hP : H P = some (.tbl ps)) (r : RE K φ H σ ρ) : RE K (φ ++ [P]) H σ ρ := ⟨r.len, fun i d h => by
  obtain ⟨v, h1, h2⟩ := r.all i d h
  exact ⟨v, h1, h2.push hP⟩⟩
theorem RO2.push {a : Addr} (hP : H P = some (.tbl ps)) : ∀ {u : Ob2}, RO2 K w mg φ H a u → RO2 K w mg (φ ++ [P]) H a u
  | .dct _, .inl ⟨ks, h1, h2, h3⟩ => .inl ⟨ks, h1, h2, h3.push hP⟩
  | .dct _, .inr ⟨xs, vs, h0, h1, h2, h3, h4, h5, h6, h7⟩ => .inr ⟨xs, vs, h0, h1, h2, h3, h4, fun x hx => ⟨(h5 x hx).1.push hP, (h5 x hx).2⟩, h6, h7.push hP⟩
  | .frd _, .inl ⟨od, ks, h1, h2, h3⟩ => .inl ⟨od, ks, h1, h2, h3.push hP⟩
  | .frd _, .inr ⟨od, xs, vs, h0, h1, h2, h3, h4, h5, h6, h7⟩ => .inr ⟨od, xs, vs, h0, h1, h2, h3, h4, fun x hx => ⟨(h5 x hx).1.push hP, (h5 x hx).2⟩, h6, h7.push hP⟩
  | .ins _ _, ⟨C, dx, vs, h0, h1, h2, h3, h4⟩ => ⟨C, dx, vs, h0, h1, h2, notin_push hP h2 h3 (by simp), h4.push hP⟩
  | .tab _, ⟨h0, ps', h1, h2, h3⟩ => ⟨h0, ps', h1, h2, fun pos cv hc => by
    obtain ⟨c, z1, z2, z3⟩ := h3 pos cv hc
    exact ⟨c, z1, z2, notin_push hP z2 z3 (LamX.codeO_ne ps)⟩⟩
theorem RS.push {n : Str} (r : RS K w mg φ H st) (hP : H P = some (.tbl #[])) (nP : P ∉ φ) (ht : TabIs K mg n P) : RS K w mg (φ ++ [P]) H (st ++ [.oth (.tab n)]) := by
  refine ⟨by simp [r.len], ?_, fun i a o h1 h2 => ?_⟩
  · rw [List.nodup_append]
    refine ⟨r.nd, by simp, fun a ha b hb z => ?_⟩
    rw [List.mem_singleton.mp hb] at z
    exact nP (z ▸ ha)
  · by_cases hi : i < φ.length
    · rw [List.getElem?_append_left hi] at h1
      rw [List.getElem?_append_left (by rw [← r.len]; exact hi)] at h2
      have h3 := r.all i a o h1 h2
      cases o with
      | lst ds =>
        obtain ⟨xs, q, q2⟩ := h3
        exact ⟨xs, q, q2.push hP⟩
      | oth u => exact RO2.push hP h3
    · have hl : i = φ.length := by
        have := (List.getElem?_eq_some_iff.mp h1).1
        rw [List.length_append, List.length_singleton] at this
        omega
      subst hl
      rw [List.getElem?_append_right (Nat.le_refl _), Nat.sub_self] at h1
      rw [r.len, List.getElem?_append_right (Nat.le_refl _), Nat.sub_self] at h2
      cases h1
      cases h2
      refine ⟨ht, #[], hP, True.intro, fun pos cv hc => ?_⟩
      have z : codeAmong pos [] = some cv := hc
      simp [codeAmong] at z
end
end ML
namespace ML
open PySem PySem.Spec L2 PyProof.Rows
def mAugF (cls f : Str) (g : A → A → Store → R A) (mo ma : MX) : MS := fun ρ st => (mo ρ st).toS ρ fun x st1 => match insA cls x st1 with
  | some fs => match fs.lookup f with
    | some v => (ma ρ st1).toS ρ fun b st2 => (g v b st2).toS ρ fun z st3 => match setIA cls f z x st3 with
      | some st4 => .nx ρ st4
      | none => .bad
    | none => .bad
  | none => .bad
section
variable {X : Cx} {W : WX} {o e : Expr} {f cls : Str} {pos pos' : Pos} {mo ma : MX}
theorem ms_augf {op : Operator} {rd : V → V → Hp → VK → Prop} {g : A → A → Store → R A} (F : FldF X.K X.mg cls f) (hop : InOp X op rd) (hg : OpS X rd g) (ho : PE X o (tE X W mo)) (hv : PE X e (tE X W ma)) : PS X (.AugAssign (.Attribute o f pos') op e pos) (tS X W (mAugF cls f g mo ma)) := (ps_fldaug ho hv hop).imp fun D σ H ⟨φ, ρ, st, rs, re, h⟩ => by
  obtain ⟨C, hC, hc, hn⟩ := F.ex
  refine ⟨φ, ρ, st, rs, re, h.exp re fun φ1 d x H1 st1 e1 rs1 rv1 h1 => ?_⟩
  cases q : insA cls d st1 with
  | none => rw [q] at h1; exact h1.elim
  | some fs =>
    rw [q] at h1
    simp only at h1
    cases q2 : fs.lookup f with
    | none => rw [q2] at h1; exact h1.elim
    | some v =>
      rw [q2] at h1
      simp only at h1
      obtain ⟨r, p, C', dx, vs, rfl, rfl, g1, g2, g3, g4, g5, g6, g7⟩ := ins_at rs1 rv1 q
      rw [hC] at g3
      cases g3
      obtain ⟨u, l1, l2⟩ := look_z g7 q2
      refine ⟨p, C, dx, _, u, rfl, g4, hc, hn, l1, φ1, ρ, st1, rs1, re.ext e1, h1.exp (re.ext e1) fun φ2 b y H2 st2 e2 rs2 rv2 h2 => ?_⟩
      refine hg (fun c d H' => W c d σ H') _ _ _ _ _ _ _ _ rs2 (l2.ext e2) rv2 (SPst.exp h2 ((re.ext e1).ext e2) fun φ3 z w H3 st3 e3 rs3 rv3 h3 => ?_)
      cases q4 : setIA cls f z (.ref r) st3 with
      | none => rw [q4] at h3; exact h3.elim
      | some st4 =>
        rw [q4] at h3
        simp only at h3
        unfold setIA at q4
        simp only at q4
        cases q5 : insA cls (.ref r) st3 with
        | none => rw [q5] at q4; cases q4
        | some fs3 =>
          rw [q5] at q4
          simp only at q4
          split at q4
          · rename_i hl
            cases q4
            have rp : RV X.K φ3 H3 (.ref p) (.ref r) := (rv1.ext e2).ext e3
            obtain ⟨r', p', C', dx', vs', e5, e6, k1, k2, k3, k4, k5, k6, k7⟩ := ins_at rs3 rp q5
            cases e5
            cases e6
            rw [hC] at k3
            cases k3
            have ex : Ext φ3 H3 φ3 (upd H3 p (.ins C dx' (putF f w ((fs3.map (·.1)).zip vs')))) := ext_write k1 (fun od u z => by rw [k4] at z; cases z)
            obtain ⟨us, u1, u2⟩ := put_z (f := f) (rv3.ext ex) (fs := fs3) (k7.ext ex)
            have hlen : ((fs3.map (·.1)).zip vs').length < 1000 := by
              rw [List.length_zip, List.length_map]
              omega
            refine ⟨dx', _, k4, hlen, h3 φ3 σ _ ex (rs3.writeO k1 k2 (fun od u z => by rw [k4] at z; cases z) ⟨C, dx', us, hC, ?_, ?_, k6, u2⟩) ((((re.ext e1).ext e2).ext e3).ext ex)⟩
            · rw [upd_same, u1]
            · rw [upd_ne (fun z => by rw [z, k4] at k5; cases k5)]
              exact k5
          · cases q4
end
end ML
namespace ML
open PySem L2
def R.wp {α : Type} (r : R α) (Q : α → Store → Prop) : Prop := match r with
  | .ok a st => Q a st
  | _ => False
def SR.wp (r : SR) (N B C : Env → Store → Prop) (Rt : A → Store → Prop) : Prop := match r with
  | .nx ρ st => N ρ st
  | .bk ρ st => B ρ st
  | .ct ρ st => C ρ st
  | .rt a st => Rt a st
  | .er _ _ _ => False
  | .bad => False
abbrev NoS : Env → Store → Prop := fun _ _ => False
section
variable {α β : Type} {Q : A → Store → Prop} {QB : Bool → Store → Prop} {ρ : Env} {st : Store} {N B C : Env → Store → Prop} {Rt : A → Store → Prop}
theorem R.wp.ex {r : R α} {Q : α → Store → Prop} (h : r.wp Q) : ∃ a st, r = .ok a st ∧ Q a st := by
  cases r with
  | ok a st => exact ⟨a, st, rfl, h⟩
  | er e st => exact h.elim
  | bad => exact h.elim
theorem R.wp.imp {r : R α} {Q Q' : α → Store → Prop} (h : r.wp Q) (k : ∀ a st, Q a st → Q' a st) : r.wp Q' := by
  cases r with
  | ok a st => exact k _ _ h
  | er e st => exact h.elim
  | bad => exact h.elim
theorem SR.wp.imp {r : SR} {N' B' C' : Env → Store → Prop} {Rt' : A → Store → Prop} (h : r.wp N B C Rt) (k1 : ∀ ρ st, N ρ st → N' ρ st) (k2 : ∀ ρ st, B ρ st → B' ρ st) (k3 : ∀ ρ st, C ρ st → C' ρ st) (k4 : ∀ a st, Rt a st → Rt' a st) : r.wp N' B' C' Rt' := by
  cases r with
  | nx ρ st => exact k1 _ _ h
  | bk ρ st => exact k2 _ _ h
  | ct ρ st => exact k3 _ _ h
  | rt a st => exact k4 _ _ h
  | er e ρ st => exact h.elim
  | bad => exact h.elim
@[simp] theorem wp_ok {a : α} {Q : α → Store → Prop} : (R.ok a st).wp Q ↔ Q a st := Iff.rfl
@[simp] theorem wp_bad {Q : α → Store → Prop} : (R.bad : R α).wp Q ↔ False := Iff.rfl
theorem wp_bind {r : R α} {f : α → Store → R β} {Q : β → Store → Prop} : (r.bind f).wp Q ↔ r.wp fun a st => (f a st).wp Q := by
  cases r <;> rfl
theorem wp_toS {r : R α} {f : α → Store → SR} : (r.toS ρ f).wp N B C Rt ↔ r.wp fun a st => (f a st).wp N B C Rt := by
  cases r <;> rfl
theorem wp_if {c : Prop} [Decidable c] {r r' : R α} {Q : α → Store → Prop} : (if c then r else r').wp Q ↔ if c then r.wp Q else r'.wp Q := by split <;> rfl
theorem sp_if {c : Prop} [Decidable c] {r r' : SR} : (if c then r else r').wp N B C Rt ↔ if c then r.wp N B C Rt else r'.wp N B C Rt := by split <;> rfl
theorem sp_nx : (SR.nx ρ st).wp N B C Rt ↔ N ρ st := Iff.rfl
@[simp] theorem sp_seq {m1 m2 : MS} : (mSeq m1 m2 ρ st).wp N B C Rt ↔ (m1 ρ st).wp (fun ρ st => (m2 ρ st).wp N B C Rt) B C Rt := by
  unfold mSeq
  cases m1 ρ st <;> rfl
theorem seq_cut {m1 m2 : MS} (I : Env → Store → Prop) (h1 : (m1 ρ st).wp I (fun _ _ => False) (fun _ _ => False) (fun _ _ => False)) (h2 : ∀ ρ st, I ρ st → (m2 ρ st).wp N B C Rt) : (mSeq m1 m2 ρ st).wp N B C Rt := by
  rw [sp_seq]
  exact h1.imp h2 (fun _ _ h => h.elim) (fun _ _ h => h.elim) (fun _ _ h => h.elim)
theorem seq_cutR {m1 m2 : MS} (I : Env → Store → Prop) (h1 : (m1 ρ st).wp I (fun _ _ => False) (fun _ _ => False) Rt) (h2 : ∀ ρ st, I ρ st → (m2 ρ st).wp N B C Rt) : (mSeq m1 m2 ρ st).wp N B C Rt := by
  rw [sp_seq]
  exact h1.imp h2 (fun _ _ h => h.elim) (fun _ _ h => h.elim) (fun _ _ h => h)
@[simp] theorem wp_fn {n k : Nat} {body : MS} {as : List A} : (mFn n k body as st).wp Q ↔ as.length = k ∧ (body (as.map some ++ List.replicate (n - k) none) st).wp (fun _ st => Q .non st) NoS NoS Q := by
  unfold mFn
  by_cases h : as.length = k
  · rw [if_pos h]
    cases body (as.map some ++ List.replicate (n - k) none) st <;> simp [R.wp, SR.wp, h, NoS]
  · rw [if_neg h]
    simp [R.wp, h]
@[simp] theorem wp_var {i : Nat} : (mVar i ρ st).wp Q ↔ ∃ a, ρ[i]? = some (some a) ∧ Q a st := by
  unfold mVar
  cases e : ρ[i]? with
  | none => simp [R.wp]
  | some o => cases o <;> simp [R.wp]
@[simp] theorem wp_c {a : A} : (mC a ρ st).wp Q ↔ Q a st := Iff.rfl
@[simp] theorem wp_bin {g : A → A → Store → R A} {ma mb : MX} : (mBin g ma mb ρ st).wp Q ↔ (ma ρ st).wp fun x st1 => (mb ρ st1).wp fun y st2 => (g x y st2).wp Q := by
  unfold mBin
  rw [wp_bind]
  simp only [wp_bind]
@[simp] theorem wp_un {g : A → Store → R A} {ma : MX} : (mUn g ma ρ st).wp Q ↔ (ma ρ st).wp fun x st1 => (g x st1).wp Q := by
  unfold mUn
  rw [wp_bind]
@[simp] theorem wp_tru {ma : MX} : (mTru ma ρ st).wp QB ↔ (ma ρ st).wp fun x st1 => (truA x st1).wp QB := by
  unfold mTru
  rw [wp_bind]
@[simp] theorem wp_gb {ma : MX} : (mGB ma ρ st).wp QB ↔ (ma ρ st).wp fun x st1 => (getB x st1).wp QB := by
  unfold mGB
  rw [wp_bind]
@[simp] theorem wp_and {ma mb : MT} : (mAnd ma mb ρ st).wp QB ↔ (ma ρ st).wp fun x st1 => if x = true then (mb ρ st1).wp QB else QB false st1 := by
  unfold mAnd
  simp only [wp_bind, wp_if, wp_ok]
@[simp] theorem wp_or {ma mb : MT} : (mOr ma mb ρ st).wp QB ↔ (ma ρ st).wp fun x st1 => if x = true then QB true st1 else (mb ρ st1).wp QB := by
  unfold mOr
  simp only [wp_bind, wp_if, wp_ok]
@[simp] theorem wp_not {ma : MT} : (mNot ma ρ st).wp QB ↔ (ma ρ st).wp fun x st1 => QB (!x) st1 := by
  unfold mNot
  simp only [wp_bind, wp_ok]
@[simp] theorem wp_andV {ma mb : MX} : (mAndV ma mb ρ st).wp Q ↔ (ma ρ st).wp fun x st1 => (getB x st1).wp fun k st2 => if k = true then (mb ρ st2).wp Q else Q (.bl false) st2 := by
  unfold mAndV
  simp only [wp_bind, wp_if, wp_ok]
variable {QA : List A → Store → Prop}
@[simp] theorem wp_nil : (mNil ρ st).wp QA ↔ QA [] st := Iff.rfl
@[simp] theorem wp_cons {ma : MX} {mr : MA} : (mCons ma mr ρ st).wp QA ↔ (ma ρ st).wp fun x st1 => (mr ρ st1).wp fun xs st2 => QA (x :: xs) st2 := by
  unfold mCons
  simp only [wp_bind, wp_ok]
@[simp] theorem wp_tup {ms : MA} : (mTup ms ρ st).wp Q ↔ (ms ρ st).wp fun xs st1 => xs.length ≤ sizeLine ∧ Q (.tup xs) st1 := by
  unfold mTup
  simp only [wp_bind, wp_if, wp_ok, wp_bad]
  have : ∀ (xs : List A) (st1 : Store), (if xs.length ≤ sizeLine then Q (.tup xs) st1 else False) ↔ (xs.length ≤ sizeLine ∧ Q (.tup xs) st1) := fun xs st1 => by
    by_cases h : xs.length ≤ sizeLine <;> simp [h]
  simp only [this]
@[simp] theorem wp_lst {ms : MA} : (mLst ms ρ st).wp Q ↔ (ms ρ st).wp fun xs st1 => xs.length ≤ sizeLine ∧ Q (.ref st1.length) (st1 ++ [.lst xs]) := by
  unfold mLst
  simp only [wp_bind, wp_if, wp_ok, wp_bad]
  have : ∀ (xs : List A) (st1 : Store), (if xs.length ≤ sizeLine then Q (.ref st1.length) (st1 ++ [.lst xs]) else False) ↔ (xs.length ≤ sizeLine ∧ Q (.ref st1.length) (st1 ++ [.lst xs])) := fun xs st1 => by
    by_cases h : xs.length ≤ sizeLine <;> simp [h]
  simp only [this]
@[simp] theorem wp_ca {g : List A → Store → R A} {ms : MA} : (mCa g ms ρ st).wp Q ↔ (ms ρ st).wp fun xs st1 => (g xs st1).wp Q := by
  unfold mCa
  rw [wp_bind]
@[simp] theorem wp_call {m : MF} {ms : MA} : (mCall m ms ρ st).wp Q ↔ (ms ρ st).wp fun xs st1 => (m xs st1).wp Q := by
  unfold mCall
  rw [wp_bind]
variable {QO : Option Int → Store → Prop}
@[simp] theorem wp_noPart : (mNoPart ρ st).wp QO ↔ QO none st := Iff.rfl
@[simp] theorem wp_part {m : MX} : (mPart m ρ st).wp QO ↔ (m ρ st).wp fun x st1 => (getI x st1).wp fun i st2 => QO (some i) st2 := by
  unfold mPart
  simp only [wp_bind, wp_ok]
@[simp] theorem wp_sl {ma : MX} {ml mh : MO} : (mSl ma ml mh ρ st).wp Q ↔ (ma ρ st).wp fun x st1 => (ml ρ st1).wp fun lo st2 => (mh ρ st2).wp fun hi st3 => (slA x lo hi st3).wp Q := by
  unfold mSl
  simp only [wp_bind]
@[simp] theorem wp_bm {g : A → List A → Store → R A} {mo : MX} {ms : MA} : (mBm g mo ms ρ st).wp Q ↔ (mo ρ st).wp fun x st1 => isL x st1 = true ∧ (ms ρ st1).wp fun xs st2 => (g x xs st2).wp Q := by
  unfold mBm
  simp only [wp_bind, wp_if, wp_bad]
  have : ∀ (x : A) (st1 : Store), (if isL x st1 = true then (ms ρ st1).wp fun xs st2 => (g x xs st2).wp Q else False) ↔ (isL x st1 = true ∧ (ms ρ st1).wp fun xs st2 => (g x xs st2).wp Q) := fun x st1 => by
    by_cases h : isL x st1 = true <;> simp [h]
  simp only [this]
@[simp] theorem sp_set {i : Nat} {ma : MX} : (mSet i ma ρ st).wp N B C Rt ↔ (ma ρ st).wp fun a st1 => N (ρ.set i (some a)) st1 := by
  unfold mSet
  rw [wp_toS]
  rfl
@[simp] theorem sp_asg {tg : Tg} {ma : MX} : (mAsg tg ma ρ st).wp N B C Rt ↔ (ma ρ st).wp fun a st1 => ∃ ρ', asgT tg a ρ st1 = some ρ' ∧ N ρ' st1 := by
  unfold mAsg
  cases ma ρ st with
  | ok a st1 =>
    show SR.wp (match asgT tg a ρ st1 with
      | some ρ' => .nx ρ' st1
      | none => .bad) N B C Rt ↔ ∃ ρ', asgT tg a ρ st1 = some ρ' ∧ N ρ' st1
    cases asgT tg a ρ st1 <;> simp [SR.wp]
  | _ => rfl
@[simp] theorem sp_expr {ma : MX} : (mExpr ma ρ st).wp N B C Rt ↔ (ma ρ st).wp fun _ st1 => N ρ st1 := by
  unfold mExpr
  rw [wp_toS]
  rfl
@[simp] theorem sp_ret {ma : MX} : (mRet ma ρ st).wp N B C Rt ↔ (ma ρ st).wp Rt := by
  unfold mRet
  rw [wp_toS]
  rfl
@[simp] theorem sp_next : (mNext ρ st).wp N B C Rt ↔ N ρ st := Iff.rfl
@[simp] theorem sp_ifs {c : MT} {m1 m2 : MS} : (mIfS c m1 m2 ρ st).wp N B C Rt ↔ (c ρ st).wp fun b st1 => if b = true then (m1 ρ st1).wp N B C Rt else (m2 ρ st1).wp N B C Rt := by
  unfold mIfS
  rw [wp_toS]
  simp only [sp_if]
@[simp] theorem sp_put {mo mi ma : MX} : (mPut mo mi ma ρ st).wp N B C Rt ↔ (ma ρ st).wp fun d st1 => (mo ρ st1).wp fun o st2 => (mi ρ st2).wp fun i st3 => ∃ st4, setA o i d st3 = some st4 ∧ N ρ st4 := by
  unfold mPut
  cases ma ρ st with
  | ok d st1 =>
    show ((mo ρ st1).toS ρ _).wp N B C Rt ↔ (mo ρ st1).wp _
    cases mo ρ st1 with
    | ok o st2 =>
      show ((mi ρ st2).toS ρ _).wp N B C Rt ↔ (mi ρ st2).wp _
      cases mi ρ st2 with
      | ok i st3 =>
        show SR.wp (match setA o i d st3 with
          | some st4 => .nx ρ st4
          | none => .bad) N B C Rt ↔ ∃ st4, setA o i d st3 = some st4 ∧ N ρ st4
        cases setA o i d st3 <;> simp [SR.wp]
      | _ => rfl
    | _ => rfl
  | _ => rfl
@[simp] theorem sp_aug {i : Nat} {g : A → A → Store → R A} {ma : MX} : (mAug i g ma ρ st).wp N B C Rt ↔ (mVar i ρ st).wp fun x st0 => (ma ρ st0).wp fun y st1 => (g x y st1).wp fun z st2 => N (ρ.set i (some z)) st2 := by
  simp only [mAug, wp_toS, sp_nx]
@[simp] theorem sp_for {ms : Env → Store → R Src} {tg : Tg} {body : MS} : (mFor ms tg body ρ st).wp N B C Rt ↔ (ms ρ st).wp fun s st1 => (loopF s tg body (s.size st1 + 1) 0 ρ st1).wp N B C Rt := by
  unfold mFor
  rw [wp_toS]
@[simp] theorem wp_rng {ms : MA} {QS : Src → Store → Prop} : (mRng ms ρ st).wp QS ↔ (ms ρ st).wp fun xs st1 => (rngA xs st1).wp QS := by
  unfold mRng
  rw [wp_bind]
@[simp] theorem wp_src {ma : MX} {QS : Src → Store → Prop} : (mSrc ma ρ st).wp QS ↔ (ma ρ st).wp fun x st1 => (srcA x st1).wp QS := by
  unfold mSrc
  rw [wp_bind]
@[simp] theorem wp_zip {ms : MA} {QS : Src → Store → Prop} : (mZip ms ρ st).wp QS ↔ (ms ρ st).wp fun xs st1 => (zipA xs st1).wp QS := by
  unfold mZip
  rw [wp_bind]
theorem loop_wp {s : Src} {tg : Tg} {body : MS} (n : Nat) (it : Nat → A) (I : Nat → Env → Store → Prop) (hat : ∀ i ρ st, I i ρ st → (i < n → s.at i st = some (some (it i))) ∧ (¬ i < n → s.at i st = some none))
    (hs : ∀ i ρ st, i < n → I i ρ st → ∃ ρ1, asgT tg (it i) ρ st = some ρ1 ∧ (body ρ1 st).wp (I (i + 1)) N (I (i + 1)) Rt) (hd : ∀ ρ st, I n ρ st → N ρ st) :
    ∀ (k i : Nat) (ρ : Env) (st : Store), i + k = n + 1 → i ≤ n → I i ρ st → (loopF s tg body k i ρ st).wp N B C Rt
  | 0, i, ρ, st, hk, hi, h => by omega
  | k + 1, i, ρ, st, hk, hle, h => by
    unfold loopF
    by_cases hi : i < n
    · rw [(hat i ρ st h).1 hi]
      obtain ⟨ρ1, e, hb⟩ := hs i ρ st hi h
      simp only [e]
      cases q : body ρ1 st with
      | nx ρ2 st2 => rw [q] at hb; exact loop_wp n it I hat hs hd k (i + 1) ρ2 st2 (by omega) (by omega) hb
      | ct ρ2 st2 => rw [q] at hb; exact loop_wp n it I hat hs hd k (i + 1) ρ2 st2 (by omega) (by omega) hb
      | bk ρ2 st2 => rw [q] at hb; exact hb
      | rt a st2 => rw [q] at hb; exact hb
      | er e ρ2 st2 => rw [q] at hb; exact hb.elim
      | bad => rw [q] at hb; exact hb.elim
    · rw [(hat i ρ st h).2 hi]
      have : i = n := by omega
      subst this
      exact hd ρ st h
theorem for_rng {tg : Tg} {body : MS} {lo : Int} {n : Nat} (I : Nat → Env → Store → Prop) (h0 : I 0 ρ st)
    (hs : ∀ i ρ st, i < n → I i ρ st → ∃ ρ1, asgT tg (.int (lo + (i : Nat))) ρ st = some ρ1 ∧ (body ρ1 st).wp (I (i + 1)) N (I (i + 1)) Rt) (hd : ∀ ρ st, I n ρ st → N ρ st) :
    (loopF (.rng lo n) tg body (Src.size (.rng lo n) st + 1) 0 ρ st).wp N B C Rt :=
  loop_wp n (fun i => .int (lo + (i : Nat))) I (fun i ρ st _ => ⟨fun h => by simp [Src.at, h], fun h => by simp [Src.at, h]⟩) hs hd _ _ _ _ (by simp [Src.size]) (Nat.zero_le _) h0
theorem for_vals {tg : Tg} {body : MS} {xs : List A} (I : Nat → Env → Store → Prop) (h0 : I 0 ρ st)
    (hs : ∀ i x ρ st, xs[i]? = some x → I i ρ st → ∃ ρ1, asgT tg x ρ st = some ρ1 ∧ (body ρ1 st).wp (I (i + 1)) N (I (i + 1)) Rt) (hd : ∀ ρ st, I xs.length ρ st → N ρ st) :
    (loopF (.vals xs) tg body (Src.size (.vals xs) st + 1) 0 ρ st).wp N B C Rt :=
  loop_wp xs.length (fun i => xs.getD i .non) I (fun i ρ st _ => ⟨fun h => by simp [Src.at, h], fun h => by simp [Src.at]; omega⟩) (fun i ρ st h q => hs i _ ρ st (by simp [h]) q) hd _ _ _ _ (by simp [Src.size]) (Nat.zero_le _) h0
theorem for_lst {tg : Tg} {body : MS} {xs : List A} {r : Nat} (I : Nat → Env → Store → Prop) (hx : stL st r = some xs) (h0 : I 0 ρ st) (hl : ∀ i ρ st, I i ρ st → stL st r = some xs)
    (hs : ∀ i x ρ st, xs[i]? = some x → I i ρ st → ∃ ρ1, asgT tg x ρ st = some ρ1 ∧ (body ρ1 st).wp (I (i + 1)) N (I (i + 1)) Rt) (hd : ∀ ρ st, I xs.length ρ st → N ρ st) :
    (loopF (.lst r) tg body (Src.size (.lst r) st + 1) 0 ρ st).wp N B C Rt :=
  loop_wp xs.length (fun i => xs.getD i .non) I (fun i ρ st q => ⟨fun h => by simp [Src.at, hl i ρ st q, h], fun h => by simp [Src.at, hl i ρ st q]; omega⟩) (fun i ρ st h q => hs i _ ρ st (by simp [h]) q) hd _ _ _ _ (by simp [Src.size, hx]) (Nat.zero_le _) h0
theorem for_zipv {tg : Tg} {body : MS} {xs ys : List A} (I : Nat → Env → Store → Prop) (hl : ys.length ≤ xs.length) (h0 : I 0 ρ st)
    (hs : ∀ i x y ρ st, xs[i]? = some x → ys[i]? = some y → I i ρ st → ∃ ρ1, asgT tg (.tup [x, y]) ρ st = some ρ1 ∧ (body ρ1 st).wp (I (i + 1)) N (I (i + 1)) Rt) (hd : ∀ ρ st, I ys.length ρ st → N ρ st) :
    ∀ k, ys.length + 1 ≤ k → (loopF (.zipv xs ys) tg body k 0 ρ st).wp N B C Rt := fun k hk => by
  have key : ∀ (k i : Nat) (ρ : Env) (st : Store), ys.length + 1 ≤ i + k → i ≤ ys.length → I i ρ st → (loopF (.zipv xs ys) tg body k i ρ st).wp N B C Rt := by
    intro k
    induction k with
    | zero => intro i ρ st h1 h2; omega
    | succ k ih =>
      intro i ρ st h1 h2 h
      unfold loopF
      by_cases hi : i < ys.length
      · have e1 : xs[i]? = some xs[i] := List.getElem?_eq_getElem (by omega)
        have e2 : ys[i]? = some ys[i] := List.getElem?_eq_getElem hi
        have e3 : Src.at (.zipv xs ys) i st = some (some (.tup [xs[i], ys[i]])) := by simp only [Src.at, e1, e2]
        rw [e3]
        obtain ⟨ρ1, e, hb⟩ := hs i _ _ ρ st e1 e2 h
        simp only [e]
        cases q : body ρ1 st with
        | nx ρ2 st2 => rw [q] at hb; exact ih (i + 1) ρ2 st2 (by omega) (by omega) hb
        | ct ρ2 st2 => rw [q] at hb; exact ih (i + 1) ρ2 st2 (by omega) (by omega) hb
        | bk ρ2 st2 => rw [q] at hb; exact hb
        | rt a st2 => rw [q] at hb; exact hb
        | er e ρ2 st2 => rw [q] at hb; exact hb.elim
        | bad => rw [q] at hb; exact hb.elim
      · have e2 : ys[i]? = none := List.getElem?_eq_none (by omega)
        have e3 : Src.at (.zipv xs ys) i st = some none := by
          simp only [Src.at, e2]
          cases xs[i]? <;> rfl
        rw [e3]
        have : i = ys.length := by omega
        subst this
        exact hd ρ st h
  exact key k 0 ρ st (by omega) (Nat.zero_le _) h0
@[simp] theorem wp_yes : (mYes ρ st).wp QB ↔ QB true st := Iff.rfl
@[simp] theorem wipeA_nil {ρ : Env} : wipeA ρ [] = ρ := rfl
@[simp] theorem wipeA_cons {ρ : Env} {i : Nat} {l : List Nat} : wipeA ρ (i :: l) = (wipeA ρ l).set i none := rfl
@[simp] theorem wp_lc {mi : Env → Store → R Src} {tg : Tg} {own : List Nat} {tt : MT} {elt : MX} : (mLc mi tg own tt elt ρ st).wp Q ↔ (mi ρ st).wp fun s st1 => (loopC s tg own tt elt (wipeA ρ own) (s.size st1 + 1) 0 st1 []).wp fun xs st2 => Q (.ref st2.length) (st2 ++ [.lst xs]) := by
  simp only [mLc, wp_bind, wp_ok]
theorem lc_wp {s : Src} {tg : Tg} {own : List Nat} {tt : MT} {elt : MX} {ρ0 : Env} {QL : List A → Store → Prop} (n : Nat) (it : Nat → A) (I : Nat → Store → List A → Prop) (hat : ∀ i st acc, I i st acc → (i < n → s.at i st = some (some (it i))) ∧ (¬ i < n → s.at i st = some none))
    (hs : ∀ i st acc, i < n → I i st acc → ∃ ρ1, asgT tg (it i) ρ0 st = some ρ1 ∧ (tt ρ1 st).wp fun b st1 => if b = true then (elt ρ1 st1).wp fun y st2 => acc.length < sizeLine ∧ I (i + 1) st2 (acc ++ [y]) else I (i + 1) st1 acc)
    (hd : ∀ st acc, I n st acc → QL acc st) : ∀ (k i : Nat) (st : Store) (acc : List A), i + k = n + 1 → i ≤ n → I i st acc → (loopC s tg own tt elt ρ0 k i st acc).wp QL
  | 0, i, st, acc, hk, hi, h => by omega
  | k + 1, i, st, acc, hk, hle, h => by
    unfold loopC
    by_cases hi : i < n
    · rw [(hat i st acc h).1 hi]
      obtain ⟨ρ1, e, hb⟩ := hs i st acc hi h
      simp only [e]
      obtain ⟨b, st1, e1, hb⟩ := R.wp.ex hb
      simp only [e1]
      cases b with
      | false =>
        simp only [Bool.false_eq_true, if_false] at hb ⊢
        exact lc_wp n it I hat hs hd k (i + 1) st1 acc (by omega) (by omega) hb
      | true =>
        simp only [if_true] at hb ⊢
        obtain ⟨y, st2, e2, hz, hb⟩ := R.wp.ex hb
        simp only [e2, if_pos hz]
        exact lc_wp n it I hat hs hd k (i + 1) st2 (acc ++ [y]) (by omega) (by omega) hb
    · rw [(hat i st acc h).2 hi]
      have : i = n := by omega
      subst this
      exact hd st acc h
theorem lc_rng {tg : Tg} {own : List Nat} {tt : MT} {elt : MX} {ρ0 : Env} {lo : Int} {n : Nat} {QL : List A → Store → Prop} (I : Nat → Store → List A → Prop) (h0 : I 0 st [])
    (hs : ∀ i st acc, i < n → I i st acc → ∃ ρ1, asgT tg (.int (lo + (i : Nat))) ρ0 st = some ρ1 ∧ (tt ρ1 st).wp fun b st1 => if b = true then (elt ρ1 st1).wp fun y st2 => acc.length < sizeLine ∧ I (i + 1) st2 (acc ++ [y]) else I (i + 1) st1 acc)
    (hd : ∀ st acc, I n st acc → QL acc st) : (loopC (.rng lo n) tg own tt elt ρ0 (Src.size (.rng lo n) st + 1) 0 st []).wp QL :=
  lc_wp n (fun i => .int (lo + (i : Nat))) I (fun i st acc _ => ⟨fun h => by simp [Src.at, h], fun h => by simp [Src.at, h]⟩) hs hd _ _ _ _ (by simp [Src.size]) (Nat.zero_le _) h0
theorem lc_vals {tg : Tg} {own : List Nat} {tt : MT} {elt : MX} {ρ0 : Env} {xs : List A} {QL : List A → Store → Prop} (I : Nat → Store → List A → Prop) (h0 : I 0 st [])
    (hs : ∀ i x st acc, xs[i]? = some x → I i st acc → ∃ ρ1, asgT tg x ρ0 st = some ρ1 ∧ (tt ρ1 st).wp fun b st1 => if b = true then (elt ρ1 st1).wp fun y st2 => acc.length < sizeLine ∧ I (i + 1) st2 (acc ++ [y]) else I (i + 1) st1 acc)
    (hd : ∀ st acc, I xs.length st acc → QL acc st) : (loopC (.vals xs) tg own tt elt ρ0 (Src.size (.vals xs) st + 1) 0 st []).wp QL :=
  lc_wp xs.length (fun i => xs.getD i .non) I (fun i st acc _ => ⟨fun h => by simp [Src.at, h], fun h => by simp [Src.at]; omega⟩) (fun i st acc h q => hs i _ st acc (by simp [h]) q) hd _ _ _ _ (by simp [Src.size]) (Nat.zero_le _) h0
theorem lc_lst {tg : Tg} {own : List Nat} {tt : MT} {elt : MX} {ρ0 : Env} {xs : List A} {r : Nat} {QL : List A → Store → Prop} (I : Nat → Store → List A → Prop) (hx : stL st r = some xs) (h0 : I 0 st []) (hl : ∀ i st acc, I i st acc → stL st r = some xs)
    (hs : ∀ i x st acc, xs[i]? = some x → I i st acc → ∃ ρ1, asgT tg x ρ0 st = some ρ1 ∧ (tt ρ1 st).wp fun b st1 => if b = true then (elt ρ1 st1).wp fun y st2 => acc.length < sizeLine ∧ I (i + 1) st2 (acc ++ [y]) else I (i + 1) st1 acc)
    (hd : ∀ st acc, I xs.length st acc → QL acc st) : (loopC (.lst r) tg own tt elt ρ0 (Src.size (.lst r) st + 1) 0 st []).wp QL :=
  lc_wp xs.length (fun i => xs.getD i .non) I (fun i st acc q => ⟨fun h => by simp [Src.at, hl i st acc q, h], fun h => by simp [Src.at, hl i st acc q]; omega⟩) (fun i st acc h q => hs i _ st acc (by simp [h]) q) hd _ _ _ _ (by simp [Src.size, hx]) (Nat.zero_le _) h0
theorem while_wp {c : MT} {b : MS} (I : Env → Store → Prop) (μ : Env → Store → Nat) (hs : ∀ ρ st, I ρ st → (c ρ st).wp fun x st1 => if x = true then (b ρ st1).wp (fun ρ' st' => I ρ' st' ∧ μ ρ' st' < μ ρ st) N (fun ρ' st' => I ρ' st' ∧ μ ρ' st' < μ ρ st) Rt else N ρ st1) (h0 : I ρ st) : (mWhile c b ρ st).wp N B C Rt := by
  have key : ∀ (n : Nat) (ρ : Env) (st : Store), μ ρ st < n → I ρ st → (whileF n c b ρ st).wp N B C Rt := by
    intro n
    induction n with
    | zero => intro ρ st h; omega
    | succ n ih =>
      intro ρ st hn h
      unfold whileF
      obtain ⟨x, st1, e, hx⟩ := R.wp.ex (hs ρ st h)
      rw [e]
      simp only [R.toS]
      cases x with
      | false => exact hx
      | true =>
        simp only [if_true] at hx ⊢
        cases q : b ρ st1 with
        | nx ρ2 st2 => rw [q] at hx; exact ih ρ2 st2 (by have := hx.2; omega) hx.1
        | ct ρ2 st2 => rw [q] at hx; exact ih ρ2 st2 (by have := hx.2; omega) hx.1
        | bk ρ2 st2 => rw [q] at hx; exact hx
        | rt a st2 => rw [q] at hx; exact hx
        | er e ρ2 st2 => rw [q] at hx; exact hx.elim
        | bad => rw [q] at hx; exact hx.elim
  have h1 := key (μ ρ st + 1) ρ st (Nat.lt_succ_self _) h0
  rw [mWhile_of (μ ρ st + 1) rfl fun z => by rw [z] at h1; exact h1]
  exact h1
end
def Grown (st st' : Store) : Prop := ∃ g, st' = st ++ g
theorem Grown.refl (st : Store) : Grown st st := ⟨[], by simp⟩
theorem Grown.trans {a b c : Store} (h : Grown a b) (k : Grown b c) : Grown a c := by
  obtain ⟨g, rfl⟩ := h
  obtain ⟨g', rfl⟩ := k
  exact ⟨g ++ g', by simp⟩
theorem Grown.one (st : Store) (o : Ob) : Grown st (st ++ [o]) := ⟨[o], rfl⟩
theorem Grown.get {st st' : Store} (h : Grown st st') {i : Nat} {o : Ob} (e : st[i]? = some o) : st'[i]? = some o := by
  obtain ⟨g, rfl⟩ := h
  rw [List.getElem?_append_left (List.getElem?_eq_some_iff.mp e).1]
  exact e
theorem Grown.stL {st st' : Store} (h : Grown st st') {i : Nat} {xs : List A} (e : ML.stL st i = some xs) : ML.stL st' i = some xs := by
  unfold ML.stL
  rw [h.get (stL_eq e)]
theorem stL_of {st : Store} {i : Nat} {xs : List A} (e : st[i]? = some (.lst xs)) : stL st i = some xs := by
  unfold stL
  rw [e]
@[simp] theorem stL_new {st : Store} {xs : List A} : stL (st ++ [.lst xs]) st.length = some xs := stL_of (by simp)
section
variable {Q : A → Store → Prop} {QB : Bool → Store → Prop} {QI : Int → Store → Prop} {QS : Src → Store → Prop} {st : Store} {i j k : Int} {x y : Str} {xs ys : List A} {r q : Nat} {b c : Bool} {a d : A}
theorem w_if {p : Prop} [Decidable p] {α : Type} {v : α} {Q : α → Store → Prop} : (if p then R.ok v st else R.bad).wp Q ↔ p ∧ Q v st := by
  by_cases h : p <;> simp [h, R.wp]
@[simp] theorem w_add : (addA (.int i) (.int j) st).wp Q ↔ Q (.int (i + j)) st := Iff.rfl
@[simp] theorem w_addS : (addA (.str x) (.str y) st).wp Q ↔ x.length + y.length ≤ sizeLine ∧ Q (.str (x ++ y)) st := w_if
@[simp] theorem w_addT : (addA (.tup xs) (.tup ys) st).wp Q ↔ xs.length + ys.length ≤ sizeLine ∧ Q (.tup (xs ++ ys)) st := w_if
@[simp] theorem w_addL : (addA (.ref r) (.ref q) st).wp Q ↔ ∃ xs, stL st r = some xs ∧ ∃ ys, stL st q = some ys ∧ xs.length + ys.length ≤ sizeLine ∧ Q (.ref st.length) (st ++ [.lst (xs ++ ys)]) := by
  simp only [addA, stL]
  cases st[r]? with
  | none => simp [R.wp]
  | some o =>
    cases o with
    | oth u => simp [R.wp]
    | lst xs =>
      cases st[q]? with
      | none => simp [R.wp]
      | some o2 =>
        cases o2 with
        | oth u => simp [R.wp]
        | lst ys => simp [w_if]
@[simp] theorem w_sub : (subA (.int i) (.int j) st).wp Q ↔ Q (.int (i - j)) st := Iff.rfl
@[simp] theorem w_mul : (mulA (.int i) (.int j) st).wp Q ↔ CMulA i j ∧ Q (.int (i * j)) st := w_if
@[simp] theorem w_mulL : (mulA (.ref r) (.int k) st).wp Q ↔ ∃ xs, stL st r = some xs ∧ (-(2 ^ 63) ≤ k ∧ k < 2 ^ 63 ∧ xs.length * k.toNat ≤ sizeLine) ∧ Q (.ref st.length) (st ++ [.lst (List.replicate k.toNat xs).flatten]) := by
  simp only [mulA, stL]
  cases st[r]? with
  | none => simp [R.wp]
  | some o =>
    cases o with
    | oth u => simp [R.wp]
    | lst xs => simp only [w_if, Option.some.injEq, exists_eq_left']
@[simp] theorem w_mulT : (mulA (.tup xs) (.int k) st).wp Q ↔ (0 ≤ k ∧ k ≤ 1000000 ∧ xs.length * k.toNat ≤ sizeLine) ∧ Q (.tup (List.replicate k.toNat xs).flatten) st := w_if
@[simp] theorem w_fdiv : (fdivA (.int i) (.int j) st).wp Q ↔ (0 < j ∧ j.natAbs.log2 < 9000) ∧ Q (.int (i / j)) st := w_if
@[simp] theorem w_mod : (modA (.int i) (.int j) st).wp Q ↔ 0 < j ∧ Q (.int (i % j)) st := w_if
@[simp] theorem w_pow : (powA (.int i) (.int j) st).wp Q ↔ (0 ≤ j ∧ j ≤ 1000000 ∧ i.natAbs < 2 ^ 64) ∧ Q (.int (i ^ j.toNat)) st := w_if
@[simp] theorem w_and : (andA (.int i) (.int j) st).wp Q ↔ Q (.int (Builtin.bitAnd i j)) st := Iff.rfl
@[simp] theorem w_xor : (xorA (.int i) (.int j) st).wp Q ↔ Q (.int (Builtin.bitXor i j)) st := Iff.rfl
@[simp] theorem w_shr : (shrA (.int i) (.int j) st).wp Q ↔ 0 ≤ j ∧ Q (.int (i / 2 ^ j.toNat)) st := w_if
@[simp] theorem w_neg : (negA (.int i) st).wp Q ↔ Q (.int (-i)) st := Iff.rfl
@[simp] theorem w_lt : (ltA (.int i) (.int j) st).wp Q ↔ Q (.bl (decide (i < j))) st := Iff.rfl
@[simp] theorem w_gt : (gtA (.int i) (.int j) st).wp Q ↔ Q (.bl (decide (j < i))) st := Iff.rfl
@[simp] theorem w_ge : (geA (.int i) (.int j) st).wp Q ↔ Q (.bl (decide (j ≤ i))) st := Iff.rfl
@[simp] theorem w_ltS : (ltA (.str x) (.str y) st).wp Q ↔ Q (.bl (decide (x.cps.toList < y.cps.toList))) st := Iff.rfl
@[simp] theorem w_gtS : (gtA (.str x) (.str y) st).wp Q ↔ Q (.bl (decide (y.cps.toList < x.cps.toList))) st := Iff.rfl
@[simp] theorem w_eq : (eqA (.int i) (.int j) st).wp Q ↔ Q (.bl (decide (i = j))) st := Iff.rfl
@[simp] theorem w_eqS : (eqA (.str x) (.str y) st).wp Q ↔ Q (.bl (decide (x = y))) st := Iff.rfl
@[simp] theorem w_eqB : (eqA (.bl b) (.bl c) st).wp Q ↔ Q (.bl (decide (b = c))) st := Iff.rfl
@[simp] theorem w_eqN : (eqA .non .non st).wp Q ↔ Q (.bl true) st := Iff.rfl
@[simp] theorem w_eqIS : (eqA (.int i) (.str y) st).wp Q ↔ Q (.bl false) st := Iff.rfl
@[simp] theorem w_eqSI : (eqA (.str x) (.int j) st).wp Q ↔ Q (.bl false) st := Iff.rfl
@[simp] theorem w_ne : (neA (.int i) (.int j) st).wp Q ↔ Q (.bl (!decide (i = j))) st := Iff.rfl
@[simp] theorem w_neS : (neA (.str x) (.str y) st).wp Q ↔ Q (.bl (!decide (x = y))) st := Iff.rfl
@[simp] theorem w_neB : (neA (.bl b) (.bl c) st).wp Q ↔ Q (.bl (!decide (b = c))) st := Iff.rfl
@[simp] theorem w_isN : (isNA a .non st).wp Q ↔ Q (.bl (isNonA a)) st := by cases a <;> rfl
@[simp] theorem w_notN : (notNA a .non st).wp Q ↔ Q (.bl (!isNonA a)) st := by cases a <;> rfl
@[simp] theorem isNon_non : isNonA .non = true := rfl
@[simp] theorem isNon_int : isNonA (.int i) = false := rfl
@[simp] theorem isNon_str : isNonA (.str x) = false := rfl
@[simp] theorem isNon_tup : isNonA (.tup xs) = false := rfl
@[simp] theorem isNon_bl : isNonA (.bl b) = false := rfl
@[simp] theorem isNon_ref : isNonA (.ref r) = false := rfl
@[simp] theorem w_truN : (truA .non st).wp QB ↔ QB false st := Iff.rfl
@[simp] theorem w_truB : (truA (.bl b) st).wp QB ↔ QB b st := Iff.rfl
@[simp] theorem w_truI : (truA (.int i) st).wp QB ↔ QB (i != 0) st := Iff.rfl
@[simp] theorem w_truS : (truA (.str x) st).wp QB ↔ x.length ≤ sizeLine ∧ QB ((x.length : Int) != 0) st := w_if
@[simp] theorem w_truT : (truA (.tup xs) st).wp QB ↔ QB (!xs.isEmpty) st := Iff.rfl
@[simp] theorem w_truL : (truA (.ref r) st).wp QB ↔ ∃ xs, stL st r = some xs ∧ QB (!xs.isEmpty) st := by
  simp only [truA, stL]
  cases st[r]? with
  | none => simp [R.wp]
  | some o =>
    cases o with
    | oth u => simp [R.wp]
    | lst xs => simp [R.wp]
@[simp] theorem w_getB : (getB (.bl b) st).wp QB ↔ QB b st := Iff.rfl
@[simp] theorem w_getI : (getI (.int i) st).wp QI ↔ QI i st := Iff.rfl
@[simp] theorem w_ixT : (ixA (.tup xs) (.int i) st).wp Q ↔ ∃ d, atI xs i = some d ∧ Q d st := by
  simp only [ixA]
  cases atI xs i <;> simp [R.wp]
@[simp] theorem w_ixC : (ixA (.scr xs) (.int i) st).wp Q ↔ ∃ d, atI xs i = some d ∧ Q d st := by
  simp only [ixA]
  cases atI xs i <;> simp [R.wp]
@[simp] theorem w_ixL : (ixA (.ref r) (.int i) st).wp Q ↔ ∃ xs, stL st r = some xs ∧ ∃ d, atI xs i = some d ∧ Q d st := by
  simp only [ixA, stL]
  cases st[r]? with
  | none => simp [R.wp]
  | some o =>
    cases o with
    | oth u => simp [R.wp]
    | lst xs =>
      simp only [Option.some.injEq, exists_eq_left']
      cases atI xs i <;> simp [R.wp]
@[simp] theorem w_ixS : (ixA (.str x) (.int i) st).wp Q ↔ x.length ≤ sizeLine ∧ ∃ c, atI x.cps.toList i = some c ∧ Q (.str ⟨#[c]⟩) st := by
  simp only [ixA]
  by_cases h : x.length ≤ sizeLine
  · rw [if_pos h]
    cases atI x.cps.toList i <;> simp [R.wp, h]
  · rw [if_neg h]
    simp [R.wp, h]
@[simp] theorem w_abs : (absA [.int i] st).wp Q ↔ Q (.int (if i < 0 then -i else i)) st := Iff.rfl
@[simp] theorem w_int : (intA [.int i] st).wp Q ↔ Q (.int i) st := Iff.rfl
@[simp] theorem w_intB : (intA [.bl b] st).wp Q ↔ Q (.int (if b then 1 else 0)) st := Iff.rfl
@[simp] theorem w_max2 : (maxA [.int i, .int j] st).wp Q ↔ Q (.int (if j > i then j else i)) st := Iff.rfl
@[simp] theorem w_lenS : (lenA [.str x] st).wp Q ↔ x.length ≤ sizeLine ∧ Q (.int (x.length : Nat)) st := w_if
@[simp] theorem w_lenT : (lenA [.tup xs] st).wp Q ↔ Q (.int (xs.length : Nat)) st := Iff.rfl
@[simp] theorem w_lenC : (lenA [.scr xs] st).wp Q ↔ Q (.int (xs.length : Nat)) st := Iff.rfl
theorem itemsL_ref : itemsL (.ref r) st = stL st r := rfl
theorem itemsQ_ref : itemsQ (.ref r) st = stL st r := rfl
@[simp] theorem w_lenL : (lenA [.ref r] st).wp Q ↔ ∃ xs, stL st r = some xs ∧ Q (.int (xs.length : Nat)) st := by
  simp only [lenA]
  simp only [itemsQ_ref]
  cases stL st r <;> simp [R.wp]
@[simp] theorem w_listT : (listA [.tup xs] st).wp Q ↔ Q (.ref st.length) (st ++ [.lst xs]) := Iff.rfl
@[simp] theorem w_listC : (listA [.scr xs] st).wp Q ↔ Q (.ref st.length) (st ++ [.lst xs]) := Iff.rfl
@[simp] theorem w_listL : (listA [.ref r] st).wp Q ↔ ∃ xs, stL st r = some xs ∧ Q (.ref st.length) (st ++ [.lst xs]) := by
  simp only [listA]
  simp only [itemsQ_ref]
  cases stL st r <;> simp [R.wp]
@[simp] theorem w_tupT : (tupleA [.tup xs] st).wp Q ↔ Q (.tup xs) st := Iff.rfl
@[simp] theorem w_tupC : (tupleA [.scr xs] st).wp Q ↔ Q (.tup xs) st := Iff.rfl
@[simp] theorem w_tupL : (tupleA [.ref r] st).wp Q ↔ ∃ xs, stL st r = some xs ∧ Q (.tup xs) st := by
  simp only [tupleA]
  simp only [itemsL_ref]
  cases stL st r <;> simp [R.wp]
@[simp] theorem w_sumL : (sumA [.ref r] st).wp Q ↔ ∃ xs, stL st r = some xs ∧ ∃ ns, intsOf xs = some ns ∧ Q (.int ns.sum) st := by
  simp only [sumA]
  simp only [itemsL_ref]
  cases stL st r with
  | none => simp [R.wp]
  | some xs =>
    simp only [Option.bind_some, Option.some.injEq, exists_eq_left']
    cases intsOf xs <;> simp [R.wp]
@[simp] theorem w_ord : (ordA [.str x] st).wp Q ↔ x.length = 1 ∧ Q (.int (x.cps.getD 0 0 : Nat)) st := w_if
@[simp] theorem w_bits : (bitsA (.int i) st).wp Q ↔ Q (.int (Builtin.Int.intBits i : Nat)) st := Iff.rfl
@[simp] theorem w_isi {T : Ty} (h : isTy T a st = some b) : (isiA T a st).wp Q ↔ Q (.bl b) st := by
  unfold isiA
  rw [h]
  exact Iff.rfl
@[simp] theorem ty_tt : isTy .tup (.tup xs) st = some true := rfl
@[simp] theorem ty_ti : isTy .tup (.int i) st = some false := rfl
@[simp] theorem ty_ts : isTy .tup (.str x) st = some false := rfl
@[simp] theorem ty_tn : isTy .tup .non st = some false := rfl
@[simp] theorem ty_tb : isTy .tup (.bl b) st = some false := rfl
@[simp] theorem ty_st : isTy .str (.tup xs) st = some false := rfl
@[simp] theorem ty_si : isTy .str (.int i) st = some false := rfl
@[simp] theorem ty_ss : isTy .str (.str x) st = some true := rfl
@[simp] theorem ty_sn : isTy .str .non st = some false := rfl
@[simp] theorem ty_sb : isTy .str (.bl b) st = some false := rfl
@[simp] theorem ty_it : isTy .int (.tup xs) st = some false := rfl
@[simp] theorem ty_ii : isTy .int (.int i) st = some true := rfl
@[simp] theorem ty_is : isTy .int (.str x) st = some false := rfl
@[simp] theorem ty_in : isTy .int .non st = some false := rfl
@[simp] theorem ty_ib : isTy .int (.bl b) st = some true := rfl
@[simp] theorem ty_bt : isTy .bool (.tup xs) st = some false := rfl
@[simp] theorem ty_bi : isTy .bool (.int i) st = some false := rfl
@[simp] theorem ty_bs : isTy .bool (.str x) st = some false := rfl
@[simp] theorem ty_bn : isTy .bool .non st = some false := rfl
@[simp] theorem ty_bb : isTy .bool (.bl b) st = some true := rfl
@[simp] theorem isL_ref : isL (.ref r) st = (stL st r).isSome := by
  simp only [isL, stL]
  cases st[r]? with
  | none => rfl
  | some o => cases o <;> rfl
@[simp] theorem w_extendT {ys : List A} : (extendA (.ref r) [.tup ys] st).wp Q ↔ ∃ xs, stL st r = some xs ∧ xs.length + ys.length ≤ sizeLine ∧ Q .non (st.set r (.lst (xs ++ ys))) := by
  simp only [extendA, stL]
  cases st[r]? with
  | none => simp [R.wp]
  | some o =>
    cases o with
    | oth u => simp [R.wp]
    | lst xs => simp only [w_if, Option.some.injEq, exists_eq_left']
@[simp] theorem w_append : (appendA (.ref r) [a] st).wp Q ↔ ∃ xs, stL st r = some xs ∧ xs.length < sizeLine ∧ Q .non (st.set r (.lst (xs ++ [a]))) := by
  simp only [appendA, stL]
  cases st[r]? with
  | none => simp [R.wp]
  | some o =>
    cases o with
    | oth u => simp [R.wp]
    | lst xs => simp only [w_if, Option.some.injEq, exists_eq_left']
@[simp] theorem w_rng1 : (rngA [.int j] st).wp QS ↔ (-(2 ^ 62) ≤ j ∧ j < 2 ^ 62) ∧ QS (.rng 0 j.toNat) st := w_if
@[simp] theorem w_rng2 : (rngA [.int i, .int j] st).wp QS ↔ (-(2 ^ 62) ≤ i ∧ i < 2 ^ 62 ∧ -(2 ^ 62) ≤ j ∧ j < 2 ^ 62) ∧ QS (.rng i (j - i).toNat) st := w_if
@[simp] theorem w_srcT : (srcA (.tup xs) st).wp QS ↔ QS (.vals xs) st := Iff.rfl
@[simp] theorem w_srcC : (srcA (.scr xs) st).wp QS ↔ QS (.vals xs) st := Iff.rfl
@[simp] theorem w_srcS : (srcA (.str x) st).wp QS ↔ QS (.chars x) st := Iff.rfl
@[simp] theorem w_srcL : (srcA (.ref r) st).wp QS ↔ (stL st r).isSome = true ∧ QS (.lst r) st := by
  simp only [srcA, stL]
  cases st[r]? with
  | none => simp [R.wp]
  | some o =>
    cases o with
    | oth u => simp [R.wp]
    | lst xs => simp [R.wp]
@[simp] theorem w_zipT : (zipA [.tup xs, .tup ys] st).wp QS ↔ QS (.zipv xs ys) st := Iff.rfl
@[simp] theorem w_slT {lo hi : Option Int} : (slA (.tup xs) lo hi st).wp Q ↔ Q (.tup (cutA xs lo hi)) st := Iff.rfl
@[simp] theorem w_slL {lo hi : Option Int} : (slA (.ref r) lo hi st).wp Q ↔ ∃ xs, stL st r = some xs ∧ Q (.ref st.length) (st ++ [.lst (cutA xs lo hi)]) := by
  simp only [slA, stL]
  cases st[r]? with
  | none => simp [R.wp]
  | some o =>
    cases o with
    | oth u => simp [R.wp]
    | lst xs => simp [R.wp]
@[simp] theorem w_slS {lo hi : Option Int} : (slA (.str x) lo hi st).wp Q ↔ x.length ≤ sizeLine ∧ Q (.str (L2.cutS x lo hi)) st := w_if
@[simp] theorem ex_setA {N : Store → Prop} : (∃ st4, setA (.ref r) (.int k) d st = some st4 ∧ N st4) ↔ ∃ xs, stL st r = some xs ∧ ∃ j, L2.ixN xs.length k = some j ∧ N (st.set r (.lst (xs.set j d))) := by
  simp only [setA, stL]
  cases st[r]? with
  | none => simp
  | some o =>
    cases o with
    | oth u => simp
    | lst xs =>
      simp only [Option.some.injEq, exists_eq_left']
      cases L2.ixN xs.length k <;> simp
@[simp] theorem stL_set_some {st : Store} {r : Nat} {ys : List A} (h : (stL st r).isSome = true) : stL (st.set r (.lst ys)) r = some ys := by
  obtain ⟨xs, e⟩ := Option.isSome_iff_exists.mp h
  have := (List.getElem?_eq_some_iff.mp (stL_eq e)).1
  unfold stL
  rw [List.getElem?_set_self this]
theorem stL_set_self {st : Store} {r : Nat} {xs ys : List A} (h : stL st r = some xs) : stL (st.set r (.lst ys)) r = some ys := by
  have := (List.getElem?_eq_some_iff.mp (stL_eq h)).1
  unfold stL
  rw [List.getElem?_set_self this]
@[simp] theorem stL_set_ne {st : Store} {r q : Nat} {ys : List A} (h : r ≠ q) : stL (st.set r (.lst ys)) q = stL st q := by
  unfold stL
  rw [List.getElem?_set_ne h]
@[simp] theorem stL_pre {st g : Store} {r : Nat} (h : (stL st r).isSome = true) : stL (st ++ g) r = stL st r := by
  obtain ⟨xs, e⟩ := Option.isSome_iff_exists.mp h
  have e' := stL_eq e
  rw [e]
  exact stL_of (by rw [List.getElem?_append_left (List.getElem?_eq_some_iff.mp e').1, e'])
@[simp] theorem stL_end {st g : Store} : stL (st ++ g) st.length = stL g 0 := by
  unfold stL
  rw [List.getElem?_append_right (Nat.le_refl _), Nat.sub_self]
@[simp] theorem stL_end1 {st g : Store} {k : Nat} : stL (st ++ g) (st.length + k) = stL g k := by
  unfold stL
  rw [List.getElem?_append_right (Nat.le_add_right _ _), Nat.add_sub_cancel_left]
@[simp] theorem stL_end2 {st g : Store} {k m : Nat} : stL (st ++ g) (st.length + k + m) = stL g (k + m) := by
  rw [Nat.add_assoc]
  exact stL_end1
@[simp] theorem stL_z {xs : List A} {g : Store} : stL (.lst xs :: g) 0 = some xs := rfl
@[simp] theorem stL_s {o : Ob} {g : Store} {k : Nat} : stL (o :: g) (k + 1) = stL g k := by
  unfold stL
  rw [List.getElem?_cons_succ]
end
@[simp] theorem ixN_nn {n : Nat} {i : Int} (h : 0 ≤ i) : ixN n i = if i < n then some i.toNat else none := by
  unfold ixN
  rw [if_pos h]
@[simp] theorem atI_nn {α : Type} {xs : List α} {i : Int} (h : 0 ≤ i) : atI xs i = xs[i.toNat]? := by
  unfold atI
  rw [ixN_nn h]
  by_cases c : i < xs.length
  · rw [if_pos c]
    rfl
  · rw [if_neg c]
    exact (List.getElem?_eq_none (by omega)).symm
theorem ex_eq {α : Type} {p : α → Prop} {v : α} : (∃ a, v = a ∧ p a) ↔ p v := exists_eq_left'
@[simp] theorem cut_to {α : Type} {xs : List α} {j : Int} (h : 0 ≤ j) : cutA xs none (some j) = xs.take j.toNat := by
  unfold cutA HT.sIx
  have : ¬ j < 0 := by omega
  simp only [this, if_false, Nat.sub_zero, List.drop_zero]
  by_cases c : j.toNat ≤ xs.length
  · rw [Nat.min_eq_left c]
  · rw [Nat.min_eq_right (by omega), List.take_of_length_le (Nat.le_refl _), List.take_of_length_le (by omega)]
@[simp] theorem cut_from {α : Type} {xs : List α} {i : Int} (h : 0 ≤ i) : cutA xs (some i) none = xs.drop i.toNat := by
  unfold cutA HT.sIx
  have : ¬ i < 0 := by omega
  simp only [this, if_false]
  rw [List.take_of_length_le (by rw [List.length_drop]; exact Nat.le_refl _)]
  by_cases c : i.toNat ≤ xs.length
  · rw [Nat.min_eq_left c]
  · rw [Nat.min_eq_right (by omega), List.drop_of_length_le (Nat.le_refl _), List.drop_of_length_le (by omega)]
@[simp] theorem cut_mid {α : Type} {xs : List α} {i j : Int} (h : 0 ≤ i) (h2 : 0 ≤ j) : cutA xs (some i) (some j) = (xs.take j.toNat).drop i.toNat := by
  unfold cutA HT.sIx
  have q1 : ¬ i < 0 := by omega
  have q2 : ¬ j < 0 := by omega
  simp only [q1, q2, if_false]
  refine List.ext_getElem? fun k => ?_
  simp only [List.getElem?_take, List.getElem?_drop]
  by_cases c : k < min j.toNat xs.length - min i.toNat xs.length
  · have e : min i.toNat xs.length = i.toNat := by omega
    rw [if_pos c, e, if_pos (by omega)]
  · rw [if_neg c]
    by_cases d : i.toNat + k < j.toNat
    · rw [if_pos d, List.getElem?_eq_none (by omega)]
    · rw [if_neg d]
@[simp] theorem cut_all' {α : Type} {xs : List α} : cutA xs none none = xs := by
  unfold cutA HT.sIx
  simp
@[simp] theorem size_eq : sizeLine = 16777216 := PySem.sizeLine_eq
end ML
namespace Law
open PySem L2 ML
def m_law_tape : MF := mFn 3 1 (mSeq (mSet 1 (mC (.int 7)))
    (mSeq (mFor (mSrc (mVar 0)) (.one 2) (mSet 1 (mBin modA (mCa intA (mCons (mBin addA (mBin mulA (mVar 1) (mC (.int 31))) (mCa absA (mCons (mCa intA (mCons (mVar 2) mNil)) mNil))) mNil)) (mC (.int 2147483647)))))
    (mRet (mLst (mCons (mCa listA (mCons (mVar 0) mNil)) (mCons (mC (.int 0)) (mCons (mC (.int 0)) (mCons (mVar 1) mNil))))))))
def m_law_draw : MF := mFn 4 2 (mSeq (mIfS (mGB (mBin eqA (mBin ixA (mVar 0) (mC (.int 2))) (mC (.int 0)))) (mSeq (mSet 2 (mBin ixA (mVar 0) (mC (.int 1))))
    (mSeq (mSet 3 (mC (.int 0)))
    (mSeq (mIfS (mGB (mBin ltA (mVar 2) (mCa lenA (mCons (mBin ixA (mVar 0) (mC (.int 0))) mNil)))) (mSet 3 (mCa absA (mCons (mCa intA (mCons (mBin ixA (mBin ixA (mVar 0) (mC (.int 0))) (mVar 2)) mNil)) mNil))) (mSeq (mPut (mVar 0) (mC (.int 3)) (mBin modA (mCa intA (mCons (mBin addA (mBin addA (mBin mulA (mBin ixA (mVar 0) (mC (.int 3))) (mC (.int 48271))) (mVar 2)) (mC (.int 1))) mNil)) (mC (.int 2147483647))))
    (mSet 3 (mBin ixA (mVar 0) (mC (.int 3))))))
    (mSeq (mPut (mVar 0) (mC (.int 1)) (mBin addA (mVar 2) (mC (.int 1))))
    (mSeq (mIfS (mGB (mBin ltA (mVar 3) (mBin powA (mC (.int 10)) (mC (.int 18))))) (mSeq (mSet 3 (mBin modA (mCa intA (mCons (mBin addA (mBin addA (mBin mulA (mVar 3) (mC (.int 48271))) (mBin mulA (mVar 2) (mC (.int 69621)))) (mC (.int 5))) mNil)) (mC (.int 2147483647))))
    (mSeq (mSet 3 (mBin modA (mCa intA (mCons (mBin mulA (mVar 3) (mC (.int 69621))) mNil)) (mC (.int 2147483629))))
    (mRet (mBin modA (mCa intA (mCons (mVar 3) mNil)) (mCa maxA (mCons (mVar 1) (mCons (mC (.int 1)) mNil))))))) mNext)
    (mPut (mVar 0) (mC (.int 2)) (mVar 3))))))) mNext)
    (mSeq (mSet 3 (mBin ixA (mVar 0) (mC (.int 2))))
    (mSeq (mPut (mVar 0) (mC (.int 2)) (mBin fdivA (mVar 3) (mCa maxA (mCons (mVar 1) (mCons (mC (.int 2)) mNil)))))
    (mRet (mBin modA (mCa intA (mCons (mVar 3) mNil)) (mCa maxA (mCons (mVar 1) (mCons (mC (.int 1)) mNil))))))))
structure TpOk (st : Store) : Prop where
  ex : ∃ (ns : List Int) (p r t : Int), 0 ≤ p ∧ st[0]? = some (.lst (ns.map .int)) ∧ st[1]? = some (.lst [.ref 0, .int p, .int r, .int t])
structure Kp (st st' : Store) : Prop where
  len : st.length ≤ st'.length
  get : ∀ i, 1 < i → i < st.length → st'[i]? = st[i]?
theorem Kp.refl (st : Store) : Kp st st := ⟨Nat.le_refl _, fun _ _ _ => rfl⟩
theorem Kp.trans {a b c : Store} (h : Kp a b) (k : Kp b c) : Kp a c := ⟨Nat.le_trans h.len k.len, fun i h1 h2 => by rw [k.get i h1 (Nat.lt_of_lt_of_le h2 h.len), h.get i h1 h2]⟩
theorem Kp.grown {a b : Store} (h : Grown a b) : Kp a b := by
  obtain ⟨g, rfl⟩ := h
  exact ⟨by simp, fun i _ h => List.getElem?_append_left h⟩
theorem Kp.lst {a b : Store} (h : Kp a b) {i : Nat} {o : Ob} (hi : 1 < i) (e : a[i]? = some o) : b[i]? = some o := by
  rw [h.get i hi (List.getElem?_eq_some_iff.mp e).1]
  exact e
theorem Kp.stL {a b : Store} (h : Kp a b) {i : Nat} {xs : List A} (hi : 1 < i) (e : ML.stL a i = some xs) : ML.stL b i = some xs := stL_of (h.lst hi (stL_eq e))
theorem TpOk.grown {a b : Store} (t : TpOk a) (h : Grown a b) : TpOk b := by
  obtain ⟨ns, p, r, q, h0, h1, h2⟩ := t.ex
  exact ⟨ns, p, r, q, h0, h.get h1, h.get h2⟩
theorem TpOk.len {a : Store} (t : TpOk a) : 2 ≤ a.length := by
  obtain ⟨ns, p, r, q, h0, h1, h2⟩ := t.ex
  exact (List.getElem?_eq_some_iff.mp h2).1
theorem tape_set {st : Store} {ns : List Int} {p r q : Int} (h0 : 0 ≤ p) (h1 : st[0]? = some (.lst (ns.map .int))) (h2 : st[1]?.isSome = true) : TpOk (st.set 1 (.lst [.ref 0, .int p, .int r, .int q])) := by
  obtain ⟨o, e⟩ := Option.isSome_iff_exists.mp h2
  refine ⟨ns, p, r, q, h0, ?_, ?_⟩
  · rw [List.getElem?_set_ne (by decide)]
    exact h1
  · rw [List.getElem?_set_self (List.getElem?_eq_some_iff.mp e).1]
theorem kp_set {st : Store} {o : Ob} : Kp st (st.set 1 o) := ⟨by simp, fun i h _ => by rw [List.getElem?_set_ne (by omega)]⟩
theorem max_pos {many : Int} : 0 < (if many < 1 then 1 else many) := by split <;> omega
theorem max_pos2 {many : Int} : 0 < (if many < 2 then 2 else many) := by split <;> omega
theorem max_eq {many : Int} : (if many < 1 then 1 else many) = max many 1 := by
  split <;> omega
theorem max_log {many : Int} (h : many.natAbs < 2 ^ 200) : (if many < 2 then 2 else many).natAbs.log2 < 9000 := by
  split
  · decide
  · exact Nat.lt_of_lt_of_le (PySem.Flt.log2_lt_of (by decide) h) (by decide)
theorem small64 {i : Int} (h : -1000000000000000000 ≤ i) (h2 : i ≤ 1000000000000000000) : -(2 ^ 64) < i ∧ i < 2 ^ 64 := by omega
theorem cmul_r {i j : Int} (h : -1000000000000000000 ≤ j) (h2 : j ≤ 1000000000000000000) : CMulA i j := .inl (.inr (small64 h h2))
theorem cmul_l {i j : Int} (h : -1000000000000000000 ≤ i) (h2 : i ≤ 1000000000000000000) : CMulA i j := .inl (.inl (small64 h h2))
theorem draw_wp {st : Store} {many : Int} {Q : A → Store → Prop} (t : TpOk st) (hm : many.natAbs < 2 ^ 200) (k : ∀ (n : Int) st', 0 ≤ n → n < max many 1 → TpOk st' → Kp st st' → st'.length = st.length → Q (.int n) st') : (m_law_draw [.ref 1, .int many] st).wp Q := by
  obtain ⟨ns, p, r, q, h0, h1, h2⟩ := t.ex
  have g1 := stL_of h1
  have g2 := stL_of h2
  have hs : st[1]?.isSome = true := by rw [h2]; rfl
  have fin : ∀ (n r' p' q' : Int) st', 0 ≤ p' → st' = st.set 1 (.lst [.ref 0, .int p', .int r', .int q']) → Q (.int (n % (if many < 1 then 1 else many))) st' := fun n r' p' q' st' hp e => by
    subst e
    refine k _ _ (Int.emod_nonneg _ (by have := max_pos (many := many); omega)) ?_ (tape_set hp h1 hs) kp_set (by simp)
    rw [← max_eq]
    exact Int.emod_lt_of_pos _ max_pos
  have c1 : CMulA p 69621 := cmul_r (by decide) (by decide)
  have c2 : CMulA q 48271 := cmul_r (by decide) (by decide)
  have c3 : ∀ i, CMulA i 48271 := fun i => cmul_r (by decide) (by decide)
  have c4 : ∀ i, CMulA i 69621 := fun i => cmul_r (by decide) (by decide)
  by_cases hr : r = 0
  · by_cases hp : p < ns.length
    · have hpn : p.toNat < ns.length := by omega
      simp only [m_law_draw] 
      simp [g1, g2, hr, hp, h0, hpn, max_pos, max_pos2, max_log hm, c3, c4]
      split <;> split <;> exact fin _ _ (p + 1) _ _ (by omega) rfl
    · simp only [m_law_draw] 
      simp [g1, g2, hr, hp, h0, max_pos, max_pos2, max_log hm, c3, c4]
      split <;> exact fin _ _ (p + 1) _ _ (by omega) rfl
  · simp only [m_law_draw] 
    simp [g1, g2, hr, max_pos, max_pos2, max_log hm]
    exact fin _ _ _ _ _ h0 rfl
theorem tape_wp {ns : List Int} {Q : A → Store → Prop} (k : ∀ st, TpOk st → st.length = 2 → Q (.ref 1) st) : (m_law_tape [.scr (ns.map .int)] []).wp Q := by
  simp only [m_law_tape]
  simp
  refine for_vals (fun i ρ st => st = [] ∧ ∃ t v, ρ = [some (.scr (ns.map .int)), some (.int t), v]) ⟨rfl, 7, none, rfl⟩ ?_ ?_
  · rintro i x ρ st hx ⟨rfl, t, v, rfl⟩
    rw [List.getElem?_map] at hx
    cases e : ns[i]? with
    | none => rw [e] at hx; cases hx
    | some n =>
      rw [e] at hx
      cases hx
      refine ⟨_, rfl, ?_⟩
      simp
      exact cmul_r (by decide) (by decide)
  · rintro ρ st ⟨rfl, t, v, rfl⟩
    simp
    exact k _ ⟨ns, 0, 0, t, by decide, rfl, rfl⟩ rfl
mutual
/-- no list, no instance in it -/
def plainA : A → Bool
  | .tup xs => plainAs xs
  | .scr _ => false
  | .ref _ => false
  | _ => true
def plainAs : List A → Bool
  | [] => true
  | x :: xs => plainA x && plainAs xs
end
mutual
def depA : A → Nat
  | .tup xs => depAs xs + 1
  | _ => 0
def depAs : List A → Nat
  | [] => 0
  | x :: xs => max (depA x) (depAs xs)
end
theorem plain_get : ∀ {xs : List A} {i : Nat} {x : A}, plainAs xs = true → xs[i]? = some x → plainA x = true
  | [], _, _, _, h => by simp at h
  | y :: ys, 0, x, hp, h => by
    simp at h
    subst h
    simp only [plainAs, Bool.and_eq_true] at hp
    exact hp.1
  | y :: ys, i + 1, x, hp, h => by
    simp only [plainAs, Bool.and_eq_true] at hp
    exact plain_get (i := i) hp.2 (by simpa using h)
theorem dep_get : ∀ {xs : List A} {i : Nat} {x : A}, xs[i]? = some x → depA x ≤ depAs xs
  | [], _, _, h => by simp at h
  | y :: ys, 0, x, h => by
    simp at h
    subst h
    simp only [depAs]
    omega
  | y :: ys, i + 1, x, h => by
    have := dep_get (xs := ys) (i := i) (x := x) (by simpa using h)
    simp only [depAs]
    omega
def m_law_alike : Nat → MF
  | 0 => fun _ _ => .bad
  | n + 1 => mFn 3 2 (mSeq (mIfS (mTru (mUn (isiA .tup) (mVar 1))) (mSeq (mIfS (mOr (mNot (mTru (mUn (isiA .tup) (mVar 0)))) (mGB (mBin neA (mCa lenA (mCons (mVar 0) mNil)) (mCa lenA (mCons (mVar 1) mNil))))) (mRet (mC (.bl false))) mNext)
    (mSeq (mFor (mRng (mCons (mCa lenA (mCons (mVar 1) mNil)) mNil)) (.one 2) (mIfS (mNot (mTru (mCall (m_law_alike n) (mCons (mBin ixA (mVar 0) (mVar 2)) (mCons (mBin ixA (mVar 1) (mVar 2)) mNil))))) (mRet (mC (.bl false))) mNext))
    (mRet (mC (.bl true))))) mNext)
    (mSeq (mIfS (mGB (mBin isNA (mVar 1) (mC .non))) (mRet (mBin isNA (mVar 0) (mC .non))) mNext)
    (mSeq (mIfS (mTru (mUn (isiA .str) (mVar 1))) (mRet (mAndV (mUn (isiA .str) (mVar 0)) (mBin eqA (mVar 0) (mVar 1)))) mNext)
    (mSeq (mIfS (mGB (mBin neA (mUn (isiA .bool) (mVar 0)) (mUn (isiA .bool) (mVar 1)))) (mRet (mC (.bl false))) mNext)
    (mRet (mAndV (mUn (isiA .int) (mVar 0)) (mBin eqA (mVar 0) (mVar 1))))))))
mutual
def fewA : A → Bool
  | .tup xs => decide (xs.length ≤ 16777216) && fewAs xs
  | _ => true
def fewAs : List A → Bool
  | [] => true
  | x :: xs => fewA x && fewAs xs
end
theorem few_get : ∀ {xs : List A} {i : Nat} {x : A}, fewAs xs = true → xs[i]? = some x → fewA x = true
  | [], _, _, _, h => by simp at h
  | y :: ys, 0, x, hp, h => by
    simp at h
    subst h
    simp only [fewAs, Bool.and_eq_true] at hp
    exact hp.1
  | y :: ys, i + 1, x, hp, h => by
    simp only [fewAs, Bool.and_eq_true] at hp
    exact few_get (i := i) hp.2 (by simpa using h)
theorem alike_wp : ∀ (n : Nat) {a : A} {st : Store} {Q : A → Store → Prop}, plainA a = true → fewA a = true → depA a < n → Q (.bl true) st → (m_law_alike n [a, a] st).wp Q
  | 0, a, st, Q, _, _, h, _ => by omega
  | n + 1, a, st, Q, hp, hf, hd, hq => by
    cases a with
    | tup xs =>
      simp only [plainA] at hp
      simp only [fewA, Bool.and_eq_true, decide_eq_true_eq] at hf
      simp only [depA] at hd
      simp [m_law_alike]
      refine ⟨by omega, ?_⟩
      refine for_rng (fun i ρ st' => st' = st ∧ ∃ v, ρ = [some (.tup xs), some (.tup xs), v]) ⟨rfl, none, rfl⟩ ?_ ?_
      · rintro i ρ st' hi ⟨rfl, v, rfl⟩
        refine ⟨_, rfl, ?_⟩
        have e : xs[i]? = some xs[i] := List.getElem?_eq_getElem hi
        simp [e]
        have := dep_get e
        refine alike_wp n (plain_get hp e) (few_get hf.2 e) (by omega) ?_
        simp
      · rintro ρ st' ⟨rfl, v, rfl⟩
        simpa using hq
    | scr xs => cases hp
    | ref r => cases hp
    | non => simpa [m_law_alike] using hq
    | bl b => simpa [m_law_alike] using hq
    | int i => simpa [m_law_alike] using hq
    | str x => simpa [m_law_alike] using hq
mutual
def cleanA : A → Bool
  | .non => true
  | .int _ => true
  | .str x => PySem.PyData.strOk x
  | .tup xs => cleanAs xs
  | _ => false
def cleanAs : List A → Bool
  | [] => true
  | x :: xs => cleanA x && cleanAs xs
end
mutual
def toD : A → PyData
  | .int i => .int i
  | .str x => .str x
  | .tup xs => .tuple (toDs xs)
  | _ => .none
def toDs : List A → List PyData
  | [] => []
  | x :: xs => toD x :: toDs xs
end
mutual
theorem clean_data (f : Nat → Option PyData) : ∀ {a : A}, cleanA a = true → dataW f a = some (toD a)
  | .non, _ => rfl
  | .int _, _ => rfl
  | .str _, _ => rfl
  | .tup xs, h => by
    simp only [cleanA] at h
    simp only [dataW, toD, clean_datas f h]
    rfl
  | .bl _, h => nomatch h
  | .scr _, h => nomatch h
  | .ref _, h => nomatch h
theorem clean_datas (f : Nat → Option PyData) : ∀ {xs : List A}, cleanAs xs = true → dataWs f xs = some (toDs xs)
  | [], _ => rfl
  | x :: xs, h => by
    simp only [cleanAs, Bool.and_eq_true] at h
    simp only [dataWs, toDs, clean_data f h.1, clean_datas f h.2]
end
mutual
theorem clean_lay : ∀ {a : A}, cleanA a = true → (toD a).canLay0 = true ∧ (toD a).depth = depA a
  | .non, _ => ⟨rfl, rfl⟩
  | .int _, _ => ⟨rfl, rfl⟩
  | .str x, h => ⟨h, rfl⟩
  | .tup xs, h => by
    simp only [cleanA] at h
    obtain ⟨h1, h2⟩ := clean_lays h
    exact ⟨h1, by simp only [toD, PyData.depth, depA, h2]⟩
  | .bl _, h => nomatch h
  | .scr _, h => nomatch h
  | .ref _, h => nomatch h
theorem clean_lays : ∀ {xs : List A}, cleanAs xs = true → PyData.canLayAll0 (toDs xs) = true ∧ PyData.depthAll (toDs xs) = depAs xs
  | [], _ => ⟨rfl, rfl⟩
  | x :: xs, h => by
    simp only [cleanAs, Bool.and_eq_true] at h
    obtain ⟨h1, h2⟩ := clean_lay h.1
    obtain ⟨h3, h4⟩ := clean_lays h.2
    exact ⟨by simp only [toDs, PyData.canLayAll0, h1, h3, Bool.and_self], by simp only [toDs, PyData.depthAll, depAs, h2, h4]⟩
end
mutual
theorem clean_eqv : ∀ {a b : A}, cleanA a = true → cleanA b = true → (PyData.eqv (toD a) (toD b) = true ↔ a = b)
  | .non, b, _, hb => by
    cases b <;> first | (simp [toD, PyData.eqv]; done) | cases hb
  | .int i, b, _, hb => by
    cases b <;> first | (simp [toD, PyData.eqv]; done) | cases hb
  | .str x, b, _, hb => by
    cases b <;> first | (simp [toD, PyData.eqv]; done) | cases hb
  | .tup xs, b, ha, hb => by
    cases b with
    | tup ys =>
      simp only [cleanA] at ha hb
      simp only [toD, PyData.eqv, A.tup.injEq]
      exact clean_eqvs ha hb
    | non => simp [toD, PyData.eqv]
    | int i => simp [toD, PyData.eqv]
    | str x => simp [toD, PyData.eqv]
    | _ => cases hb
  | .bl _, _, h, _ => nomatch h
  | .scr _, _, h, _ => nomatch h
  | .ref _, _, h, _ => nomatch h
theorem clean_eqvs : ∀ {xs ys : List A}, cleanAs xs = true → cleanAs ys = true → (PyData.eqvAll (toDs xs) (toDs ys) = true ↔ xs = ys)
  | [], [], _, _ => by simp [toDs, PyData.eqvAll]
  | [], _ :: _, _, _ => by simp [toDs, PyData.eqvAll]
  | _ :: _, [], _, _ => by simp [toDs, PyData.eqvAll]
  | x :: xs, y :: ys, ha, hb => by
    simp only [cleanAs, Bool.and_eq_true] at ha hb
    simp only [toDs, PyData.eqvAll, Bool.and_eq_true, List.cons.injEq]
    rw [clean_eqv ha.1 hb.1, clean_eqvs ha.2 hb.2]
end
theorem clean_shaped {a : A} (h : cleanA a = true) (hd : depA a ≤ 64) : SeqAt.shaped (toD a) = true := by
  obtain ⟨h1, h2⟩ := clean_lay h
  unfold SeqAt.shaped
  rw [h1, h2]
  simpa using hd
open Classical in
theorem eqS_clean {a b : A} {k : Bool} (h : eqS a b = some k) (ha : cleanA a = true) (hb : cleanA b = true) : k = decide (a = b) := by
  cases a <;> cases b <;> first | (cases h; simp; done) | cases h | cases ha | cases hb
open Classical in
theorem eqB_clean {a b : A} {st : Store} (ha : cleanA a = true) (hb : cleanA b = true) (da : depA a ≤ 64) (db : depA b ≤ 64) : eqB a b st = some (decide (a = b)) := by
  unfold eqB
  cases e : eqS a b with
  | some k => rw [eqS_clean e ha hb]
  | none =>
    unfold dataOf
    rw [clean_data _ ha, clean_data _ hb]
    simp only [clean_shaped ha da, clean_shaped hb db, and_self, if_true, Option.some.injEq]
    rw [Bool.eq_iff_iff, clean_eqv ha hb]
    simp
theorem plain_of_clean : ∀ {a : A}, cleanA a = true → plainA a = true := fun {a} => by
  refine A.rec (motive_1 := fun a => cleanA a = true → plainA a = true) (motive_2 := fun xs => cleanAs xs = true → plainAs xs = true) ?_ ?_ ?_ ?_ ?_ ?_ ?_ ?_ ?_ a
  · intro _; rfl
  · intro _ h; cases h
  · intro _ _; rfl
  · intro _ _; rfl
  · intro xs ih h; exact ih h
  · intro _ _ h; cases h
  · intro _ h; cases h
  · intro _; rfl
  · intro x xs h1 h2 h
    simp only [cleanAs, Bool.and_eq_true] at h
    simp only [plainAs, h1 h.1, h2 h.2, Bool.and_self]
end Law
namespace Law
open PySem L2 ML
def m_law_sign : MF := mFn 2 1 (mSeq (mSet 1 (mC (.str " !\"#$&'()*+,-./0123456789:;<=>?@ABCDEFGHIJKLMNOPQRSTUVWXYZ[\\]^_`")))
    (mSeq (mSet 1 (mBin addA (mVar 1) (mC (.str "abcdefghijklmnopqrstuvwxyz{|}~"))))
    (mRet (mBin ixA (mVar 1) (mCall m_law_draw (mCons (mVar 0) (mCons (mC (.int 94)) mNil)))))))
def m_law_word : MF := mFn 3 1 (mSeq (mSet 1 (mBin ixA (mLst (mCons (mC (.str "")) (mCons (mC (.str "")) (mCons (mC (.str "to")) (mCons (mC (.str "abcdefghij0123456")) mNil))))) (mCall m_law_draw (mCons (mVar 0) (mCons (mC (.int 4)) mNil)))))
    (mSeq (mFor (mRng (mCons (mCall m_law_draw (mCons (mVar 0) (mCons (mC (.int 4)) mNil))) mNil)) (.one 2) (mSet 1 (mBin addA (mVar 1) (mCall m_law_sign (mCons (mVar 0) mNil)))))
    (mRet (mVar 1))))
def m_law_scalar : MF := mFn 3 1 (mSeq (mSet 1 (mCall m_law_draw (mCons (mVar 0) (mCons (mC (.int 7)) mNil))))
    (mSeq (mIfS (mGB (mBin eqA (mVar 1) (mC (.int 0)))) (mRet (mCall m_law_word (mCons (mVar 0) mNil))) mNext)
    (mSeq (mIfS (mGB (mBin eqA (mVar 1) (mC (.int 1)))) (mSeq (mSet 2 (mLst (mCons (mC (.int 0)) (mCons (mC (.int 1)) (mCons (mC (.int 65535)) (mCons (mC (.int 65536)) (mCons (mC (.int 65537)) (mCons (mC (.int 4294967295)) (mCons (mC (.int 4294967296)) (mCons (mC (.int 281474976710656)) (mCons (mBin subA (mBin powA (mC (.int 10)) (mC (.int 15))) (mC (.int 1))) (mCons (mBin powA (mC (.int 10)) (mC (.int 15))) mNil))))))))))))
    (mRet (mBin mulA (mBin ixA (mVar 2) (mCall m_law_draw (mCons (mVar 0) (mCons (mC (.int 10)) mNil)))) (mBin subA (mC (.int 1)) (mBin mulA (mC (.int 2)) (mCall m_law_draw (mCons (mVar 0) (mCons (mC (.int 2)) mNil)))))))) mNext)
    (mSeq (mIfS (mGB (mBin eqA (mVar 1) (mC (.int 2)))) (mRet (mBin mulA (mBin subA (mCall m_law_draw (mCons (mVar 0) (mCons (mC (.int 2000001)) mNil))) (mC (.int 1000000))) (mBin ixA (mLst (mCons (mC (.int 1)) (mCons (mC (.int 65536)) (mCons (mC (.int 1000000000)) mNil)))) (mCall m_law_draw (mCons (mVar 0) (mCons (mC (.int 3)) mNil)))))) mNext)
    (mSeq (mIfS (mGB (mBin eqA (mVar 1) (mC (.int 3)))) (mRet (mBin subA (mCall m_law_draw (mCons (mVar 0) (mCons (mBin addA (mBin mulA (mC (.int 2)) (mBin powA (mC (.int 10)) (mC (.int 15)))) (mC (.int 1))) mNil))) (mBin powA (mC (.int 10)) (mC (.int 15))))) mNext)
    (mRet (mCall m_law_draw (mCons (mVar 0) (mCons (mC (.int 9)) mNil)))))))))
def m_law_element : MF := mFn 2 1 (mSeq (mSet 1 (mCall m_law_scalar (mCons (mVar 0) mNil)))
    (mSeq (mIfS (mGB (mBin eqA (mCall m_law_draw (mCons (mVar 0) (mCons (mC (.int 4)) mNil))) (mC (.int 0)))) (mRet (mTup (mCons (mVar 1) (mCons (mCall m_law_scalar (mCons (mVar 0) mNil)) mNil)))) mNext)
    (mRet (mVar 1))))
structure SStr (x : Str) : Prop where
  len : x.length ≤ 20
  ch : ∀ (c : Nat), c ∈ x.cps.toList → 32 ≤ c ∧ c < 127
def Sca (a : A) : Prop := (∃ x, a = .str x ∧ SStr x) ∨ ∃ i : Int, a = .int i ∧ -1000000000000000 ≤ i ∧ i ≤ 1000000000000000
def El (a : A) : Prop := Sca a ∨ ∃ x y, a = .tup [x, y] ∧ Sca x ∧ Sca y
def signL : List Nat := [32,33,34,35,36,38,39,40,41,42,43,44,45,46,47,48,49,50,51,52,53,54,55,56,57,58,59,60,61,62,63,64,65,66,67,68,69,70,71,72,73,74,75,76,77,78,79,80,81,82,83,84,85,86,87,88,89,90,91,92,93,94,95,96,97,98,99,100,101,102,103,104,105,106,107,108,109,110,111,112,113,114,115,116,117,118,119,120,121,122,123,124,125,126]
theorem sign_eq : ((Str.ofString " !\"#$&'()*+,-./0123456789:;<=>?@ABCDEFGHIJKLMNOPQRSTUVWXYZ[\\]^_`") ++ (Str.ofString "abcdefghijklmnopqrstuvwxyz{|}~") : Str) = ⟨signL.toArray⟩ := by decide +kernel
theorem sign_wp {st : Store} {Q : A → Store → Prop} (t : TpOk st) (k : ∀ (c : Nat) st', 32 ≤ c → c < 127 → TpOk st' → Kp st st' → st'.length = st.length → Q (.str ⟨#[c]⟩) st') : (m_law_sign [.ref 1] st).wp Q := by
  simp only [m_law_sign]
  simp only [wp_fn, sp_seq, sp_set, wp_c, wp_bin, wp_var, sp_ret, wp_call, wp_cons, wp_nil, w_addS, List.map_cons, List.map_nil, List.set_cons_succ, List.set_cons_zero, List.getElem?_cons_succ, List.getElem?_cons_zero, Option.some.injEq, ex_eq, List.length_cons, List.length_nil, List.cons_append, List.nil_append, List.replicate]
  refine ⟨trivial, by decide +kernel, ?_⟩
  rw [sign_eq]
  refine draw_wp t (by decide) fun n st1 na nb t1 k1 l1 => ?_
  rw [w_ixS]
  refine ⟨by decide +kernel, ?_⟩
  have hn : n.toNat < signL.length := by
    have : signL.length = 94 := by decide +kernel
    omega
  have hs : ∀ c ∈ signL, 32 ≤ c ∧ c < 127 := by decide +kernel
  refine ⟨signL[n.toNat], ?_, ?_⟩
  · rw [atI_nn na]
    exact List.getElem?_eq_getElem hn
  · obtain ⟨h1, h2⟩ := hs _ (List.getElem_mem hn)
    exact k _ _ h1 h2 t1 k1 l1
def WdI (st0 : Store) (i : Nat) (ρ : ML.Env) (st : Store) : Prop := ∃ (x : Str) (v : Option A), x.length ≤ 17 + i ∧ (∀ (c : Nat), c ∈ x.cps.toList → 32 ≤ c ∧ c < 127) ∧ TpOk st ∧ Kp st0 st ∧ ρ = [some (.ref 1), some (.str x), v]
theorem word_wp {st : Store} {Q : A → Store → Prop} (t : TpOk st) (k : ∀ (x : Str) st', SStr x → TpOk st' → Kp st st' → Q (.str x) st') : (m_law_word [.ref 1] st).wp Q := by
  simp only [m_law_word]
  simp only [wp_fn, List.map_cons, List.map_nil, List.length_cons, List.length_nil, List.cons_append, List.nil_append, List.replicate]
  refine ⟨trivial, ?_⟩
  refine seq_cut (WdI st 0) ?_ ?_
  · simp only [sp_set, wp_bin, wp_lst, wp_cons, wp_c, wp_nil, wp_call, wp_var, List.getElem?_cons_zero, Option.some.injEq, ex_eq]
    refine ⟨by simp [sizeLine], ?_⟩
    have g : Grown st (st ++ [.lst [.str "", .str "", .str "to", .str "abcdefghij0123456"]]) := ⟨_, rfl⟩
    refine draw_wp (t.grown g) (by decide) fun n st1 na nb t1 k1 l1 => ?_
    have hl : stL (st ++ [.lst [.str "", .str "", .str "to", .str "abcdefghij0123456"]]) st.length = some [.str "", .str "", .str "to", .str "abcdefghij0123456"] := by simp
    have h2 := t.len
    have h1 := k1.stL (by omega) hl
    rw [w_ixL]
    have hk := (Kp.grown g).trans k1
    have hn : n = 0 ∨ n = 1 ∨ n = 2 ∨ n = 3 := by omega
    have e0 : (Str.ofString "").length ≤ 17 + 0 ∧ ∀ (c : Nat), c ∈ (Str.ofString "").cps.toList → 32 ≤ c ∧ c < 127 := by decide +kernel
    have e1 : (Str.ofString "to").length ≤ 17 + 0 ∧ ∀ (c : Nat), c ∈ (Str.ofString "to").cps.toList → 32 ≤ c ∧ c < 127 := by decide +kernel
    have e2 : (Str.ofString "abcdefghij0123456").length ≤ 17 + 0 ∧ ∀ (c : Nat), c ∈ (Str.ofString "abcdefghij0123456").cps.toList → 32 ≤ c ∧ c < 127 := by decide +kernel
    refine ⟨_, h1, ?_⟩
    rcases hn with rfl | rfl | rfl | rfl
    · exact ⟨_, rfl, _, _, e0.1, e0.2, t1, hk, rfl⟩
    · exact ⟨_, rfl, _, _, e0.1, e0.2, t1, hk, rfl⟩
    · exact ⟨_, rfl, _, _, e1.1, e1.2, t1, hk, rfl⟩
    · exact ⟨_, rfl, _, _, e2.1, e2.2, t1, hk, rfl⟩
  rintro ρ st1 ⟨x, v, hx, hc, t1, k1, rfl⟩
  refine seq_cut (WdI st 3) ?_ ?_
  · simp only [sp_for, wp_rng, wp_cons, wp_nil, wp_call, wp_var, wp_c, List.getElem?_cons_zero, Option.some.injEq, ex_eq]
    refine draw_wp t1 (by decide) fun n st2 na nb t2 k2 l2 => ?_
    rw [w_rng1]
    refine ⟨by omega, ?_⟩
    refine for_rng (WdI st) ⟨x, v, hx, hc, t2, k1.trans k2, rfl⟩ ?_ ?_
    · rintro i ρ st3 hi ⟨x, v, hx, hc, t3, k3, rfl⟩
      refine ⟨_, rfl, ?_⟩
      simp only [sp_set, wp_bin, wp_var, wp_call, wp_cons, wp_nil, List.set_cons_succ, List.set_cons_zero, List.getElem?_cons_succ, List.getElem?_cons_zero, Option.some.injEq, ex_eq]
      refine sign_wp t3 fun c st4 ca cb t4 k4 _ => ?_
      rw [w_addS]
      have hz : Str.length ⟨#[c]⟩ = 1 := rfl
      refine ⟨by rw [hz]; simp only [sizeLine]; omega, _, _, ?_, ?_, t4, k3.trans k4, rfl⟩
      · show (x.cps ++ #[c]).size ≤ _
        have : x.cps.size ≤ 17 + i := hx
        simp
        omega
      · intro d hd
        have : d ∈ (x.cps ++ #[c]).toList := hd
        simp at this
        rcases this with h | rfl
        · exact hc d (by simpa using h)
        · exact ⟨ca, cb⟩
    · rintro ρ st3 ⟨x, v, hx, hc, t3, k3, rfl⟩
      exact ⟨x, v, by omega, hc, t3, k3, rfl⟩
  rintro ρ st2 ⟨x, v, hx, hc, t2, k2, rfl⟩
  simp
  exact k x st2 ⟨by omega, hc⟩ t2 k2
theorem pow15 : (10 : Int) ^ 15 = 1000000000000000 := by decide +kernel
def edgeL : List Int := [0, 1, 65535, 65536, 65537, 4294967295, 4294967296, 281474976710656, 999999999999999, 1000000000000000]
theorem scalar_wp {st : Store} {Q : A → Store → Prop} (t : TpOk st) (k : ∀ (a : A) st', Sca a → TpOk st' → Kp st st' → Q a st') : (m_law_scalar [.ref 1] st).wp Q := by
  have ki : ∀ (i : Int) st', -1000000000000000 ≤ i → i ≤ 1000000000000000 → TpOk st' → Kp st st' → Q (.int i) st' := fun i st' h1 h2 t' k' => k _ _ (.inr ⟨i, rfl, h1, h2⟩) t' k'
  simp only [m_law_scalar]
  simp only [wp_fn, List.map_cons, List.map_nil, List.length_cons, List.length_nil, List.cons_append, List.nil_append, List.replicate, sp_seq, sp_set, wp_call, wp_cons, wp_nil, wp_var, wp_c, List.getElem?_cons_zero, Option.some.injEq, ex_eq, List.set_cons_succ, List.set_cons_zero]
  refine ⟨trivial, ?_⟩
  refine draw_wp t (by decide) fun c st1 ca cb t1 k1 l1 => ?_
  simp only [sp_ifs, wp_gb, wp_bin, wp_var, wp_c, List.getElem?_cons_succ, List.getElem?_cons_zero, Option.some.injEq, ex_eq, w_eq, w_getB, decide_eq_true_eq]
  split
  · simp only [sp_ret, wp_call, wp_cons, wp_nil, wp_var, List.getElem?_cons_zero, Option.some.injEq, ex_eq]
    exact word_wp t1 fun x st2 hx t2 k2 => k _ _ (.inl ⟨x, rfl, hx⟩) t2 (k1.trans k2)
  simp only [sp_next, sp_ifs, wp_gb, wp_bin, wp_var, wp_c, List.getElem?_cons_succ, List.getElem?_cons_zero, Option.some.injEq, ex_eq, w_eq, w_getB, decide_eq_true_eq]
  split
  · have g : Grown st1 (st1 ++ [.lst (edgeL.map .int)]) := ⟨_, rfl⟩
    have hl : stL (st1 ++ [.lst (edgeL.map .int)]) st1.length = some (edgeL.map .int) := by simp
    simp [pow15, -List.getD_eq_getElem?_getD]
    refine draw_wp (t1.grown g) (by decide) fun n st2 na nb t2 k2 l2 => ?_
    have h2 := k2.stL (by have := t1.len; omega) hl
    have hk := k1.trans ((Kp.grown g).trans k2)
    rw [w_ixL]
    refine ⟨_, h2, ?_⟩
    have hn : n.toNat < edgeL.length := by
      have : edgeL.length = 10 := rfl
      omega
    have he : ∀ z ∈ edgeL, 0 ≤ z ∧ z ≤ 1000000000000000 := by decide +kernel
    refine ⟨.int edgeL[n.toNat], ?_, ?_⟩
    · rw [atI_nn na, List.getElem?_map, List.getElem?_eq_getElem hn]
      rfl
    obtain ⟨z1, z2⟩ := he _ (List.getElem_mem hn)
    generalize edgeL[n.toNat] = z at *
    refine draw_wp t2 (by decide) fun m st3 ma mb t3 k3 l3 => ?_
    simp
    refine ⟨cmul_l (by decide) (by decide), cmul_l (by omega) (by omega), ?_⟩
    have hm : m = 0 ∨ m = 1 := by omega
    rcases hm with rfl | rfl
    · exact ki _ _ (by omega) (by omega) t3 (hk.trans k3)
    · exact ki _ _ (by omega) (by omega) t3 (hk.trans k3)
  split
  · simp only [sp_ret, wp_bin, wp_call, wp_cons, wp_nil, wp_var, wp_c, wp_lst, List.getElem?_cons_zero, Option.some.injEq, ex_eq]
    refine draw_wp t1 (by decide) fun n st2 na nb t2 k2 l2 => ?_
    rw [w_sub]
    have g : Grown st2 (st2 ++ [.lst [.int 1, .int 65536, .int 1000000000]]) := ⟨_, rfl⟩
    have hl : stL (st2 ++ [.lst [.int 1, .int 65536, .int 1000000000]]) st2.length = some [.int 1, .int 65536, .int 1000000000] := by simp
    refine ⟨by simp [sizeLine], ?_⟩
    refine draw_wp (t2.grown g) (by decide) fun m st3 ma mb t3 k3 l3 => ?_
    have h3 := k3.stL (by have := t2.len; omega) hl
    have hk := k1.trans (k2.trans ((Kp.grown g).trans k3))
    rw [w_ixL]
    have hn : m = 0 ∨ m = 1 ∨ m = 2 := by omega
    refine ⟨_, h3, ?_⟩
    rcases hn with rfl | rfl | rfl
    · refine ⟨_, rfl, ?_⟩
      rw [w_mul]
      exact ⟨cmul_r (by decide) (by decide), ki _ _ (by omega) (by omega) t3 hk⟩
    · refine ⟨_, rfl, ?_⟩
      rw [w_mul]
      exact ⟨cmul_r (by decide) (by decide), ki _ _ (by omega) (by omega) t3 hk⟩
    · refine ⟨_, rfl, ?_⟩
      rw [w_mul]
      exact ⟨cmul_r (by decide) (by decide), ki _ _ (by omega) (by omega) t3 hk⟩
  split
  · simp [pow15]
    refine ⟨cmul_l (by decide) (by decide), ?_⟩
    refine draw_wp t1 (by decide) fun n st2 na nb t2 k2 l2 => ?_
    simp
    exact ki _ _ (by omega) (by omega) t2 (k1.trans k2)
  simp
  exact draw_wp t1 (by decide) fun n st2 na nb t2 k2 l2 => ki _ _ (by omega) (by omega) t2 (k1.trans k2)
theorem element_wp {st : Store} {Q : A → Store → Prop} (t : TpOk st) (k : ∀ (a : A) st', El a → TpOk st' → Kp st st' → Q a st') : (m_law_element [.ref 1] st).wp Q := by
  simp only [m_law_element]
  simp
  refine scalar_wp t fun a st1 ha t1 k1 => ?_
  refine draw_wp t1 (by decide) fun n st2 na nb t2 k2 l2 => ?_
  simp
  split
  · refine scalar_wp t2 fun b st3 hb t3 k3 => ?_
    exact k _ _ (.inr ⟨a, b, rfl, ha, hb⟩) t3 ((k1.trans k2).trans k3)
  · exact k _ _ (.inl ha) t2 (k1.trans k2)
end Law
namespace Law
open PySem L2 ML
def m_digits_of : MF := mFn 4 2 (mSeq (mSet 2 (mTup mNil))
    (mSeq (mFor (mRng (mCons (mVar 1) mNil)) (.one 3) (mSeq (mSet 2 (mBin addA (mTup (mCons (mBin modA (mVar 0) (mC (.int 65536))) mNil)) (mVar 2)))
    (mSet 0 (mBin fdivA (mVar 0) (mC (.int 65536))))))
    (mRet (mVar 2))))
def m_code_of : Nat → MF
  | 0 => fun _ _ => .bad
  | n + 1 => mFn 2 1 (mSeq (mIfS (mTru (mUn (isiA .tup) (mVar 0))) (mRet (mBin addA (mBin addA (mTup (mCons (mC (.int 4)) mNil)) (mCall (m_code_of n) (mCons (mBin ixA (mVar 0) (mC (.int 0))) mNil))) (mCall (m_code_of n) (mCons (mBin ixA (mVar 0) (mC (.int 1))) mNil)))) mNext)
    (mSeq (mIfS (mTru (mUn (isiA .str) (mVar 0))) (mRet (mBin addA (mTup (mCons (mC (.int 3)) (mCons (mCa lenA (mCons (mVar 0) mNil)) mNil))) (mCa tupleA (mCons (mLc (mSrc (mVar 0)) (.one 1) [1] mYes (mCa ordA (mCons (mVar 1) mNil))) mNil)))) mNext)
    (mSeq (mIfS (mGB (mBin ltA (mVar 0) (mC (.int 0)))) (mRet (mBin addA (mTup (mCons (mC (.int 2)) mNil)) (mCall m_digits_of (mCons (mUn negA (mVar 0)) (mCons (mC (.int 4)) mNil))))) mNext)
    (mRet (mBin addA (mTup (mCons (mC (.int 1)) mNil)) (mCall m_digits_of (mCons (mVar 0) (mCons (mC (.int 4)) mNil))))))))
def digs (n : Nat) : Nat → List Int
  | 0 => []
  | i + 1 => ((n / 65536 ^ i % 65536 : Nat) : Int) :: digs n i
theorem digs_len (n i : Nat) : (digs n i).length = i := by
  induction i with
  | zero => rfl
  | succ i ih => simp [digs, ih]
theorem digs_lt (n i : Nat) : ∀ z ∈ digs n i, 0 ≤ z ∧ z < 65536 := by
  induction i with
  | zero => intro z hz; simp [digs] at hz
  | succ i ih =>
    intro z hz
    simp only [digs, List.mem_cons] at hz
    rcases hz with rfl | hz
    · omega
    · exact ih z hz
def scaCode : A → List Int
  | .str x => 3 :: (x.length : Int) :: x.cps.toList.map fun (c : Nat) => (c : Int)
  | .int i => (if i < 0 then 2 else 1) :: digs i.natAbs 4
  | _ => []
def elCode : A → List Int
  | .tup [x, y] => 4 :: (scaCode x ++ scaCode y)
  | .str x => scaCode (.str x)
  | .int i => scaCode (.int i)
  | _ => []
theorem sca_len {a : A} (h : Sca a) : (scaCode a).length ≤ 22 := by
  rcases h with ⟨x, rfl, hx⟩ | ⟨i, rfl, _, _⟩
  · have := hx.len
    have e : x.cps.size = x.length := rfl
    simp [scaCode]
    omega
  · simp [scaCode, digs_len]
theorem el_len {a : A} (h : El a) : (elCode a).length ≤ 45 := by
  rcases h with h | ⟨x, y, rfl, hx, hy⟩
  · have := sca_len h
    rcases h with ⟨x, rfl, hx⟩ | ⟨i, rfl, _, _⟩
    · simp only [elCode]; omega
    · simp only [elCode]; omega
  · have := sca_len hx
    have := sca_len hy
    simp [elCode]
    omega
theorem sca_el {a : A} (h : Sca a) : elCode a = scaCode a := by
  rcases h with ⟨x, rfl, hx⟩ | ⟨i, rfl, _, _⟩ <;> rfl
def DgI (n c : Nat) (st0 : Store) (i : Nat) (ρ : ML.Env) (st : Store) : Prop := ∃ v : Option A, st = st0 ∧ ρ = [some (.int ((n / 65536 ^ i : Nat) : Int)), some (.int (c : Int)), some (.tup ((digs n i).map A.int)), v]
theorem digits_wp {n c : Nat} {st : Store} {Q : A → Store → Prop} (hc : c ≤ 100000) (k : Q (.tup ((digs n c).map A.int)) st) : (m_digits_of [.int (n : Int), .int (c : Int)] st).wp Q := by
  simp only [m_digits_of]
  simp
  refine ⟨by omega, ?_⟩
  refine for_rng (DgI n c st) ⟨none, rfl, by simp [digs]⟩ ?_ ?_
  · rintro i ρ st' hi ⟨v, rfl, rfl⟩
    refine ⟨_, rfl, ?_⟩
    have e1 : n / 65536 ^ i / 65536 = n / 65536 ^ (i + 1) := by rw [Nat.div_div_eq_div_mul, Nat.pow_succ]
    have hl := digs_len n i
    simp [hl]
    refine ⟨by omega, by decide, some (.int ((i : Nat) : Int)), rfl, ?_⟩
    simp only [digs]
    rw [← e1]
    simp
  · rintro ρ st' ⟨v, rfl, rfl⟩
    simpa using k
theorem lc_chars {tg : Tg} {own : List Nat} {tt : MT} {elt : MX} {ρ0 : ML.Env} {x : Str} {st : Store} {QL : List A → Store → Prop} (I : Nat → Store → List A → Prop) (h0 : I 0 st [])
    (hs : ∀ i c st acc, x.cps[i]? = some c → I i st acc → ∃ ρ1, asgT tg (.str ⟨#[c]⟩) ρ0 st = some ρ1 ∧ (tt ρ1 st).wp fun b st1 => if b = true then (elt ρ1 st1).wp fun y st2 => acc.length < sizeLine ∧ I (i + 1) st2 (acc ++ [y]) else I (i + 1) st1 acc)
    (hd : ∀ st acc, I x.cps.size st acc → QL acc st) : (loopC (.chars x) tg own tt elt ρ0 (Src.size (.chars x) st + 1) 0 st []).wp QL :=
  lc_wp x.cps.size (fun i => .str ⟨#[x.cps.getD i 0]⟩) I (fun i st acc _ => ⟨fun h => by simp [Src.at, h], fun h => by simp [Src.at]; omega⟩) (fun i st acc h q => hs i _ st acc (by simp [h]) q) hd _ _ _ _ (by simp [Src.size]) (Nat.zero_le _) h0
theorem take_succ_map {α β : Type} {f : α → β} {xs : List α} {i : Nat} {c : α} (h : xs[i]? = some c) : (xs.take i).map f ++ [f c] = (xs.take (i + 1)).map f := by
  rw [List.take_add_one, h]
  simp
theorem ords_wp {x : Str} {st : Store} {ρ0 : ML.Env} {j : Nat} {own : List Nat} {QL : List A → Store → Prop} (hj : j < ρ0.length) (hx : x.length ≤ 100000) (k : QL (x.cps.toList.map fun (c : Nat) => A.int (c : Int)) st) :
    (loopC (.chars x) (.one j) own mYes (mCa ordA (mCons (mVar j) mNil)) ρ0 (Src.size (.chars x) st + 1) 0 st []).wp QL := by
  refine lc_chars (fun i st' acc => st' = st ∧ acc = (x.cps.toList.take i).map fun (c : Nat) => A.int (c : Int)) ⟨rfl, by simp⟩ ?_ ?_
  · rintro i c st' acc hc ⟨rfl, rfl⟩
    refine ⟨_, rfl, ?_⟩
    have hz : Str.length ⟨#[c]⟩ = 1 := rfl
    have hx' : x.cps.size ≤ 100000 := hx
    have hg : x.cps.toList[i]? = some c := by simpa using hc
    simp [List.getElem?_set, hj, hz]
    refine ⟨by omega, ?_⟩
    have := take_succ_map (f := fun (c : Nat) => A.int (c : Int)) hg
    simpa using this
  · rintro st' acc ⟨rfl, rfl⟩
    rw [List.take_of_length_le (by simp)]
    exact k
theorem code_sca_wp (n : Nat) {a : A} {st : Store} {Q : A → Store → Prop} (h : Sca a) (k : ∀ st', Grown st st' → Q (.tup ((scaCode a).map A.int)) st') : (m_code_of (n + 1) [a] st).wp Q := by
  simp only [m_code_of]
  rcases h with ⟨x, rfl, hx⟩ | ⟨i, rfl, h1, h2⟩
  · have hl := hx.len
    simp
    refine ⟨by omega, ?_⟩
    refine ords_wp (j := 1) (by simp) (by omega) ?_
    have e : x.cps.size = x.length := rfl
    simp [e]
    refine ⟨by omega, ?_⟩
    have := k (st ++ [.lst (x.cps.toList.map fun (c : Nat) => A.int (c : Int))]) (.one _ _)
    simpa [scaCode, Function.comp_def] using this
  · simp
    split
    · rename_i hn
      have e : -i = ((i.natAbs : Nat) : Int) := by omega
      rw [e]
      refine digits_wp (c := 4) (by decide) ?_
      simp [digs_len]
      have := k st (.refl _)
      simpa [scaCode, hn] using this
    · rename_i hn
      have e : i = ((i.natAbs : Nat) : Int) := by omega
      have := k st (.refl _)
      simp only [scaCode, if_neg hn] at this
      rw [e]
      refine digits_wp (c := 4) (by decide) ?_
      simp [digs_len]
      simpa using this
theorem code_wp (n : Nat) {a : A} {st : Store} {Q : A → Store → Prop} (h : El a) (k : ∀ st', Grown st st' → Q (.tup ((elCode a).map A.int)) st') : (m_code_of (n + 2) [a] st).wp Q := by
  rcases h with h | ⟨x, y, rfl, hx, hy⟩
  · rw [sca_el h] at k
    exact code_sca_wp (n + 1) h k
  · unfold m_code_of
    have l1 := sca_len hx
    have l2 := sca_len hy
    simp
    refine code_sca_wp n hx fun st1 g1 => ?_
    simp
    refine ⟨by omega, ?_⟩
    refine code_sca_wp n hy fun st2 g2 => ?_
    simp
    refine ⟨by omega, ?_⟩
    have := k st2 (g1.trans g2)
    simpa [elCode] using this
theorem digs4 (n : Nat) : digs n 4 = [((n / 281474976710656 % 65536 : Nat) : Int), ((n / 4294967296 % 65536 : Nat) : Int), ((n / 65536 % 65536 : Nat) : Int), ((n % 65536 : Nat) : Int)] := by
  simp [digs]
end Law
namespace Law
open PySem L2 ML
def m_block_code : MF := mFn 3 1 (mSeq (mSet 1 (mLst (mCons (mC (.int 6)) (mCons (mCa lenA (mCons (mVar 0) mNil)) mNil))))
    (mSeq (mFor (mSrc (mVar 0)) (.one 2) (mExpr (mBm extendA (mVar 1) (mCons (mVar 2) mNil))))
    (mRet (mCa tupleA (mCons (mVar 1) mNil)))))
def m_run_code : MF := mFn 2 2 (mRet (mBin addA (mBin addA (mTup (mCons (mC (.int 5)) mNil)) (mCall m_digits_of (mCons (mVar 0) (mCons (mC (.int 2)) mNil)))) (mVar 1)))
inductive Nd where
  | leaf (e : A) | run (b : Nd) (t : Nat) | blk (cs : List Nd)
mutual
def ndA : Nd → A
  | .leaf e => .tup [.str "leaf", e]
  | .run b t => .tup [.str "run", ndA b, .int (t : Int)]
  | .blk cs => .tup [.str "block", .tup (ndAs cs)]
def ndAs : List Nd → List A
  | [] => []
  | c :: cs => ndA c :: ndAs cs
end
mutual
def okN : Nd → Prop
  | .leaf e => El e
  | .run b t => okN b ∧ 2 ≤ t ∧ t ≤ 2000
  | .blk cs => 1 ≤ cs.length ∧ cs.length ≤ 100 ∧ okNs cs
def okNs : List Nd → Prop
  | [] => True
  | c :: cs => okN c ∧ okNs cs
end
mutual
def szN : Nd → Nat
  | .leaf _ => 1
  | .run b t => szN b * t
  | .blk cs => szNs cs
def szNs : List Nd → Nat
  | [] => 0
  | c :: cs => szN c + szNs cs
end
mutual
def dpN : Nd → Nat
  | .leaf _ => 1
  | .run b _ => dpN b + 1
  | .blk cs => dpNs cs + 1
def dpNs : List Nd → Nat
  | [] => 0
  | c :: cs => max (dpN c) (dpNs cs)
end
theorem okNs_iff : ∀ cs : List Nd, okNs cs ↔ ∀ c ∈ cs, okN c
  | [] => by simp [okNs]
  | c :: cs => by simp [okNs, okNs_iff cs]
theorem dpNs_le : ∀ {cs : List Nd} {d : Nat}, (∀ c ∈ cs, dpN c ≤ d) → dpNs cs ≤ d
  | [], d, h => by simp [dpNs]
  | c :: cs, d, h => by
    have h1 := h c (by simp)
    have h2 := dpNs_le (cs := cs) (d := d) fun x hx => h x (by simp [hx])
    simp only [dpNs]
    omega
def isRun : Nd → Bool
  | .run _ _ => true
  | _ => false
theorem draw3_wp {st : Store} {xs : List Int} {many : Int} {Q : A → Store → Prop} (t : TpOk st) (hm : many = xs.length) (hl : xs.length ≤ 1000) (k : ∀ x st', x ∈ xs → TpOk st' → Kp st st' → Q (.int x) st') (hne : xs ≠ []) :
    (m_law_draw [.ref 1, .int many] (st ++ [.lst (xs.map .int)])).wp fun a st1 => (ixA (.ref st.length) a st1).wp Q := by
  have g : Grown st (st ++ [.lst (xs.map .int)]) := ⟨_, rfl⟩
  have hl2 : stL (st ++ [.lst (xs.map .int)]) st.length = some (xs.map .int) := by simp
  have hp := List.length_pos_iff.mpr hne
  refine draw_wp (t.grown g) (by subst hm; omega) fun n st1 na nb t1 k1 l1 => ?_
  rw [w_ixL]
  have hn : n.toNat < xs.length := by omega
  refine ⟨_, k1.stL (by have := t.len; omega) hl2, .int xs[n.toNat], ?_, k _ _ (List.getElem_mem hn) t1 ((Kp.grown g).trans k1)⟩
  rw [atI_nn na, List.getElem?_map, List.getElem?_eq_getElem hn]
  rfl
end Law
namespace Law
open PySem L2 ML
mutual
def codeN : Nd → List Int
  | .leaf e => elCode e
  | .run b t => 5 :: (digs t 2 ++ codeN b)
  | .blk cs => 6 :: (cs.length : Int) :: codesN cs
def codesN : List Nd → List Int
  | [] => []
  | c :: cs => codeN c ++ codesN cs
end
theorem codesN_app : ∀ (xs ys : List Nd), codesN (xs ++ ys) = codesN xs ++ codesN ys
  | [], ys => rfl
  | x :: xs, ys => by simp only [List.cons_append, codesN, codesN_app xs ys, List.append_assoc]
theorem codesN_mem : ∀ {cs : List Nd} {c : Nd}, c ∈ cs → (codeN c).length ≤ (codesN cs).length
  | d :: cs, c, h => by
    simp only [codesN, List.length_append]
    rcases List.mem_cons.mp h with rfl | h
    · omega
    · have := codesN_mem h
      omega
theorem codesN_take {cs : List Nd} {i : Nat} : (codesN (cs.take i)).length ≤ (codesN cs).length := by
  have : cs = cs.take i ++ cs.drop i := (List.take_append_drop i cs).symm
  have e := congrArg (fun z => (codesN z).length) this
  simp only [codesN_app, List.length_append] at e
  omega
mutual
theorem szN_pos : ∀ nd : Nd, okN nd → 1 ≤ szN nd
  | .leaf _, _ => by simp only [szN]; omega
  | .run b t, h => by
    simp only [okN] at h
    have := szN_pos b h.1
    simp only [szN]
    exact Nat.mul_pos this (by omega)
  | .blk cs, h => by
    simp only [okN] at h
    have := szNs_pos cs h.2.2
    simp only [szN]
    omega
theorem szNs_pos : ∀ cs : List Nd, okNs cs → cs.length ≤ szNs cs
  | [], _ => by simp
  | c :: cs, h => by
    simp only [okNs] at h
    have := szN_pos c h.1
    have := szNs_pos cs h.2
    simp only [szNs, List.length_cons]
    omega
end
mutual
theorem codeN_len : ∀ nd : Nd, okN nd → (codeN nd).length ≤ (45 + 3 * dpN nd) * szN nd
  | .leaf e, h => by
    simp only [okN] at h
    have := el_len h
    simp only [codeN, szN, dpN]
    omega
  | .run b t, h => by
    simp only [okN] at h
    have h1 := codeN_len b h.1
    have h2 := szN_pos b h.1
    have h3 : (45 + 3 * dpN b) * szN b + 3 ≤ (45 + 3 * (dpN b + 1)) * szN b := by
      have : (45 + 3 * (dpN b + 1)) * szN b = (45 + 3 * dpN b) * szN b + 3 * szN b := by rw [← Nat.add_mul]; congr 1
      omega
    have h4 : (45 + 3 * (dpN b + 1)) * szN b ≤ (45 + 3 * (dpN b + 1)) * szN b * t := Nat.le_mul_of_pos_right _ (by omega)
    simp only [codeN, szN, dpN, List.length_cons, List.length_append, digs_len]
    rw [← Nat.mul_assoc]
    omega
  | .blk cs, h => by
    simp only [okN] at h
    have h1 := codesN_len cs h.2.2 (dpNs cs) (Nat.le_refl _)
    have h2 := szNs_pos cs h.2.2
    simp only [codeN, szN, dpN, List.length_cons]
    have : (45 + 3 * (dpNs cs + 1)) * szNs cs = (45 + 3 * dpNs cs) * szNs cs + 3 * szNs cs := by rw [← Nat.add_mul]; congr 1
    omega
theorem codesN_len : ∀ cs : List Nd, okNs cs → ∀ d, dpNs cs ≤ d → (codesN cs).length ≤ (45 + 3 * d) * szNs cs
  | [], _, d, _ => by simp [codesN]
  | c :: cs, h, d, hd => by
    simp only [okNs] at h
    simp only [dpNs] at hd
    have h1 := codeN_len c h.1
    have h2 := codesN_len cs h.2 d (by omega)
    have h3 : (45 + 3 * dpN c) * szN c ≤ (45 + 3 * d) * szN c := Nat.mul_le_mul_right _ (by omega)
    simp only [codesN, szNs, List.length_append, Nat.mul_add]
    omega
end
@[simp] theorem leaf_run : ((Str.ofString "leaf") = (Str.ofString "run")) ↔ False := by
  constructor
  · intro h; revert h; decide +kernel
  · exact False.elim
@[simp] theorem run_leaf : ((Str.ofString "run") = (Str.ofString "leaf")) ↔ False := by
  constructor
  · intro h; revert h; decide +kernel
  · exact False.elim
@[simp] theorem block_leaf : ((Str.ofString "block") = (Str.ofString "leaf")) ↔ False := by
  constructor
  · intro h; revert h; decide +kernel
  · exact False.elim
@[simp] theorem block_run : ((Str.ofString "block") = (Str.ofString "run")) ↔ False := by
  constructor
  · intro h; revert h; decide +kernel
  · exact False.elim
def BkI (q : Nat) (st0 : Store) (cs : List Nd) (i : Nat) (ρ : ML.Env) (st : Store) : Prop := ∃ v : Option A, st = st0 ++ [.lst ((6 :: (cs.length : Int) :: codesN (cs.take i)).map A.int)] ∧ ρ = [some (.ref q), some (.ref st0.length), v]
theorem block_code_wp {q : Nat} {cs : List Nd} {st : Store} {Q : A → Store → Prop} (hq : stL st q = some (cs.map fun c => A.tup ((codeN c).map A.int))) (hl : (codesN cs).length ≤ 1000000) (hc : cs.length ≤ 1000)
    (k : ∀ st', Grown st st' → Q (.tup ((codeN (.blk cs)).map A.int)) st') : (m_block_code [.ref q] st).wp Q := by
  simp only [m_block_code]
  simp [hq]
  have hq2 : ∀ zs, stL (st ++ [.lst zs]) q = some (cs.map fun c => A.tup ((codeN c).map A.int)) := fun zs => Grown.stL (.one _ _) hq
  refine for_lst (BkI q st cs) (xs := cs.map fun c => A.tup ((codeN c).map A.int)) (hq2 _) ⟨none, by simp [codesN], rfl⟩ ?_ ?_ ?_
  · rintro i ρ st' ⟨v, rfl, rfl⟩
    exact hq2 _
  · rintro i x ρ st' hx ⟨v, rfl, rfl⟩
    refine ⟨_, rfl, ?_⟩
    rw [List.getElem?_map] at hx
    obtain ⟨c, hc', rfl⟩ := Option.map_eq_some_iff.mp hx
    have ht := codesN_take (cs := cs) (i := i)
    have hm := codesN_mem (List.mem_of_getElem? hc')
    simp
    refine ⟨by omega, some (.tup ((codeN c).map A.int)), ?_, rfl⟩
    rw [List.take_add_one, hc']
    simp [codesN_app, codesN]
  · rintro ρ st' ⟨v, rfl, rfl⟩
    simp
    have := k _ (.one st (.lst ((codeN (.blk cs)).map A.int)))
    simpa [codeN] using this
end Law
namespace Law
open PySem L2 ML
structure Cmp (d : Nat) (a : A) : Prop where
  cl : cleanA a = true
  fw : fewA a = true
  dp : depA a ≤ d
theorem sca_cmp {a : A} (h : Sca a) : Cmp 0 a := by
  rcases h with ⟨x, rfl, hx⟩ | ⟨i, rfl, _, _⟩
  · refine ⟨?_, rfl, by simp [depA]⟩
    simp only [cleanA, PySem.PyData.strOk]
    rw [← Array.all_toList, List.all_eq_true]
    intro c hc
    have := hx.ch c hc
    simp
    omega
  · exact ⟨rfl, rfl, by simp [depA]⟩
theorem Cmp.mono {d e : Nat} {a : A} (h : Cmp d a) (k : d ≤ e) : Cmp e a := ⟨h.cl, h.fw, Nat.le_trans h.dp k⟩
theorem cmps {d : Nat} : ∀ {xs : List A}, (∀ x ∈ xs, Cmp d x) → cleanAs xs = true ∧ fewAs xs = true ∧ depAs xs ≤ d
  | [], _ => ⟨rfl, rfl, by simp [depAs]⟩
  | x :: xs, h => by
    have h1 := h x (by simp)
    obtain ⟨a1, a2, a3⟩ := cmps (xs := xs) (d := d) fun y hy => h y (by simp [hy])
    simp only [cleanAs, fewAs, depAs, h1.cl, h1.fw, a1, a2, Bool.and_self, true_and]
    have := h1.dp
    omega
theorem Cmp.tup {d : Nat} {xs : List A} (h : ∀ x ∈ xs, Cmp d x) (hl : xs.length ≤ 1000000) : Cmp (d + 1) (.tup xs) := by
  obtain ⟨a1, a2, a3⟩ := cmps h
  refine ⟨a1, ?_, ?_⟩
  · simp only [fewA, a2, Bool.and_true]
    simp
    omega
  · simp only [depA]
    omega
theorem el_cmp {a : A} (h : El a) : Cmp 1 a := by
  rcases h with h | ⟨x, y, rfl, hx, hy⟩
  · exact (sca_cmp h).mono (by omega)
  · refine Cmp.tup (d := 0) ?_ (by simp)
    intro z hz
    simp at hz
    rcases hz with rfl | rfl
    · exact sca_cmp hx
    · exact sca_cmp hy
theorem alike_cmp {a : A} {st : Store} {Q : A → Store → Prop} (h : Cmp 39 a) (k : Q (.bl true) st) : (m_law_alike 40 [a, a] st).wp Q :=
  alike_wp 40 (plain_of_clean h.cl) h.fw (by have := h.dp; omega) k
theorem int_cmp (i : Int) : Cmp 0 (.int i) := ⟨rfl, rfl, by simp [depA]⟩
theorem intsOf_map : ∀ ns : List Int, intsOf (ns.map A.int) = some ns
  | [] => rfl
  | n :: ns => by simp only [List.map_cons, intsOf, intsOf_map ns, Option.map_some]
theorem w_sumI {r : Nat} {ns : List Int} {st : Store} {Q : A → Store → Prop} (hr : stL st r = some (ns.map A.int)) (k : Q (.int ns.sum) st) : (sumA [.ref r] st).wp Q := by
  rw [w_sumL]
  exact ⟨_, hr, ns, intsOf_map ns, k⟩
end Law
namespace Law
open PySem L2 ML
def com : List Int → List Int → Prop
  | [], _ => True
  | _, [] => True
  | x :: xs, y :: ys => x = y ∧ com xs ys
theorem com_nil (l : List Int) : com l [] := by cases l <;> trivial
theorem com_app : ∀ {a b u v : List Int}, a.length = b.length → com (a ++ u) (b ++ v) → a = b ∧ com u v
  | [], [], u, v, _, h => ⟨rfl, h⟩
  | x :: xs, y :: ys, u, v, hl, h => by
    obtain ⟨h1, h2⟩ := h
    obtain ⟨h3, h4⟩ := com_app (a := xs) (b := ys) (by simpa using hl) h2
    exact ⟨by rw [h1, h3], h4⟩
theorem digs_inj {n m : Nat} (hn : n < 18446744073709551616) (hm : m < 18446744073709551616) (h : digs n 4 = digs m 4) : n = m := by
  rw [digs4, digs4] at h
  simp only [List.cons.injEq, Int.natCast_inj, and_true] at h
  omega
theorem str_inj {x y : Str} (h : (x.cps.toList.map fun (c : Nat) => (c : Int)) = y.cps.toList.map fun (c : Nat) => (c : Int)) : x = y := by
  have h2 : x.cps.toList = y.cps.toList := (List.map_inj_right (fun a b e => Int.ofNat_inj.mp e)).mp h
  cases x with
  | mk xc =>
    cases y with
    | mk yc =>
      simp only [Str.mk.injEq]
      exact Array.toList_inj.mp h2
theorem sca_com {x y : A} (hx : Sca x) (hy : Sca y) {u v : List Int} (h : com (scaCode x ++ u) (scaCode y ++ v)) : x = y ∧ com u v := by
  rcases hx with ⟨x, rfl, hx⟩ | ⟨i, rfl, h1, h2⟩
  · rcases hy with ⟨y, rfl, hy⟩ | ⟨j, rfl, h3, h4⟩
    · simp only [scaCode, List.cons_append] at h
      obtain ⟨_, h1, h2⟩ := h
      have hl : x.cps.size = y.cps.size := by
        have : (x.length : Int) = (y.length : Int) := h1
        simp only [Str.length] at this
        omega
      obtain ⟨h3, h4⟩ := com_app (by simp [hl]) h2
      exact ⟨by rw [str_inj h3], h4⟩
    · simp only [scaCode, List.cons_append] at h
      obtain ⟨h0, _⟩ := h
      split at h0 <;> omega
  · rcases hy with ⟨y, rfl, hy⟩ | ⟨j, rfl, h3, h4⟩
    · simp only [scaCode, List.cons_append] at h
      obtain ⟨h0, _⟩ := h
      split at h0 <;> omega
    · simp only [scaCode, List.cons_append] at h
      obtain ⟨h0, h5⟩ := h
      obtain ⟨h6, h7⟩ := com_app (by rw [digs_len, digs_len]) h5
      have h8 := digs_inj (by omega) (by omega) h6
      refine ⟨?_, h7⟩
      have : i = j := by
        split at h0 <;> split at h0 <;> omega
      rw [this]
theorem sca_tag {x : A} (h : Sca x) : ∃ t r, scaCode x = t :: r ∧ (t = 1 ∨ t = 2 ∨ t = 3) ∧ 1 ≤ r.length := by
  rcases h with ⟨x, rfl, hx⟩ | ⟨i, rfl, h1, h2⟩
  · exact ⟨3, _, rfl, by omega, by simp⟩
  · exact ⟨_, _, rfl, by split <;> omega, by rw [digs_len]; omega⟩
theorem el_com {a b : A} (ha : El a) (hb : El b) {u v : List Int} (h : com (elCode a ++ u) (elCode b ++ v)) : a = b ∧ com u v := by
  rcases ha with ha | ⟨x, y, rfl, hx, hy⟩
  · rcases hb with hb | ⟨x', y', rfl, hx', hy'⟩
    · rw [sca_el ha, sca_el hb] at h
      exact sca_com ha hb h
    · rw [sca_el ha] at h
      obtain ⟨t, r, e, ht, _⟩ := sca_tag ha
      rw [e] at h
      simp only [elCode, List.cons_append] at h
      obtain ⟨h0, _⟩ := h
      omega
  · rcases hb with hb | ⟨x', y', rfl, hx', hy'⟩
    · rw [sca_el hb] at h
      obtain ⟨t, r, e, ht, _⟩ := sca_tag hb
      rw [e] at h
      simp only [elCode, List.cons_append] at h
      obtain ⟨h0, _⟩ := h
      omega
    · simp only [elCode, List.cons_append, List.append_assoc] at h
      obtain ⟨_, h⟩ := h
      obtain ⟨e1, h⟩ := sca_com hx hx' h
      obtain ⟨e2, h⟩ := sca_com hy hy' h
      exact ⟨by rw [e1, e2], h⟩
def Small (l : List Int) : Prop := ∀ z ∈ l, 0 ≤ z ∧ z ≤ 65535
theorem small_app {l m : List Int} (h : Small l) (k : Small m) : Small (l ++ m) := fun z hz => by
  rcases List.mem_append.mp hz with q | q
  · exact h z q
  · exact k z q
theorem small_cons {x : Int} {l : List Int} (h : 0 ≤ x ∧ x ≤ 65535) (k : Small l) : Small (x :: l) := fun z hz => by
  rcases List.mem_cons.mp hz with rfl | q
  · exact h
  · exact k z q
theorem small_digs (n i : Nat) : Small (digs n i) := fun z hz => by
  have := digs_lt n i z hz
  omega
theorem small_sca {x : A} (h : Sca x) : Small (scaCode x) := by
  rcases h with ⟨x, rfl, hx⟩ | ⟨i, rfl, h1, h2⟩
  · have := hx.len
    refine small_cons (by omega) (small_cons (by omega) fun z hz => ?_)
    obtain ⟨c, hc, rfl⟩ := List.mem_map.mp hz
    have := hx.ch c hc
    omega
  · exact small_cons (by split <;> omega) (small_digs _ _)
theorem small_el {x : A} (h : El x) : Small (elCode x) := by
  rcases h with h | ⟨x, y, rfl, hx, hy⟩
  · rw [sca_el h]
    exact small_sca h
  · exact small_cons (by omega) (small_app (small_sca hx) (small_sca hy))
theorem el_tag {x : A} (h : El x) : ∃ t r, elCode x = t :: r ∧ 1 ≤ t ∧ t ≤ 4 ∧ 1 ≤ r.length := by
  rcases h with h | ⟨x, y, rfl, hx, hy⟩
  · rw [sca_el h]
    obtain ⟨t, r, e, ht, hr⟩ := sca_tag h
    exact ⟨t, r, e, by omega, by omega, hr⟩
  · obtain ⟨t, r, e, ht, hr⟩ := sca_tag hx
    exact ⟨4, _, rfl, by omega, by omega, by rw [e]; simp⟩
end Law
namespace Law
open PySem L2 ML
def isPk (cs : List Int) (j : Nat) : Prop := cs.getD (j - 1) 0 < cs.getD j 0 ∧ cs.getD (j + 1) 0 < cs.getD j 0
instance (cs : List Int) (j : Nat) : Decidable (isPk cs j) := by unfold isPk; infer_instance
def pks (cs : List Int) (m : Nat) : List Nat := ((List.range m).filter fun t => decide (isPk cs (t + 2))).map (· + 2)
def startsL (cs : List Int) : List Nat := if cs = [] then [] else 0 :: pks cs (cs.length - 3)
theorem pks_succ (cs : List Int) (m : Nat) : pks cs (m + 1) = if isPk cs (m + 2) then pks cs m ++ [m + 2] else pks cs m := by
  unfold pks
  rw [List.range_succ, List.filter_append, List.map_append]
  by_cases h : isPk cs (m + 2)
  · simp [h]
  · simp [h]
theorem pks_len (cs : List Int) (m : Nat) : (pks cs m).length ≤ m := by
  unfold pks
  rw [List.length_map]
  exact Nat.le_trans (List.length_filter_le _ _) (by simp)
def m_is_peak : MF := mFn 2 2 (mRet (mAndV (mBin ltA (mBin ixA (mVar 0) (mBin subA (mVar 1) (mC (.int 1)))) (mBin ixA (mVar 0) (mVar 1))) (mBin gtA (mBin ixA (mVar 0) (mVar 1)) (mBin ixA (mVar 0) (mBin addA (mVar 1) (mC (.int 1)))))))
def m_starts_of : MF := mFn 2 1 (mSeq (mIfS (mNot (mTru (mVar 0))) (mRet (mTup mNil)) mNext)
    (mRet (mBin addA (mTup (mCons (mC (.int 0)) mNil)) (mCa tupleA (mCons (mLc (mRng (mCons (mC (.int 2)) (mCons (mBin subA (mCa lenA (mCons (mVar 0) mNil)) (mC (.int 1))) mNil))) (.one 1) [1] (mTru (mCall m_is_peak (mCons (mVar 0) (mCons (mVar 1) mNil)))) (mVar 1)) mNil)))))
theorem ints_get {cs : List Int} {j : Nat} {i : Int} (h : j < cs.length) (e : i = (j : Nat)) : atI (cs.map A.int) i = some (.int (cs.getD j 0)) := by
  subst e
  rw [atI_nn (by omega), Int.toNat_natCast, List.getElem?_map, List.getElem?_eq_getElem h]
  simp [h]
theorem peak_wp {cs : List Int} {i : Int} {j : Nat} {st : Store} {Q : A → Store → Prop} (h : j + 1 < cs.length) (h1 : 1 ≤ j) (e : i = (j : Nat)) (k : Q (.bl (decide (isPk cs j))) st) : (m_is_peak [.tup (cs.map .int), .int i] st).wp Q := by
  have a1 := ints_get (cs := cs) (j := j - 1) (i := i - 1) (by omega) (by omega)
  have a2 := ints_get (cs := cs) (j := j) (i := i) (by omega) (by omega)
  have a3 := ints_get (cs := cs) (j := j + 1) (i := i + 1) (by omega) (by omega)
  simp only [m_is_peak]
  simp [-atI_nn, a1, a2, a3]
  split
  · rename_i h1
    have : decide (cs.getD (j + 1) 0 < cs.getD j 0) = decide (isPk cs j) := by
      unfold isPk
      simp [h1]
    simp only [List.getD_eq_getElem?_getD] at this
    rw [this]
    exact k
  · rename_i h1
    have : decide (isPk cs j) = false := by
      unfold isPk
      simp [h1]
    rw [this] at k
    exact k
theorem starts_wp {cs : List Int} {st : Store} {Q : A → Store → Prop} (hl : cs.length ≤ 100000) (k : ∀ st', Grown st st' → Q (.tup ((startsL cs).map fun (n : Nat) => A.int (n : Int))) st') : (m_starts_of [.tup (cs.map .int)] st).wp Q := by
  simp only [m_starts_of]
  simp
  by_cases hc : cs = []
  · subst hc
    simpa [startsL] using k st (.refl st)
  · simp [hc]
    have hpos : 0 < cs.length := List.length_pos_iff.mpr hc
    refine ⟨by omega, ?_⟩
    have hn : (cs.length - 1 - 2 : Int).toNat = cs.length - 3 := by omega
    rw [hn]
    refine lc_rng (fun i st' acc => st' = st ∧ acc = (pks cs i).map fun (n : Nat) => A.int (n : Int)) ⟨rfl, rfl⟩ ?_ ?_
    · rintro i st' acc hi ⟨rfl, rfl⟩
      refine ⟨_, rfl, ?_⟩
      simp [wipeA]
      refine peak_wp (j := i + 2) (by omega) (by omega) (by omega) ?_
      have hlen := pks_len cs i
      by_cases hp : isPk cs (i + 2)
      · simp [hp, pks_succ]
        exact ⟨by omega, by omega⟩
      · simp [hp, pks_succ]
    · rintro st' acc ⟨rfl, rfl⟩
      have hlen := pks_len cs (cs.length - 3)
      simp
      refine ⟨by omega, ?_⟩
      have := k (st' ++ [.lst ((pks cs (cs.length - 3)).map fun (n : Nat) => A.int (n : Int))]) (.one _ _)
      simpa [startsL, hc] using this
end Law
namespace Law
open PySem L2 ML
noncomputable def m_first_difference : MF := mFn 3 2 (mSeq (mSet 2 (mC (.int 0)))
    (mSeq (mWhile (mAnd (mGB (mBin ltA (mVar 2) (mCa lenA (mCons (mVar 0) mNil)))) (mGB (mBin eqA (mBin ixA (mVar 0) (mVar 2)) (mBin ixA (mVar 1) (mVar 2))))) (mAug 2 iaddA (mC (.int 1))))
    (mRet (mVar 2))))
noncomputable def m_coin_after : MF := mFn 3 2 (mSeq (mSet 2 (mCall m_first_difference (mCons (mVar 0) (mCons (mVar 1) mNil))))
    (mRet (mBin addA (mBin mulA (mC (.int 65536)) (mVar 2)) (mBin ixA (mVar 1) (mVar 2)))))
noncomputable def m_coins_of_codes : MF := mFn 4 1 (mSeq (mSet 1 (mLst mNil))
    (mSeq (mSet 2 (mTup mNil))
    (mSeq (mFor (mSrc (mVar 0)) (.one 3) (mSeq (mExpr (mBm appendA (mVar 1) (mCons (mCall m_coin_after (mCons (mVar 2) (mCons (mVar 3) mNil))) mNil)))
    (mSet 2 (mVar 3))))
    (mRet (mCa tupleA (mCons (mVar 1) mNil))))))
theorem small_codes : (∀ nd : Nd, okN nd → Small (codeN nd)) ∧ True := by
  refine ⟨fun nd h => ?_, trivial⟩
  refine Nd.rec (motive_1 := fun nd => okN nd → Small (codeN nd)) (motive_2 := fun cs => okNs cs → Small (codesN cs)) ?_ ?_ ?_ ?_ ?_ nd h
  · intro e h
    simp only [okN] at h
    simpa only [codeN] using small_el h
  · intro b t ih h
    simp only [okN] at h
    simp only [codeN]
    exact small_cons (by omega) (small_app (small_digs _ _) (ih h.1))
  · intro cs ih h
    simp only [okN] at h
    simp only [codeN]
    exact small_cons (by omega) (small_cons (by omega) (ih h.2.2))
  · intro _ z hz
    simp [codesN] at hz
  · intro c cs h1 h2 h
    simp only [okNs] at h
    simp only [codesN]
    exact small_app (h1 h.1) (h2 h.2)
theorem nd_tag {nd : Nd} (h : okN nd) : ∃ t r, codeN nd = t :: r ∧ 1 ≤ t ∧ t ≤ 6 ∧ 1 ≤ r.length := by
  cases nd with
  | leaf e =>
    simp only [okN] at h
    obtain ⟨t, r, e1, a, b, c⟩ := el_tag h
    exact ⟨t, r, by simpa only [codeN] using e1, a, by omega, c⟩
  | run b t => exact ⟨5, _, by simp only [codeN]; rfl, by omega, by omega, by simp [digs_len]; omega⟩
  | blk cs => exact ⟨6, _, by simp only [codeN]; rfl, by omega, by omega, by simp⟩
mutual
theorem nd_com : ∀ (a b : Nd), okN a → okN b → ∀ u v, com (codeN a ++ u) (codeN b ++ v) → a = b ∧ com u v
  | .leaf e, .leaf e', ha, hb, u, v, h => by
    simp only [okN] at ha hb
    simp only [codeN] at h
    obtain ⟨h1, h2⟩ := el_com ha hb h
    exact ⟨by rw [h1], h2⟩
  | .leaf e, .run b t, ha, hb, u, v, h => by
    simp only [okN] at ha
    obtain ⟨t, r, e1, a1, a2, a3⟩ := el_tag ha
    simp only [codeN, e1, List.cons_append] at h
    have := h.1
    omega
  | .leaf e, .blk cs, ha, hb, u, v, h => by
    simp only [okN] at ha
    obtain ⟨t, r, e1, a1, a2, a3⟩ := el_tag ha
    simp only [codeN, e1, List.cons_append] at h
    have := h.1
    omega
  | .run b t, .leaf e, ha, hb, u, v, h => by
    simp only [okN] at hb
    obtain ⟨t, r, e1, a1, a2, a3⟩ := el_tag hb
    simp only [codeN, e1, List.cons_append] at h
    have := h.1
    omega
  | .run b t, .run b' t', ha, hb, u, v, h => by
    simp only [okN] at ha hb
    simp only [codeN, List.cons_append, List.append_assoc] at h
    obtain ⟨h1, h2⟩ := com_app (by rw [digs_len, digs_len]) h.2
    obtain ⟨h3, h4⟩ := nd_com b b' ha.1 hb.1 u v h2
    have ht : t = t' := by
      simp only [digs, List.cons.injEq, Int.natCast_inj, and_true] at h1
      omega
    exact ⟨by rw [h3, ht], h4⟩
  | .run b t, .blk cs, ha, hb, u, v, h => by
    simp only [codeN, List.cons_append] at h
    have := h.1
    omega
  | .blk cs, .leaf e, ha, hb, u, v, h => by
    simp only [okN] at hb
    obtain ⟨t, r, e1, a1, a2, a3⟩ := el_tag hb
    simp only [codeN, e1, List.cons_append] at h
    have := h.1
    omega
  | .blk cs, .run b t, ha, hb, u, v, h => by
    simp only [codeN, List.cons_append] at h
    have := h.1
    omega
  | .blk cs, .blk ds, ha, hb, u, v, h => by
    simp only [okN] at ha hb
    simp only [codeN, List.cons_append] at h
    obtain ⟨_, h1, h2⟩ := h
    obtain ⟨h3, h4⟩ := nds_com cs ds (by omega) ha.2.2 hb.2.2 u v h2
    exact ⟨by rw [h3], h4⟩
theorem nds_com : ∀ (as bs : List Nd), as.length = bs.length → okNs as → okNs bs → ∀ u v, com (codesN as ++ u) (codesN bs ++ v) → as = bs ∧ com u v
  | [], [], _, _, _, u, v, h => ⟨rfl, h⟩
  | [], _ :: _, hl, _, _, u, v, h => by simp at hl
  | _ :: _, [], hl, _, _, u, v, h => by simp at hl
  | a :: as, b :: bs, hl, ha, hb, u, v, h => by
    simp only [okNs] at ha hb
    simp only [codesN, List.append_assoc] at h
    obtain ⟨h1, h2⟩ := nd_com a b ha.1 hb.1 _ _ h
    obtain ⟨h3, h4⟩ := nds_com as bs (by simpa using hl) ha.2 hb.2 u v h2
    exact ⟨by rw [h1, h3], h4⟩
end
theorem leaf_block : ¬ (Str.ofString "leaf" = Str.ofString "block") := by decide +kernel
open Classical in
theorem w_eqC {a b : A} {st : Store} {Q : A → Store → Prop} (ha : Cmp 60 a) (hb : Cmp 60 b) (k : Q (.bl (decide (a = b))) st) : (eqA a b st).wp Q := by
  unfold eqA
  rw [eqB_clean ha.cl hb.cl (by have := ha.dp; omega) (by have := hb.dp; omega)]
  simpa using k
structure It1 (nd : Nd) : Prop where
  ok : okN nd
  sz : szN nd ≤ 2000
  dp : dpN nd ≤ 28
theorem It1.len {nd : Nd} (h : It1 nd) : (codeN nd).length ≤ 300000 := by
  have := codeN_len nd h.ok
  have h1 := h.sz
  have h2 := h.dp
  have h3 : (45 + 3 * dpN nd) * szN nd ≤ 129 * 2000 := Nat.mul_le_mul (by omega) h1
  omega
structure Row (xs : List Nd) : Prop where
  it : ∀ c ∈ xs, It1 c
  ap : ∀ (i : Nat) a b, xs[i]? = some a → xs[i + 1]? = some b → a ≠ b
@[simp] theorem w_iadd {i j : Int} {st : Store} {Q : A → Store → Prop} : (iaddA (.int i) (.int j) st).wp Q ↔ Q (.int (i + j)) st := Iff.rfl
def fd : List Int → List Int → Nat
  | x :: xs, y :: ys => if x = y then fd xs ys + 1 else 0
  | _, _ => 0
theorem fd_nil (m : List Int) : fd [] m = 0 := by cases m <;> rfl
theorem fd_lt : ∀ {l m : List Int} {i : Nat}, i < fd l m → ∃ x, l[i]? = some x ∧ m[i]? = some x
  | [], m, i, h => by rw [fd_nil] at h; omega
  | x :: xs, [], i, h => by simp [fd] at h
  | x :: xs, y :: ys, i, h => by
    simp only [fd] at h
    split at h
    · rename_i e
      cases i with
      | zero => exact ⟨x, rfl, by rw [e]; rfl⟩
      | succ i =>
        obtain ⟨z, h1, h2⟩ := fd_lt (l := xs) (m := ys) (i := i) (by omega)
        exact ⟨z, by simpa using h1, by simpa using h2⟩
    · omega
theorem fd_at : ∀ {l m : List Int}, ¬ com l m → ∃ x y, l[fd l m]? = some x ∧ m[fd l m]? = some y ∧ x ≠ y
  | [], m, h => absurd (by cases m <;> trivial) h
  | x :: xs, [], h => absurd (com_nil _) h
  | x :: xs, y :: ys, h => by
    by_cases e : x = y
    · have h2 : ¬ com xs ys := fun z => h ⟨e, z⟩
      obtain ⟨a, b, h3, h4, h5⟩ := fd_at h2
      refine ⟨a, b, ?_, ?_, h5⟩
      · simp only [fd, if_pos e]
        simpa using h3
      · simp only [fd, if_pos e]
        simpa using h4
    · exact ⟨x, y, by simp only [fd, if_neg e]; rfl, by simp only [fd, if_neg e]; rfl, e⟩
def coinV (b c : List Int) : Int := 65536 * (fd b c : Nat) + c.getD (fd b c) 0
def Bef (b c : List Int) : Prop := b = [] ∨ ¬ com b c
theorem bef_in {b c : List Int} (h : Bef b c) (hc : c ≠ []) : fd b c < c.length := by
  rcases h with rfl | h
  · rw [fd_nil]
    exact List.length_pos_iff.mpr hc
  · obtain ⟨x, y, _, h2, _⟩ := fd_at h
    exact (List.getElem?_eq_some_iff.mp h2).1
def FdI (b c : List Int) (st0 : Store) (ρ : ML.Env) (st : Store) : Prop := ∃ p : Nat, st = st0 ∧ p ≤ fd b c ∧ ρ = [some (.tup (b.map A.int)), some (.tup (c.map A.int)), some (.int (p : Int))]
theorem first_wp {b c : List Int} {st : Store} {Q : A → Store → Prop} (h : Bef b c) (k : Q (.int ((fd b c : Nat) : Int)) st) : (m_first_difference [.tup (b.map A.int), .tup (c.map A.int)] st).wp Q := by
  simp only [m_first_difference]
  rw [wp_fn]
  refine ⟨rfl, ?_⟩
  simp only [List.map_cons, List.map_nil, List.cons_append, List.nil_append, List.replicate]
  refine seq_cut (FdI b c st) ?_ ?_
  · simp
    exact ⟨0, rfl, by omega, rfl⟩
  intro ρ st1 h1
  refine seq_cut (fun ρ st2 => st2 = st ∧ ρ = [some (.tup (b.map A.int)), some (.tup (c.map A.int)), some (.int ((fd b c : Nat) : Int))]) ?_ ?_
  · refine while_wp (FdI b c st) (fun ρ _ => match ρ with
      | [_, _, some (.int p)] => fd b c - p.toNat
      | _ => 0) ?_ h1
    rintro ρ st2 ⟨p, rfl, hp, rfl⟩
    simp only [wp_and, wp_gb, wp_bin, wp_var, wp_ca, wp_cons, wp_nil, List.getElem?_cons_succ, List.getElem?_cons_zero, Option.some.injEq, ex_eq, w_lenT, List.length_map, w_lt, w_getB, decide_eq_true_eq]
    split
    · rename_i hlt
      have hlt' : p < b.length := by omega
      rcases h with rfl | h
      · simp at hlt'
      obtain ⟨x, y, f1, f2, f3⟩ := fd_at h
      have hpc : p < c.length := by
        have := (List.getElem?_eq_some_iff.mp f2).1
        omega
      have a1 := ints_get (cs := b) (j := p) (i := (p : Int)) hlt' rfl
      have a2 := ints_get (cs := c) (j := p) (i := (p : Int)) hpc rfl
      simp only [w_ixT, a1, a2, Option.some.injEq, ex_eq, w_eq, w_getB, decide_eq_true_eq]
      by_cases hq : p < fd b c
      · obtain ⟨z, z1, z2⟩ := fd_lt hq
        have e1 : b.getD p 0 = c.getD p 0 := by simp [List.getD_eq_getElem?_getD, z1, z2]
        rw [if_pos e1]
        simp
        exact ⟨⟨p + 1, rfl, by omega, by simp⟩, by omega⟩
      · have e : p = fd b c := by omega
        have e1 : ¬ b.getD p 0 = c.getD p 0 := by
          rw [e]
          simp only [List.getD_eq_getElem?_getD, f1, f2, Option.getD_some]
          exact f3
        rw [if_neg e1]
        exact ⟨trivial, by rw [e]⟩
    · rename_i hge
      have : p = fd b c := by
        rcases h with rfl | h
        · rw [fd_nil] at hp ⊢
          omega
        · obtain ⟨x, y, f1, _, _⟩ := fd_at h
          have := (List.getElem?_eq_some_iff.mp f1).1
          omega
      exact ⟨trivial, by rw [this]⟩
  rintro ρ st2 ⟨rfl, rfl⟩
  simpa using k
theorem coin_wp {b c : List Int} {st : Store} {Q : A → Store → Prop} (h : Bef b c) (hc : c ≠ []) (hl : c.length ≤ 1000000) (k : Q (.int (coinV b c)) st) : (m_coin_after [.tup (b.map A.int), .tup (c.map A.int)] st).wp Q := by
  simp only [m_coin_after]
  rw [wp_fn]
  refine ⟨rfl, ?_⟩
  simp only [List.map_cons, List.map_nil, List.cons_append, List.nil_append, List.replicate]
  refine seq_cut (fun ρ st2 => st2 = st ∧ ρ = [some (.tup (b.map A.int)), some (.tup (c.map A.int)), some (.int ((fd b c : Nat) : Int))]) ?_ ?_
  · simp
    exact first_wp h ⟨rfl, rfl⟩
  rintro ρ st2 ⟨rfl, rfl⟩
  have a2 := ints_get (cs := c) (j := fd b c) (i := ((fd b c : Nat) : Int)) (bef_in h hc) rfl
  simp [-atI_nn, -List.getD_eq_getElem?_getD, a2]
  exact ⟨cmul_l (by decide) (by decide), k⟩
def bef (xs : List Nd) : Nat → List Int
  | 0 => []
  | i + 1 => (xs[i]?.map codeN).getD []
def cod (xs : List Nd) (i : Nat) : List Int := (xs[i]?.map codeN).getD []
def coinsN (xs : List Nd) : List Int := (List.range xs.length).map fun i => coinV (bef xs i) (cod xs i)
theorem cod_some {xs : List Nd} {i : Nat} {c : Nd} (h : xs[i]? = some c) : cod xs i = codeN c := by simp [cod, h]
theorem nd_ne {nd : Nd} (h : okN nd) : codeN nd ≠ [] := by
  obtain ⟨t, r, e, _⟩ := nd_tag h
  rw [e]
  simp
theorem row_bef {xs : List Nd} (h : Row xs) {i : Nat} {c : Nd} (hi : xs[i]? = some c) : Bef (bef xs i) (codeN c) := by
  cases i with
  | zero => exact .inl rfl
  | succ i =>
    have hlt := (List.getElem?_eq_some_iff.mp hi).1
    have e : xs[i]? = some xs[i] := List.getElem?_eq_getElem (by omega)
    refine .inr ?_
    simp only [bef, e, Option.map_some, Option.getD_some]
    intro z
    have := (nd_com xs[i] c (h.it _ (List.getElem_mem _)).ok (h.it _ (List.mem_of_getElem? hi)).ok [] [] (by simpa using z)).1
    exact h.ap i _ _ e hi this
theorem coins_len (xs : List Nd) : (coinsN xs).length = xs.length := by simp [coinsN]
theorem coins_get {xs : List Nd} {i : Nat} (h : i < xs.length) : (coinsN xs)[i]? = some (coinV (bef xs i) (cod xs i)) := by
  simp [coinsN, h]
theorem coins_take {xs : List Nd} {i : Nat} (h : i < xs.length) : (coinsN xs).take (i + 1) = (coinsN xs).take i ++ [coinV (bef xs i) (cod xs i)] := by
  rw [List.take_add_one, coins_get h]
  rfl
theorem grown_set' {a b : Store} {r : Nat} {o : Ob} (h : Grown a b) (hr : a.length ≤ r) : Grown a (b.set r o) := by
  obtain ⟨g, rfl⟩ := h
  exact ⟨g.set (r - a.length) o, by rw [List.set_append_right _ _ hr]⟩
def CcI (xs : List Nd) (q : Nat) (st0 : Store) (r : Nat) (i : Nat) (ρ : ML.Env) (st : Store) : Prop := ∃ v : Option A, Grown st0 st ∧ stL st q = some (xs.map fun c => A.tup ((codeN c).map A.int)) ∧ stL st r = some (((coinsN xs).take i).map A.int) ∧ q ≠ r ∧ ρ = [some (.ref q), some (.ref r), some (.tup ((bef xs i).map A.int)), v]
theorem codes_wp {xs : List Nd} {q : Nat} {st : Store} {Q : A → Store → Prop} (h : Row xs) (hl : xs.length ≤ 10000) (hq : stL st q = some (xs.map fun c => A.tup ((codeN c).map A.int))) (k : ∀ st', Grown st st' → Q (.tup ((coinsN xs).map A.int)) st') : (m_coins_of_codes [.ref q] st).wp Q := by
  simp only [m_coins_of_codes]
  rw [wp_fn]
  refine ⟨rfl, ?_⟩
  simp only [List.map_cons, List.map_nil, List.cons_append, List.nil_append, List.replicate]
  have hlt := (List.getElem?_eq_some_iff.mp (stL_eq hq)).1
  refine seq_cut (fun ρ st' => st' = st ++ [.lst []] ∧ ρ = [some (.ref q), some (.ref st.length), none, none]) ?_ ?_
  · simp [sizeLine]
  rintro ρ st1 ⟨e1, rfl⟩
  refine seq_cut (fun ρ st' => st' = st1 ∧ ρ = [some (.ref q), some (.ref st.length), some (.tup []), none]) ?_ ?_
  · simp [sizeLine]
  rintro ρ st2 ⟨e2, rfl⟩
  have hq2 : stL st2 q = some (xs.map fun c => A.tup ((codeN c).map A.int)) := by
    rw [e2, e1]
    exact Grown.stL (.one _ _) hq
  refine seq_cut (CcI xs q st st.length xs.length) ?_ ?_
  · simp only [sp_for, wp_src, wp_var, List.getElem?_cons_zero, Option.some.injEq, ex_eq, w_srcL, hq2]
    refine ⟨rfl, ?_⟩
    refine for_lst (CcI xs q st st.length) (xs := xs.map fun c => A.tup ((codeN c).map A.int)) hq2 ⟨none, by rw [e2, e1]; exact .one _ _, hq2, by rw [e2, e1]; simp, by omega, rfl⟩ ?_ ?_ ?_
    · rintro i ρ st3 ⟨v, g, h1, h2, h3, rfl⟩
      exact h1
    · rintro i x ρ st3 hx ⟨v, g, h1, h2, h3, rfl⟩
      refine ⟨_, rfl, ?_⟩
      rw [List.getElem?_map] at hx
      obtain ⟨c, hc', rfl⟩ := Option.map_eq_some_iff.mp hx
      have hi := (List.getElem?_eq_some_iff.mp hc').1
      have hit := h.it c (List.mem_of_getElem? hc')
      have hln := hit.len
      simp only [List.set_cons_succ, List.set_cons_zero, sp_seq, sp_expr, wp_bm, wp_var, wp_cons, wp_nil, wp_call, List.getElem?_cons_succ, List.getElem?_cons_zero, Option.some.injEq, ex_eq, isL_ref, h2, Option.isSome_some]
      refine ⟨trivial, ?_⟩
      refine coin_wp (row_bef h hc') (nd_ne hit.ok) (by omega) ?_
      rw [w_append]
      refine ⟨_, h2, by simp [coins_len, sizeLine]; omega, ?_⟩
      simp
      refine ⟨some (.tup ((codeN c).map A.int)), grown_set' g (Nat.le_refl _), by rw [stL_set_ne (Ne.symm h3)]; exact h1, ?_, h3, ?_⟩
      · rw [stL_set_self h2, coins_take hi, cod_some hc']
        simp
      · simp [bef, hc']
    · rintro ρ st3 ⟨v, g, h1, h2, h3, rfl⟩
      exact ⟨v, g, h1, by simpa using h2, h3, by simp⟩
  rintro ρ st3 ⟨v, g, h1, h2, h3, rfl⟩
  have e : (coinsN xs).take xs.length = coinsN xs := List.take_of_length_le (by rw [coins_len]; omega)
  rw [e] at h2
  simp [h2]
  exact k st3 g
theorem coins_ne {xs : List Nd} (h : Row xs) {i : Nat} (hi : i + 1 < xs.length) : coinV (bef xs i) (cod xs i) ≠ coinV (bef xs (i + 1)) (cod xs (i + 1)) := by
  have e0 : xs[i]? = some xs[i] := List.getElem?_eq_getElem (by omega)
  have e1 : xs[i + 1]? = some xs[i + 1] := List.getElem?_eq_getElem hi
  have i0 := h.it _ (List.getElem_mem (show i < xs.length by omega))
  have i1 := h.it _ (List.getElem_mem hi)
  have b0 := row_bef h e0
  have b1 := row_bef h e1
  rw [cod_some e0, cod_some e1]
  have eb : bef xs (i + 1) = codeN xs[i] := by simp [bef, e0]
  rw [eb] at b1 ⊢
  have hn : ¬ com (codeN xs[i]) (codeN xs[i + 1]) := by
    rcases b1 with z | z
    · exact absurd z (nd_ne i0.ok)
    · exact z
  obtain ⟨x, y, f1, f2, f3⟩ := fd_at hn
  have p0 := bef_in b0 (nd_ne i0.ok)
  generalize fd (bef xs i) (codeN xs[i]) = p at *
  have s0 := small_codes.1 _ i0.ok
  have s1 := small_codes.1 _ i1.ok
  have g0 : (codeN xs[i])[fd (bef xs i) (codeN xs[i])]? = (codeN xs[i])[fd (bef xs i) (codeN xs[i])]? := rfl
  intro z
  unfold coinV at z
  have hq := bef_in b0 (nd_ne i0.ok)
  have u1 : ∃ u, (codeN xs[i]).getD (fd (bef xs i) (codeN xs[i])) 0 = u ∧ 0 ≤ u ∧ u ≤ 65535 := ⟨_, rfl, by
    rw [List.getD_eq_getElem?_getD, List.getElem?_eq_getElem hq]
    exact s0 _ (List.getElem_mem hq)⟩
  have u2 : (codeN xs[i + 1]).getD (fd (codeN xs[i]) (codeN xs[i + 1])) 0 = y := by rw [List.getD_eq_getElem?_getD, f2]; rfl
  have u3 := s1 y (List.mem_of_getElem? f2)
  obtain ⟨u, hu, hu1, hu2⟩ := u1
  rw [hu, u2] at z
  have hp : fd (bef xs i) (codeN xs[i]) = fd (codeN xs[i]) (codeN xs[i + 1]) := by omega
  have hy : u = y := by omega
  rw [hp, List.getD_eq_getElem?_getD, f1] at hu
  exact f3 (by simpa [hy] using hu)
end Law
namespace Law
open PySem L2 ML
def m_mix : MF := mFn 4 2 (mSeq (mSet 2 (mBin xorA (mVar 0) (mVar 1)))
    (mSeq (mSet 3 (mBin subA (mUn bitsA (mBin andA (mVar 2) (mUn negA (mVar 2)))) (mC (.int 1))))
    (mRet (mBin addA (mBin mulA (mC (.int 2)) (mVar 3)) (mBin andA (mBin shrA (mVar 1) (mVar 3)) (mC (.int 1)))))))
theorem and_even_odd (e g : Nat) : (2 * e) &&& (2 * g + 1) = 2 * (e &&& g) := by
  refine Nat.eq_of_testBit_eq fun i => ?_
  cases i with
  | zero => simp [Nat.testBit_and, Nat.testBit_zero]
  | succ i =>
    rw [Nat.testBit_and, Nat.testBit_succ, Nat.testBit_succ, Nat.testBit_succ]
    have h1 : 2 * e / 2 = e := by omega
    have h2 : (2 * g + 1) / 2 = g := by omega
    have h3 : 2 * (e &&& g) / 2 = e &&& g := by omega
    rw [h1, h2, h3, Nat.testBit_and]
theorem and_odd_even (e g : Nat) : (2 * e + 1) &&& (2 * g) = 2 * (e &&& g) := by
  rw [Nat.and_comm, and_even_odd, Nat.and_comm]
theorem low_and (k : Nat) : ∀ p : Nat, (2 ^ p * (2 * k + 1)) &&& (2 ^ p * (2 * k + 1) - 1) = 2 ^ p * (2 * k)
  | 0 => by
    have : 2 * k + 1 - 1 = 2 * k := by omega
    rw [Nat.pow_zero, Nat.one_mul, Nat.one_mul, this, and_odd_even, Nat.and_self]
  | p + 1 => by
    have hp : 0 < 2 ^ p := Nat.two_pow_pos p
    have h1 : 1 ≤ 2 ^ p * (2 * k + 1) := Nat.mul_pos hp (by omega)
    have e1 : 2 ^ (p + 1) * (2 * k + 1) = 2 * (2 ^ p * (2 * k + 1)) := by rw [Nat.pow_succ]; ac_rfl
    have e2 : 2 * (2 ^ p * (2 * k + 1)) - 1 = 2 * (2 ^ p * (2 * k + 1) - 1) + 1 := by omega
    rw [e1, e2, and_even_odd, low_and k p, Nat.pow_succ]
    ac_rfl
theorem xor_parts (a b : Nat) : a ^^^ b = 2 * ((a / 2) ^^^ (b / 2)) + (if a % 2 = b % 2 then 0 else 1) := by
  refine Nat.eq_of_testBit_eq fun i => ?_
  cases i with
  | zero =>
    rw [Nat.testBit_xor, Nat.testBit_zero, Nat.testBit_zero, Nat.testBit_zero]
    rcases Nat.mod_two_eq_zero_or_one a with h | h <;> rcases Nat.mod_two_eq_zero_or_one b with h' | h' <;> simp [h, h']
  | succ i =>
    rw [Nat.testBit_xor, Nat.testBit_succ, Nat.testBit_succ, Nat.testBit_succ]
    have h3 : (2 * ((a / 2) ^^^ (b / 2)) + (if a % 2 = b % 2 then 0 else 1)) / 2 = (a / 2) ^^^ (b / 2) := by split <;> omega
    rw [h3, Nat.testBit_xor]
structure Low (a b p : Nat) : Prop where
  below : a % 2 ^ p = b % 2 ^ p
  at_ : a / 2 ^ p % 2 ≠ b / 2 ^ p % 2
  xor : ∃ k, a ^^^ b = 2 ^ p * (2 * k + 1)
theorem low_ex : ∀ (f a b : Nat), a < 2 ^ f → b < 2 ^ f → a ≠ b → ∃ p, p < f ∧ Low a b p
  | 0, a, b, ha, hb, h => by simp at ha hb; omega
  | f + 1, a, b, ha, hb, h => by
    have hx := xor_parts a b
    by_cases c : a % 2 = b % 2
    · rw [Nat.pow_succ] at ha hb
      obtain ⟨p, hp, l⟩ := low_ex f (a / 2) (b / 2) (by omega) (by omega) (by omega)
      refine ⟨p + 1, by omega, ?_, ?_, ?_⟩
      · have := l.below
        rw [Nat.pow_succ, Nat.mul_comm, Nat.mod_mul, Nat.mod_mul, this, c]
      · have := l.at_
        rw [Nat.pow_succ, Nat.mul_comm, ← Nat.div_div_eq_div_mul, ← Nat.div_div_eq_div_mul]
        exact this
      · obtain ⟨k, hk⟩ := l.xor
        refine ⟨k, ?_⟩
        rw [hx, if_pos c, hk, Nat.pow_succ]
        simp only [Nat.add_zero]
        ac_rfl
    · refine ⟨0, by omega, by simp [Nat.mod_one], by simpa using c, (a / 2) ^^^ (b / 2), ?_⟩
      rw [hx, if_neg c]
      simp
theorem low_one {a b p q : Nat} (h : Low a b p) (k : Low a b q) : p = q := by
  have key : ∀ {p q}, Low a b p → Low a b q → ¬ p < q := fun {p q} h k l => by
    apply h.at_
    have hb := k.below
    have e : ∀ x : Nat, x % 2 ^ q / 2 ^ p % 2 = x / 2 ^ p % 2 := fun x => by
      have h2 : 2 ^ q = 2 ^ p * (2 * 2 ^ (q - p - 1)) := by
        rw [← Nat.pow_succ', ← Nat.pow_add]
        congr 1
        omega
      rw [h2, Nat.mod_mul_right_div_self, Nat.mod_mul_right_mod]
    rw [← e a, ← e b, hb]
  rcases Nat.lt_trichotomy p q with l | l | l
  · exact absurd l (key h k)
  · exact l
  · exact absurd l (key k h)
def mixV (b p : Nat) : Int := 2 * (p : Int) + ((b / 2 ^ p % 2 : Nat) : Int)
theorem bits_pow (p : Nat) : Builtin.Int.intBits ((2 ^ p : Nat) : Int) = p + 1 := by
  unfold Builtin.Int.intBits
  have h : 0 < 2 ^ p := Nat.two_pow_pos p
  have : (((2 ^ p : Nat) : Int) == 0) = false := by
    rw [beq_eq_false_iff_ne]
    omega
  rw [this, if_neg (by decide), Int.natAbs_natCast, Nat.log2_two_pow]
theorem and_neg {d : Nat} (h : 0 < d) : Builtin.bitAnd (d : Int) (-(d : Int)) = ((d - (d &&& (d - 1)) : Nat) : Int) := by
  unfold Builtin.bitAnd
  have h1 : decide (0 ≤ (d : Int)) = true := by simp
  have h2 : decide (0 ≤ -(d : Int)) = false := by simp; omega
  rw [h1, h2]
  show (d : Int) - (((d : Int).toNat &&& (Builtin.bitNot (-(d : Int))).toNat : Nat) : Int) = _
  have h3 : (Builtin.bitNot (-(d : Int))).toNat = d - 1 := by
    unfold Builtin.bitNot
    omega
  rw [h3, Int.toNat_natCast]
  have := Nat.and_le_left (n := d) (m := d - 1)
  omega
theorem mix_wp {a b p : Nat} (l : Low a b p) {st : Store} {Q : A → Store → Prop} (k : Q (.int (mixV b p)) st) : (m_mix [.int (a : Int), .int (b : Int)] st).wp Q := by
  obtain ⟨c, hc⟩ := l.xor
  have hp : 0 < 2 ^ p := Nat.two_pow_pos p
  have hpos : 0 < a ^^^ b := by rw [hc]; exact Nat.mul_pos hp (by omega)
  have e1 : Builtin.bitXor (a : Int) (b : Int) = ((a ^^^ b : Nat) : Int) := by rw [Bits.bitXor_pp (by omega) (by omega)]; rfl
  have e2 : Builtin.bitAnd ((a ^^^ b : Nat) : Int) (-((a ^^^ b : Nat) : Int)) = ((2 ^ p : Nat) : Int) := by
    rw [and_neg hpos]
    congr 1
    rw [hc, low_and, ← Nat.mul_sub]
    have : 2 * c + 1 - 2 * c = 1 := by omega
    rw [this, Nat.mul_one]
  have e3 : (((p + 1 : Nat) : Int) - 1) = (p : Int) := by omega
  have e4 : Builtin.bitAnd ((b : Int) / 2 ^ p) 1 = ((b / 2 ^ p % 2 : Nat) : Int) := by
    have := Bits.bit_at (x := (b : Int)) p
    rw [Int.fdiv_eq_ediv_of_nonneg _ (Int.le_of_lt (Int.pow_pos (by decide)))] at this
    rw [this]
    push_cast
    rfl
  simp only [m_mix]
  simp only [wp_fn, sp_seq, sp_set, wp_bin, wp_un, wp_var, wp_c, sp_ret, w_xor, w_neg, w_and, w_bits, w_sub, w_shr, w_mul, w_add, List.map_cons, List.map_nil, List.length_cons, List.length_nil, Nat.reduceAdd, Nat.reduceSub, List.reduceReplicate, List.cons_append, List.nil_append, List.getElem?_cons_zero, List.getElem?_cons_succ, Option.some.injEq, ex_eq, List.set_cons_succ, List.set_cons_zero, e1, e2, bits_pow, e3, Int.toNat_natCast, e4, true_and]
  exact ⟨cmul_l (by decide) (by decide), by omega, k⟩
theorem mixV_ne {a b c p q : Nat} (l : Low a b p) (k : Low b c q) : mixV b p ≠ mixV c q := fun h => by
  unfold mixV at h
  have h1 : b / 2 ^ p % 2 < 2 := Nat.mod_lt _ (by decide)
  have h2 : c / 2 ^ q % 2 < 2 := Nat.mod_lt _ (by decide)
  have e : p = q := by omega
  subst e
  exact k.at_ (by omega)
open Classical in
noncomputable def lowP (a b : Nat) : Nat := if h : ∃ p, Low a b p then h.choose else 0
noncomputable def mixN (a b : Nat) : Nat := 2 * lowP a b + b / 2 ^ lowP a b % 2
theorem low_of {a b : Nat} (h : a ≠ b) : Low a b (lowP a b) := by
  obtain ⟨p, _, l⟩ := low_ex (a + b) a b (Nat.lt_of_lt_of_le Nat.lt_two_pow_self (Nat.pow_le_pow_right (by decide) (Nat.le_add_right a b))) (Nat.lt_of_lt_of_le Nat.lt_two_pow_self (Nat.pow_le_pow_right (by decide) (Nat.le_add_left b a))) h
  have hx : ∃ p, Low a b p := ⟨p, l⟩
  unfold lowP
  rw [dif_pos hx]
  exact hx.choose_spec
theorem mixV_N {a b : Nat} : mixV b (lowP a b) = ((mixN a b : Nat) : Int) := by
  unfold mixV mixN
  omega
theorem mixN_lt {a b f : Nat} (h : a ≠ b) (ha : a < 2 ^ f) (hb : b < 2 ^ f) : mixN a b < 2 * f := by
  obtain ⟨p, hp, l⟩ := low_ex f a b ha hb h
  have e := low_one l (low_of h)
  subst e
  unfold mixN
  have := Nat.mod_lt (b / 2 ^ lowP a b) (show 0 < 2 by decide)
  omega
theorem mixN_ne {a b c : Nat} (h : a ≠ b) (k : b ≠ c) : mixN a b ≠ mixN b c := fun e => by
  apply mixV_ne (low_of h) (low_of k)
  rw [mixV_N, mixV_N, e]
theorem mixN_first {a b : Nat} (h : a ≠ b) : a % 2 ≠ mixN a b := fun e => by
  have l := low_of h
  unfold mixN at e
  have h1 := Nat.mod_lt a (show 0 < 2 by decide)
  have h2 := Nat.mod_lt (b / 2 ^ lowP a b) (show 0 < 2 by decide)
  have z : lowP a b = 0 := by omega
  rw [z] at l e
  have := l.at_
  simp at this e
  omega
theorem mixN_wp {a b : Nat} (h : a ≠ b) {st : Store} {Q : A → Store → Prop} (k : Q (.int ((mixN a b : Nat) : Int)) st) : (m_mix [.int (a : Int), .int (b : Int)] st).wp Q := mix_wp (low_of h) (by rw [mixV_N]; exact k)
def Apart (ns : List Nat) : Prop := ∀ i, i + 1 < ns.length → ns.getD i 0 ≠ ns.getD (i + 1) 0
noncomputable def roundL (ns : List Nat) : List Nat := (ns.take 1).map (· % 2) ++ (List.range (ns.length - 1)).map fun i => mixN (ns.getD i 0) (ns.getD (i + 1) 0)
theorem round_len (ns : List Nat) : (roundL ns).length = ns.length := by
  unfold roundL
  cases ns <;> simp
theorem round_zero {ns : List Nat} (h : 0 < ns.length) : (roundL ns).getD 0 0 = ns.getD 0 0 % 2 := by
  cases ns with
  | nil => simp at h
  | cons x r => simp [roundL]
theorem round_succ {ns : List Nat} {i : Nat} (h : i + 1 < ns.length) : (roundL ns).getD (i + 1) 0 = mixN (ns.getD i 0) (ns.getD (i + 1) 0) := by
  cases ns with
  | nil => simp at h
  | cons x r =>
    simp only [List.length_cons] at h
    have hi : i < r.length := by omega
    simp [roundL, List.getElem?_append, hi]
theorem round_apart {ns : List Nat} (h : Apart ns) : Apart (roundL ns) := fun i hi => by
  rw [round_len] at hi
  rw [round_succ hi]
  cases i with
  | zero =>
    rw [round_zero (by omega)]
    exact mixN_first (h 0 hi)
  | succ i =>
    rw [round_succ (by omega)]
    exact mixN_ne (h i (by omega)) (h (i + 1) hi)
theorem round_lt {ns : List Nat} {f : Nat} (hf : 1 ≤ f) (h : Apart ns) (hl : ∀ i, i < ns.length → ns.getD i 0 < 2 ^ f) : ∀ i, i < (roundL ns).length → (roundL ns).getD i 0 < 2 * f := fun i hi => by
  rw [round_len] at hi
  cases i with
  | zero =>
    rw [round_zero hi]
    have := Nat.mod_lt (ns.getD 0 0) (show 0 < 2 by decide)
    omega
  | succ i =>
    rw [round_succ hi]
    exact mixN_lt (h i hi) (hl i (by omega)) (hl (i + 1) hi)
def natsA (ns : List Nat) : List A := ns.map fun (n : Nat) => A.int (n : Int)
@[simp] theorem natsA_len (ns : List Nat) : (natsA ns).length = ns.length := by simp [natsA]
@[simp] theorem natsA_take (ns : List Nat) (k : Nat) : (natsA ns).take k = natsA (ns.take k) := by simp [natsA, List.map_take]
@[simp] theorem natsA_drop (ns : List Nat) (k : Nat) : (natsA ns).drop k = natsA (ns.drop k) := by simp [natsA, List.map_drop]
@[simp] theorem natsA_tail (ns : List Nat) : (natsA ns).tail = natsA ns.tail := by simp [natsA]
@[simp] theorem natsA_app (ns ms : List Nat) : natsA ns ++ natsA ms = natsA (ns ++ ms) := by simp [natsA]
@[simp] theorem natsA_app1 (ns : List Nat) (m : Nat) : natsA ns ++ [A.int (m : Int)] = natsA (ns ++ [m]) := by simp [natsA]
@[simp] theorem natsA_nil : natsA [] = [] := rfl
@[simp] theorem natsA_empty (ns : List Nat) : (natsA ns).isEmpty = ns.isEmpty := by cases ns <;> rfl
theorem natsA_get {ns : List Nat} {i : Nat} (h : i < ns.length) : (natsA ns)[i]? = some (.int ((ns.getD i 0 : Nat) : Int)) := by
  simp [natsA, h]
theorem natsA_some {ns : List Nat} {i : Nat} {x : A} (h : (natsA ns)[i]? = some x) : i < ns.length ∧ x = .int ((ns.getD i 0 : Nat) : Int) := by
  have hi := (List.getElem?_eq_some_iff.mp h).1
  rw [natsA_len] at hi
  rw [natsA_get hi] at h
  exact ⟨hi, (Option.some.inj h).symm⟩
theorem nats_get {ns : List Nat} {i : Nat} {z : Int} (h : i < ns.length) (e : z = (i : Nat)) : atI (natsA ns) z = some (.int ((ns.getD i 0 : Nat) : Int)) := by
  subst e
  rw [atI_nn (by omega), Int.toNat_natCast]
  exact natsA_get h
def m_one_round : MF := mFn 5 1 (mSeq (mSet 1 (mLc (mSrc (mSl (mVar 0) mNoPart (mPart (mC (.int 1))))) (.one 4) [4] mYes (mBin andA (mVar 4) (mC (.int 1)))))
    (mSeq (mFor (mZip (mCons (mVar 0) (mCons (mSl (mVar 0) (mPart (mC (.int 1))) mNoPart) mNil))) (.many [2, 3]) (mExpr (mBm appendA (mVar 1) (mCons (mCall m_mix (mCons (mVar 2) (mCons (mVar 3) mNil))) mNil))))
    (mRet (mCa tupleA (mCons (mVar 1) mNil)))))
theorem round_take {ns : List Nat} {i : Nat} (h : i + 1 < ns.length) : (roundL ns).take (i + 1 + 1) = (roundL ns).take (i + 1) ++ [mixN (ns.getD i 0) (ns.getD (i + 1) 0)] := by
  have hl : i + 1 < (roundL ns).length := by rw [round_len]; exact h
  rw [List.take_succ, List.getElem?_eq_getElem hl]
  have := round_succ h
  rw [List.getD_eq_getElem?_getD, List.getElem?_eq_getElem hl, Option.getD_some] at this
  rw [this]
  rfl
theorem round_take1 {ns : List Nat} : (roundL ns).take 1 = (ns.take 1).map (· % 2) := by
  cases ns <;> simp [roundL]
end Law
namespace Law
open PySem L2 ML
def m_colors_of_coins : MF := mFn 3 1 (mSeq (mSet 1 (mVar 0))
    (mSeq (mFor (mRng (mCons (mC (.int 4)) mNil)) (.one 2) (mSet 1 (mCall m_one_round (mCons (mVar 1) mNil))))
    (mRet (mVar 1))))
theorem coin_in {xs : List Nd} (h : Row xs) {i : Nat} (hi : i < xs.length) : 0 ≤ coinV (bef xs i) (cod xs i) ∧ coinV (bef xs i) (cod xs i) < 34359738368 := by
  have e0 : xs[i]? = some xs[i] := List.getElem?_eq_getElem hi
  have i0 := h.it _ (List.getElem_mem hi)
  rw [cod_some e0]
  have hq := bef_in (row_bef h e0) (nd_ne i0.ok)
  have hs := small_codes.1 _ i0.ok _ (List.getElem_mem hq)
  have hl := i0.len
  unfold coinV
  rw [List.getD_eq_getElem?_getD, List.getElem?_eq_getElem hq]
  simp only [Option.getD_some]
  omega
def coinsT (xs : List Nd) : List Nat := (List.range xs.length).map fun i => (coinV (bef xs i) (cod xs i)).toNat
theorem coinsT_len (xs : List Nd) : (coinsT xs).length = xs.length := by simp [coinsT]
theorem coinsT_get {xs : List Nd} {i : Nat} (h : i < xs.length) : (coinsT xs).getD i 0 = (coinV (bef xs i) (cod xs i)).toNat := by
  rw [List.getD_eq_getElem?_getD]
  simp [coinsT, h]
theorem coinsT_eq {xs : List Nd} (h : Row xs) : (coinsN xs).map A.int = natsA (coinsT xs) := by
  unfold natsA coinsN coinsT
  rw [List.map_map, List.map_map]
  refine List.map_congr_left fun i hi => ?_
  have hi' : i < xs.length := by simpa using hi
  have := (coin_in h hi').1
  show A.int _ = A.int _
  rw [Int.toNat_of_nonneg this]
theorem coinsT_apart {xs : List Nd} (h : Row xs) : Apart (coinsT xs) := fun i hi => by
  rw [coinsT_len] at hi
  rw [coinsT_get (by omega), coinsT_get hi]
  have a := (coin_in h (show i < xs.length by omega)).1
  have b := (coin_in h hi).1
  have c := coins_ne h hi
  omega
theorem coinsT_lt {xs : List Nd} (h : Row xs) : ∀ j, j < (coinsT xs).length → (coinsT xs).getD j 0 < 2 ^ 35 := fun j hj => by
  rw [coinsT_len] at hj
  rw [coinsT_get hj]
  have := coin_in h hj
  omega
noncomputable def rnd (ns : List Nat) : Nat → List Nat
  | 0 => ns
  | i + 1 => roundL (rnd ns i)
theorem rnd_len (ns : List Nat) : ∀ i, (rnd ns i).length = ns.length
  | 0 => rfl
  | i + 1 => by rw [rnd, round_len, rnd_len ns i]
theorem rnd_apart {ns : List Nat} (h : Apart ns) : ∀ i, Apart (rnd ns i)
  | 0 => h
  | i + 1 => round_apart (rnd_apart h i)
noncomputable def colN (xs : List Nd) : List Nat := rnd (coinsT xs) 4
theorem col_len (xs : List Nd) : (colN xs).length = xs.length := by rw [colN, rnd_len, coinsT_len]
theorem col_lt {xs : List Nd} (h : Row xs) : ∀ j, j < (colN xs).length → (colN xs).getD j 0 < 6 := by
  have a0 := coinsT_apart h
  have b1 := round_lt (f := 35) (by decide) a0 (coinsT_lt h)
  have a1 := round_apart a0
  have b2 := round_lt (f := 7) (by decide) a1 fun j hj => Nat.lt_of_lt_of_le (b1 j hj) (by decide)
  have a2 := round_apart a1
  have b3 := round_lt (f := 4) (by decide) a2 fun j hj => Nat.lt_of_lt_of_le (b2 j hj) (by decide)
  have a3 := round_apart a2
  have b4 := round_lt (f := 3) (by decide) a3 fun j hj => Nat.lt_of_lt_of_le (b3 j hj) (by decide)
  exact b4
theorem col_apart {xs : List Nd} (h : Row xs) : Apart (colN xs) := rnd_apart (coinsT_apart h) 4
end Law
namespace Law
open PySem L2 ML
def m_law_large : MF := mFn 6 2 (mSeq (mSet 2 (mBin addA (mC (.int 1)) (mCall m_law_draw (mCons (mVar 0) (mCons (mC (.int 2147483646)) mNil)))))
    (mSeq (mSet 3 (mBin ixA (mLst (mCons (mC (.int 2)) (mCons (mC (.int 9)) (mCons (mC (.int 1000)) (mCons (mC (.int 1000000)) (mCons (mC (.int 1000000)) mNil)))))) (mCall m_law_draw (mCons (mVar 0) (mCons (mC (.int 5)) mNil)))))
    (mSeq (mSet 4 (mLst mNil))
    (mSeq (mFor (mRng (mCons (mVar 1) mNil)) (.one 5) (mSeq (mSet 2 (mBin modA (mCa intA (mCons (mBin mulA (mVar 2) (mC (.int 48271))) mNil)) (mC (.int 2147483647))))
    (mExpr (mBm appendA (mVar 4) (mCons (mBin modA (mCa intA (mCons (mVar 2) mNil)) (mVar 3)) mNil)))))
    (mRet (mVar 4))))))
def LaI (size w : Int) (q : Nat) (st0 : Store) (i : Nat) (ρ : ML.Env) (st : Store) : Prop := ∃ (ns : List Int) (z : Int) (v : Option A), ns.length = i ∧ (∀ n ∈ ns, 0 ≤ n ∧ n < 1000000) ∧ 0 ≤ z ∧ z < 2147483647 ∧ TpOk st ∧ Kp st0 st ∧ st0.length ≤ q ∧ 1 < q ∧ stL st q = some (ns.map A.int) ∧ ρ = [some (.ref 1), some (.int size), some (.int z), some (.int w), some (.ref q), v]
theorem large_wp {size : Nat} {st : Store} {Q : A → Store → Prop} (t : TpOk st) (hs : size ≤ 100000) (k : ∀ q (ns : List Int) st', ns.length = size → (∀ n ∈ ns, 0 ≤ n ∧ n < 1000000) → TpOk st' → Kp st st' → stL st' q = some (ns.map A.int) → Q (.ref q) st') : (m_law_large [.ref 1, .int (size : Int)] st).wp Q := by
  simp only [m_law_large]
  rw [wp_fn]
  refine ⟨rfl, ?_⟩
  simp only [List.map_cons, List.map_nil, List.cons_append, List.nil_append, List.replicate]
  refine seq_cut (fun ρ st1 => ∃ z : Int, 0 ≤ z ∧ z < 2147483647 ∧ TpOk st1 ∧ Kp st st1 ∧ ρ = [some (.ref 1), some (.int (size : Int)), some (.int z), none, none, none]) ?_ ?_
  · simp only [sp_set, wp_bin, wp_call, wp_cons, wp_nil, wp_var, wp_c, List.getElem?_cons_succ, List.getElem?_cons_zero, Option.some.injEq, ex_eq, List.set_cons_succ, List.set_cons_zero]
    refine draw_wp t (by decide) fun n st1 na nb t1 k1 l1 => ?_
    exact ⟨1 + n, by omega, by omega, t1, k1, rfl⟩
  rintro ρ st1 ⟨z, z0, z1, t1, k1, rfl⟩
  refine seq_cut (fun ρ st2 => ∃ w : Int, 1 ≤ w ∧ w ≤ 1000000 ∧ TpOk st2 ∧ Kp st st2 ∧ ρ = [some (.ref 1), some (.int (size : Int)), some (.int z), some (.int w), none, none]) ?_ ?_
  · simp only [sp_set, wp_bin, wp_call, wp_cons, wp_nil, wp_var, wp_c, wp_lst, List.getElem?_cons_succ, List.getElem?_cons_zero, Option.some.injEq, ex_eq, List.set_cons_succ, List.set_cons_zero]
    refine ⟨by simp [sizeLine], draw3_wp (xs := [2, 9, 1000, 1000000, 1000000]) t1 rfl (by decide) (fun w st2 hw t2 k2 => ?_) (by decide)⟩
    have hw2 : 1 ≤ w ∧ w ≤ 1000000 := by
      simp at hw
      omega
    exact ⟨w, hw2.1, hw2.2, t2, k1.trans k2, rfl⟩
  rintro ρ st2 ⟨w, w0, w1, t2, k2, rfl⟩
  have h2 := t2.len
  generalize hF : @mFor = F
  refine seq_cut (LaI size w st2.length st 0) ?_ ?_
  · simp
    exact ⟨[], z, none, rfl, by simp, z0, z1, t2.grown (.one _ _), k2.trans (Kp.grown (.one _ _)), k2.len, by omega, by simp, rfl⟩
  intro ρ st3 h3
  refine seq_cut (LaI size w st2.length st size) ?_ ?_
  · subst hF
    have h3' := h3
    obtain ⟨ns, z, v, _, _, _, _, _, _, _, _, _, rfl⟩ := h3
    simp only [sp_for, wp_rng, wp_cons, wp_nil, wp_var, List.getElem?_cons_succ, List.getElem?_cons_zero, Option.some.injEq, ex_eq, w_rng1]
    refine ⟨by omega, ?_⟩
    rw [Int.toNat_natCast]
    refine for_rng (LaI size w st2.length st) h3' ?_ (fun _ _ h => h)
    rintro i ρ st4 hi ⟨ns, z, v, n1, n2, n3, n4, t4, k4, q1, q2, hq, rfl⟩
    refine ⟨_, rfl, ?_⟩
    simp [hq]
    refine ⟨cmul_r (by decide) (by decide), by omega, by omega, ns ++ [z * 48271 % 2147483647 % w], z * 48271 % 2147483647, _, by simp [n1], ?_, by omega, by omega, ?_, ?_, q1, q2, by rw [stL_set_self hq]; simp, rfl⟩
    · intro n hn
      rcases List.mem_append.mp hn with h | h
      · exact n2 n h
      · simp at h
        subst h
        have a1 := Int.emod_nonneg (z * 48271 % 2147483647) (show w ≠ 0 by omega)
        have a2 := Int.emod_lt_of_pos (z * 48271 % 2147483647) (show 0 < w by omega)
        omega
    · obtain ⟨ms, p, r, q', y0, y1, y2⟩ := t4.ex
      exact ⟨ms, p, r, q', y0, by rw [List.getElem?_set_ne (by omega)]; exact y1, by rw [List.getElem?_set_ne (by omega)]; exact y2⟩
    · refine ⟨by have := k4.len; simp; omega, fun j hj hj2 => ?_⟩
      rw [List.getElem?_set_ne (by omega)]
      exact k4.get j hj hj2
  subst hF
  rintro ρ st4 ⟨ns, z, v, n1, n2, n3, n4, t4, k4, q1, q2, hq, rfl⟩
  simp
  exact k _ ns st4 n1 n2 t4 k4 hq
def cpd : Nd → Nd
  | .run b _ => b
  | .leaf e => .leaf e
  | .blk cs => .blk cs
def cps : Nd → Nat
  | .run _ t => t
  | _ => 1
def Gd (m : Nat) (c : Nd) : Prop := ∃ n : Int, 0 ≤ n ∧ n < 1000000 ∧ (c = .leaf (.int n) ∨ ∃ t, 2 ≤ t ∧ t ≤ m + 1 ∧ c = .run (.leaf (.int n)) t)
theorem Gd.mono {m k : Nat} {c : Nd} (h : Gd m c) (hk : m ≤ k) : Gd k c := by
  obtain ⟨n, h0, h1, h2⟩ := h
  refine ⟨n, h0, h1, ?_⟩
  rcases h2 with rfl | ⟨t, t1, t2, rfl⟩
  · exact .inl rfl
  · exact .inr ⟨t, t1, by omega, rfl⟩
theorem el_int {n : Int} (h0 : 0 ≤ n) (h1 : n < 1000000) : El (.int n) := .inl (.inr ⟨n, rfl, by omega, by omega⟩)
theorem Gd.it {m : Nat} {c : Nd} (h : Gd m c) (hm : m ≤ 300) : It1 c := by
  obtain ⟨n, h0, h1, h2⟩ := h
  have he := el_int h0 h1
  rcases h2 with rfl | ⟨t, t1, t2, rfl⟩
  · exact ⟨by simpa only [okN] using he, by simp only [szN]; omega, by simp only [dpN]; omega⟩
  · exact ⟨by simp only [okN]; exact ⟨he, t1, by omega⟩, by simp only [szN]; omega, by simp only [dpN]; omega⟩
structure GRow (m : Nat) (xs : List Nd) : Prop where
  gd : ∀ c ∈ xs, Gd m c
  ap : ∀ (i : Nat) a b, xs[i]? = some a → xs[i + 1]? = some b → cpd a ≠ cpd b
theorem GRow.row {m : Nat} {xs : List Nd} (h : GRow m xs) (hm : m ≤ 300) : Row xs := ⟨fun c hc => (h.gd c hc).it hm, fun i a b h1 h2 e => h.ap i a b h1 h2 (by rw [e])⟩
end Law
namespace Law
open PySem L2 ML
theorem rnd_loc : ∀ (n : Nat) (ns ms : List Nat) (i k : Nat), (∀ t, t ≤ n → ns.getD (i - t) 0 = ms.getD (k - t) 0) → n ≤ i → n ≤ k → i < ns.length → k < ms.length → (rnd ns n).getD i 0 = (rnd ms n).getD k 0
  | 0, ns, ms, i, k, h, _, _, _, _ => h 0 (by omega)
  | n + 1, ns, ms, i, k, h, hi, hk, hn, hm => by
    obtain ⟨i', rfl⟩ : ∃ i', i = i' + 1 := ⟨i - 1, by omega⟩
    obtain ⟨k', rfl⟩ : ∃ k', k = k' + 1 := ⟨k - 1, by omega⟩
    have a := rnd_loc n ns ms (i' + 1) (k' + 1) (fun t ht => h t (by omega)) (by omega) (by omega) hn hm
    have b := rnd_loc n ns ms i' k' (fun t ht => by
      have := h (t + 1) (by omega)
      rwa [show i' + 1 - (t + 1) = i' - t by omega, show k' + 1 - (t + 1) = k' - t by omega] at this) (by omega) (by omega) (by omega) (by omega)
    show (roundL (rnd ns n)).getD (i' + 1) 0 = (roundL (rnd ms n)).getD (k' + 1) 0
    rw [round_succ (by rw [rnd_len]; exact hn), round_succ (by rw [rnd_len]; exact hm), a, b]
theorem rnd_pre : ∀ (n : Nat) (ns xs : List Nat) (i : Nat), i < ns.length → (rnd (ns ++ xs) n).getD i 0 = (rnd ns n).getD i 0
  | 0, ns, xs, i, hi => by
    show (ns ++ xs).getD i 0 = ns.getD i 0
    rw [List.getD_eq_getElem?_getD, List.getElem?_append_left hi, List.getD_eq_getElem?_getD]
  | n + 1, ns, xs, i, hi => by
    show (roundL (rnd (ns ++ xs) n)).getD i 0 = (roundL (rnd ns n)).getD i 0
    cases i with
    | zero =>
      rw [round_zero (by rw [rnd_len]; simp; omega), round_zero (by rw [rnd_len]; exact hi), rnd_pre n ns xs 0 hi]
    | succ i =>
      rw [round_succ (by rw [rnd_len]; simp; omega), round_succ (by rw [rnd_len]; exact hi), rnd_pre n ns xs i (by omega), rnd_pre n ns xs (i + 1) hi]
theorem coin_loc {xs ys : List Nd} {i k : Nat} (hi : 1 ≤ i) (hk : 1 ≤ k) (h0 : xs[i]? = ys[k]?) (h1 : xs[i - 1]? = ys[k - 1]?) : coinV (bef xs i) (cod xs i) = coinV (bef ys k) (cod ys k) := by
  obtain ⟨i', rfl⟩ : ∃ i', i = i' + 1 := ⟨i - 1, by omega⟩
  obtain ⟨k', rfl⟩ : ∃ k', k = k' + 1 := ⟨k - 1, by omega⟩
  simp only [Nat.add_sub_cancel] at h1
  simp only [bef, cod, h0, h1]
theorem col_loc {xs ys : List Nd} {i k : Nat} (hi : 5 ≤ i) (hk : 5 ≤ k) (hx : i < xs.length) (hy : k < ys.length) (h : ∀ t, t ≤ 5 → xs[i - t]? = ys[k - t]?) : (colN xs).getD i 0 = (colN ys).getD k 0 := by
  refine rnd_loc 4 _ _ i k (fun t ht => ?_) (by omega) (by omega) (by rw [coinsT_len]; exact hx) (by rw [coinsT_len]; exact hy)
  rw [coinsT_get (by omega), coinsT_get (by omega)]
  have := coin_loc (xs := xs) (ys := ys) (i := i - t) (k := k - t) (by omega) (by omega) (h t (by omega)) (by
    have := h (t + 1) (by omega)
    rwa [show i - (t + 1) = i - t - 1 by omega, show k - (t + 1) = k - t - 1 by omega] at this)
  rw [this]
theorem coinsT_app (xs ys : List Nd) : ∃ zs, coinsT (xs ++ ys) = coinsT xs ++ zs := by
  refine ⟨(coinsT (xs ++ ys)).drop xs.length, ?_⟩
  have e : (coinsT (xs ++ ys)).take xs.length = coinsT xs := by
    unfold coinsT
    rw [← List.map_take, List.length_append]
    have e1 : (List.range (xs.length + ys.length)).take xs.length = List.range xs.length := by
      rw [List.take_range]
      congr 1
      omega
    rw [e1]
    refine List.map_congr_left fun i hi => ?_
    have hi' : i < xs.length := by simpa using hi
    have c0 : (xs ++ ys)[i]? = xs[i]? := List.getElem?_append_left hi'
    cases i with
    | zero => simp only [bef, cod, c0]
    | succ i =>
      have c1 : (xs ++ ys)[i]? = xs[i]? := List.getElem?_append_left (by omega)
      simp only [bef, cod, c0, c1]
  rw [← e, List.take_append_drop]
theorem col_pre {xs ys : List Nd} {i : Nat} (hi : i < xs.length) : (colN (xs ++ ys)).getD i 0 = (colN xs).getD i 0 := by
  obtain ⟨zs, e⟩ := coinsT_app xs ys
  unfold colN
  rw [e]
  exact rnd_pre 4 _ _ i (by rw [coinsT_len]; exact hi)
theorem ext_getD {ns ms : List Nat} (hl : ns.length = ms.length) (h : ∀ i, i < ns.length → ns.getD i 0 = ms.getD i 0) : ns = ms := by
  refine List.ext_getElem hl fun i h1 h2 => ?_
  have := h i h1
  simpa [List.getD_eq_getElem?_getD, h1, h2] using this
theorem col_take (xs ys : List Nd) : (colN (xs ++ ys)).take xs.length = colN xs := by
  refine ext_getD (by rw [List.length_take, col_len, col_len]; simp) fun i hi => ?_
  rw [List.length_take, col_len] at hi
  have h1 : i < xs.length := by omega
  rw [← col_pre (ys := ys) h1]
  simp [List.getD_eq_getElem?_getD, List.getElem?_take, h1]
end Law
namespace Law
open PySem L2 ML
def m_cut : MF := mFn 5 2 (mSeq (mSet 2 (mBin addA (mSl (mVar 1) (mPart (mC (.int 1))) mNoPart) (mTup (mCons (mCa lenA (mCons (mVar 0) mNil)) mNil))))
    (mRet (mLc (mZip (mCons (mVar 1) (mCons (mVar 2) mNil))) (.many [3, 4]) [3, 4] mYes (mSl (mVar 0) (mPart (mVar 3)) (mPart (mVar 4))))))
section
variable {c : Nat → Int} {a b : Nat}
theorem rises (hd : ∀ j, a ≤ j → j < b → c j ≠ c (j + 1)) (hp : ∀ j, a < j → j < b → ¬ (c (j - 1) < c j ∧ c (j + 1) < c j)) {j : Nat} (hj : a ≤ j) (hu : c j < c (j + 1)) :
    ∀ k, j + 1 + k ≤ b → c j + 1 + k ≤ c (j + 1 + k) ∧ c (j + k) < c (j + 1 + k)
  | 0, _ => ⟨by simp; omega, by simpa using hu⟩
  | k + 1, h => by
    obtain ⟨h1, h2⟩ := rises hd hp hj hu k (by omega)
    have h3 := hp (j + 1 + k) (by omega) (by omega)
    have h4 := hd (j + 1 + k) (by omega) (by omega)
    have e : j + 1 + k - 1 = j + k := by omega
    rw [e] at h3
    have e2 : j + 1 + (k + 1) = j + 1 + k + 1 := by omega
    have e3 : j + (k + 1) = j + 1 + k := by omega
    rw [e2, e3]
    have : c (j + 1 + k) < c (j + 1 + k + 1) := by
      by_cases q : c (j + 1 + k + 1) < c (j + 1 + k)
      · exact absurd ⟨h2, q⟩ h3
      · omega
    exact ⟨by push_cast; omega, this⟩
theorem stretch (hab : a ≤ b) (h0 : ∀ j, a ≤ j → j ≤ b → 0 ≤ c j ∧ c j ≤ 5) (hd : ∀ j, a ≤ j → j < b → c j ≠ c (j + 1)) (hp : ∀ j, a < j → j < b → ¬ (c (j - 1) < c j ∧ c (j + 1) < c j)) : b ≤ a + 10 := by
  -- falling up to the first rise
  have key : ∀ m, a + m ≤ b → (∀ j, a ≤ j → j < a + m → c (j + 1) < c j) → c (a + m) + m ≤ c a := by
    intro m
    induction m with
    | zero => intro _ _; simp
    | succ m ih =>
      intro h1 h2
      have := ih (by omega) fun j p q => h2 j p (by omega)
      have h3 := h2 (a + m) (by omega) (by omega)
      have e : a + (m + 1) = a + m + 1 := by omega
      rw [e]
      push_cast
      omega
  by_cases hx : ∃ j, a ≤ j ∧ j < b ∧ c j < c (j + 1)
  · have hm : ∃ m, a + m < b ∧ c (a + m) < c (a + m + 1) ∧ ∀ j, a ≤ j → j < a + m → ¬ c j < c (j + 1) := by
      obtain ⟨j, h1, h2, h3⟩ := hx
      have : ∀ n, ∀ j, j - a ≤ n → a ≤ j → j < b → c j < c (j + 1) → ∃ m, a + m < b ∧ c (a + m) < c (a + m + 1) ∧ ∀ j, a ≤ j → j < a + m → ¬ c j < c (j + 1) := by
        intro n
        induction n with
        | zero =>
          intro j h0 h1 h2 h3
          have : j = a := by omega
          subst this
          exact ⟨0, by omega, h3, fun i p q => by omega⟩
        | succ n ih =>
          intro j h0 h1 h2 h3
          by_cases hy : ∃ i, a ≤ i ∧ i < j ∧ c i < c (i + 1)
          · obtain ⟨i, p, q, r⟩ := hy
            exact ih i (by omega) p (by omega) r
          · refine ⟨j - a, by omega, ?_, fun i p q r => hy ⟨i, p, by omega, r⟩⟩
            have e : a + (j - a) = j := by omega
            rw [e]
            exact h3
      exact this _ j (Nat.le_refl _) h1 h2 h3
    obtain ⟨m, h1, h2, h3⟩ := hm
    have f1 := key m (by omega) fun j p q => by
      have := h3 j p q
      have := hd j p (by omega)
      omega
    have f2 := (rises hd hp (j := a + m) (by omega) h2 (b - (a + m) - 1) (by omega)).1
    have e : a + m + 1 + (b - (a + m) - 1) = b := by omega
    rw [e] at f2
    have g1 := h0 a (by omega) (by omega)
    have g2 := h0 b (by omega) (by omega)
    have g3 := h0 (a + m) (by omega) (by omega)
    omega
  · have f1 := key (b - a) (by omega) fun j p q => by
      have : ¬ c j < c (j + 1) := fun z => hx ⟨j, p, by omega, z⟩
      have := hd j p (by omega)
      omega
    have g1 := h0 a (by omega) (by omega)
    have g2 := h0 (a + (b - a)) (by omega) (by omega)
    omega
end
theorem pks_mem {cs : List Int} {m j : Nat} : j ∈ pks cs m ↔ 2 ≤ j ∧ j < m + 2 ∧ isPk cs j := by
  unfold pks
  rw [List.mem_map]
  constructor
  · rintro ⟨t, h, rfl⟩
    rw [List.mem_filter] at h
    obtain ⟨h1, h2⟩ := h
    exact ⟨by omega, by have := List.mem_range.mp h1; omega, of_decide_eq_true h2⟩
  · rintro ⟨h1, h2, h3⟩
    refine ⟨j - 2, List.mem_filter.mpr ⟨List.mem_range.mpr (by omega), ?_⟩, by omega⟩
    have : j - 2 + 2 = j := by omega
    rw [this]
    exact decide_eq_true h3
theorem pks_asc (cs : List Int) (m : Nat) : (pks cs m).Pairwise (· < ·) := by
  unfold pks
  rw [List.pairwise_map]
  exact (List.pairwise_lt_range.filter _).imp fun h => by omega
theorem starts_asc (cs : List Int) : (startsL cs).Pairwise (· < ·) := by
  unfold startsL
  split
  · exact .nil
  · refine List.pairwise_cons.mpr ⟨fun j hj => ?_, pks_asc _ _⟩
    have := pks_mem.mp hj
    omega
theorem starts_mem {cs : List Int} {j : Nat} (h : j ∈ startsL cs) : j = 0 ∨ (2 ≤ j ∧ j + 1 < cs.length ∧ isPk cs j) := by
  unfold startsL at h
  split at h
  · cases h
  · rcases List.mem_cons.mp h with e | e
    · exact .inl e
    · have := pks_mem.mp e
      exact .inr ⟨this.1, by omega, this.2.2⟩
theorem starts_of_pk {cs : List Int} {j : Nat} (h1 : 2 ≤ j) (h2 : j + 1 < cs.length) (h3 : isPk cs j) : j ∈ startsL cs := by
  unfold startsL
  rw [if_neg (by intro z; subst z; simp at h2)]
  exact List.mem_cons_of_mem _ (pks_mem.mpr ⟨h1, by omega, h3⟩)
def endK (cs : List Int) (k : Nat) : Nat := (startsL cs).getD (k + 1) cs.length
theorem none_between {cs : List Int} {k j : Nat} (hk : k < (startsL cs).length) (h1 : (startsL cs)[k] < j) (h2 : j < endK cs k) (h3 : j ≠ 1) (h4 : j + 1 < cs.length) : ¬ isPk cs j := fun hp => by
  have hm := starts_of_pk (by omega) h4 hp
  obtain ⟨t, ht, e⟩ := List.getElem_of_mem hm
  have asc := List.pairwise_iff_getElem.mp (starts_asc cs)
  have t1 : k < t := by
    rcases Nat.lt_trichotomy k t with q | q | q
    · exact q
    · subst q; omega
    · have := asc t k ht hk q; omega
  unfold endK at h2
  by_cases hk2 : k + 1 < (startsL cs).length
  · rw [List.getD_eq_getElem?_getD, List.getElem?_eq_getElem hk2, Option.getD_some] at h2
    rcases Nat.lt_or_ge (k + 1) t with q | q
    · have := asc (k + 1) t hk2 ht q; omega
    · have : t = k + 1 := by omega
      subst this
      omega
  · omega
structure CRow (cs : List Int) : Prop where
  lo : ∀ j, j < cs.length → 0 ≤ cs.getD j 0 ∧ cs.getD j 0 ≤ 5
  ne : ∀ j, j + 1 < cs.length → cs.getD j 0 ≠ cs.getD (j + 1) 0
theorem starts_lt {cs : List Int} {k : Nat} (hk : k < (startsL cs).length) : (startsL cs)[k] < cs.length := by
  have hm := List.getElem_mem hk
  rcases starts_mem hm with e | e
  · rw [e]
    cases cs with
    | nil => simp [startsL] at hk
    | cons x r => simp
  · omega
theorem dense {cs : List Int} (r : CRow cs) {k : Nat} (hk : k < (startsL cs).length) :
    (startsL cs)[k] < endK cs k ∧ endK cs k ≤ cs.length ∧ (min 2 cs.length : Nat) ≤ endK cs k - (startsL cs)[k] ∧ endK cs k - (startsL cs)[k] ≤ 10 + (if k = 0 then 1 else 0) + (if k = (startsL cs).length - 1 then 1 else 0) := by
  have asc := List.pairwise_iff_getElem.mp (starts_asc cs)
  have h0 : (startsL cs)[k] = 0 ↔ k = 0 := by
    constructor
    · intro e
      have hm : 0 < (startsL cs).length := by omega
      rcases Nat.eq_zero_or_pos k with q | q
      · exact q
      · have := asc 0 k hm hk q; omega
    · intro e
      subst e
      have : startsL cs ≠ [] := fun z => by rw [z] at hk; simp at hk
      unfold startsL at this ⊢
      split
      · rename_i z; exact absurd (if_pos z) this
      · rfl
  have sl := starts_lt hk
  have sm := starts_mem (List.getElem_mem hk)
  by_cases hk2 : k + 1 < (startsL cs).length
  · have ee : endK cs k = (startsL cs)[k + 1] := by
      unfold endK
      rw [List.getD_eq_getElem?_getD, List.getElem?_eq_getElem hk2, Option.getD_some]
    have hlt := asc k (k + 1) hk hk2 (by omega)
    have em := starts_mem (List.getElem_mem hk2)
    have el := starts_lt hk2
    have nb := fun j => none_between (cs := cs) (k := k) (j := j) hk
    rw [ee] at nb ⊢
    generalize hs : (startsL cs)[k] = s at *
    generalize he : (startsL cs)[k + 1] = e at *
    have e2 : 2 ≤ e ∧ e + 1 < cs.length ∧ isPk cs e := by
      rcases em with q | q
      · omega
      · exact q
    have two : 2 ≤ e - s := by
      rcases sm with q | ⟨q1, q2, q3⟩
      · omega
      · by_cases z : e = s + 1
        · exfalso
          subst z
          unfold isPk at q3 e2
          have h7 := q3.2
          have h8 := e2.2.2.1
          rw [Nat.add_sub_cancel] at h8
          omega
        · omega
    refine ⟨hlt, by omega, by omega, ?_⟩
    by_cases hz : s = 0
    · have := stretch (c := fun j => cs.getD j 0) (a := 1) (b := e) (by omega) (fun j _ p => r.lo j (by omega)) (fun j _ p => r.ne j (by omega)) (fun j p q => nb j (by omega) q (by omega) (by omega))
      rw [if_pos (h0.mp hz)]
      omega
    · have := stretch (c := fun j => cs.getD j 0) (a := s) (b := e) (by omega) (fun j _ p => r.lo j (by omega)) (fun j _ p => r.ne j (by omega)) (fun j p q => nb j (by omega) q (by omega) (by omega))
      omega
  · have ee : endK cs k = cs.length := by
      unfold endK
      rw [List.getD_eq_getElem?_getD, List.getElem?_eq_none (by omega), Option.getD_none]
    have nb := fun j => none_between (cs := cs) (k := k) (j := j) hk
    rw [ee] at nb ⊢
    have kl : k = (startsL cs).length - 1 := by omega
    rw [if_pos kl]
    generalize hs : (startsL cs)[k] = s at *
    refine ⟨by omega, by omega, by omega, ?_⟩
    by_cases hz : s = 0
    · rw [if_pos (h0.mp hz)]
      by_cases h1 : cs.length ≤ 1
      · omega
      · have := stretch (c := fun j => cs.getD j 0) (a := 1) (b := cs.length - 1) (by omega) (fun j _ p => r.lo j (by omega)) (fun j _ p => r.ne j (by omega)) (fun j p q => nb j (by omega) (by omega) (by omega) (by omega))
        omega
    · have := stretch (c := fun j => cs.getD j 0) (a := s) (b := cs.length - 1) (by omega) (fun j _ p => r.lo j (by omega)) (fun j _ p => r.ne j (by omega)) (fun j p q => nb j (by omega) (by omega) (by omega) (by omega))
      omega
def intsN (ns : List Nat) : List Int := ns.map fun (n : Nat) => (n : Int)
theorem natsA_ints (ns : List Nat) : natsA ns = (intsN ns).map A.int := by simp [natsA, intsN]
theorem intsN_len (ns : List Nat) : (intsN ns).length = ns.length := by simp [intsN]
theorem intsN_get {ns : List Nat} {j : Nat} : (intsN ns).getD j 0 = ((ns.getD j 0 : Nat) : Int) := by
  simp only [intsN, List.getD_eq_getElem?_getD, List.getElem?_map]
  cases ns[j]? <;> rfl
noncomputable def colsZ (xs : List Nd) : List Int := intsN (colN xs)
theorem colsZ_len (xs : List Nd) : (colsZ xs).length = xs.length := by rw [colsZ, intsN_len, col_len]
theorem colsZ_row {xs : List Nd} (h : Row xs) : CRow (colsZ xs) := by
  refine ⟨fun j hj => ?_, fun j hj => ?_⟩
  · rw [colsZ_len] at hj
    have := col_lt h j (by rw [col_len]; exact hj)
    unfold colsZ
    rw [intsN_get]
    omega
  · rw [colsZ_len] at hj
    have := col_apart h j (by rw [col_len]; exact hj)
    unfold colsZ
    rw [intsN_get, intsN_get]
    omega
def cutsN {α : Type} (ss : List Nat) (xs : List α) : List (List α) := (List.range ss.length).map fun i => (xs.take (ss.getD (i + 1) xs.length)).drop (ss.getD i 0)
theorem cutsN_len {α : Type} (ss : List Nat) (xs : List α) : (cutsN ss xs).length = ss.length := by simp [cutsN]
theorem cutsN_get {α : Type} {ss : List Nat} {xs : List α} {i : Nat} (h : i < ss.length) : (cutsN ss xs)[i]? = some ((xs.take (ss.getD (i + 1) xs.length)).drop (ss.getD i 0)) := by
  simp [cutsN, h]
theorem cutsN_take {α : Type} {ss : List Nat} {xs : List α} {i : Nat} (h : i < ss.length) : (cutsN ss xs).take (i + 1) = (cutsN ss xs).take i ++ [(xs.take (ss.getD (i + 1) xs.length)).drop (ss.getD i 0)] := by
  rw [List.take_add_one, cutsN_get h]
  rfl
theorem lc_zipv {tg : Tg} {own : List Nat} {tt : MT} {elt : MX} {ρ0 : ML.Env} {st : Store} {xs ys : List A} {QL : List A → Store → Prop} (I : Nat → Store → List A → Prop) (hl : ys.length = xs.length) (h0 : I 0 st [])
    (hs : ∀ i x y st acc, xs[i]? = some x → ys[i]? = some y → I i st acc → ∃ ρ1, asgT tg (.tup [x, y]) ρ0 st = some ρ1 ∧ (tt ρ1 st).wp fun b st1 => if b = true then (elt ρ1 st1).wp fun y st2 => acc.length < sizeLine ∧ I (i + 1) st2 (acc ++ [y]) else I (i + 1) st1 acc)
    (hd : ∀ st acc, I xs.length st acc → QL acc st) : (loopC (.zipv xs ys) tg own tt elt ρ0 (Src.size (.zipv xs ys) st + 1) 0 st []).wp QL :=
  lc_wp xs.length (fun i => .tup [xs.getD i .non, ys.getD i .non]) I (fun i st acc _ => ⟨fun h => by
      have e1 : xs[i]? = some xs[i] := List.getElem?_eq_getElem h
      have e2 : ys[i]? = some (ys[i]'(by omega)) := List.getElem?_eq_getElem (by omega)
      simp only [Src.at, e1, e2, List.getD_eq_getElem?_getD, Option.getD_some], fun h => by
      have e1 : xs[i]? = none := List.getElem?_eq_none (by omega)
      simp only [Src.at, e1]⟩) (fun i st acc h q => hs i _ _ st acc (by simp [h]) (by simp [show i < ys.length by omega]) q) hd _ _ _ _ (by simp [Src.size]) (Nat.zero_le _) h0
theorem starts_few (xs : List Nd) : (startsL (colsZ xs)).length ≤ xs.length + 1 := by
  have hcl := colsZ_len xs
  unfold startsL
  split
  · simp
  · have := pks_len (colsZ xs) ((colsZ xs).length - 3)
    simp
    omega
theorem starts_zero (xs : List Nd) : (startsL (colsZ xs)).getD 0 xs.length = 0 := by
  have hcl := colsZ_len xs
  unfold startsL
  split
  · rename_i h
    rw [h] at hcl
    simp at hcl
    simp [← hcl]
  · simp
theorem parts_ok {xs : List Nd} (h : Row xs) {i : Nat} (hi : i < (startsL (colsZ xs)).length) : (startsL (colsZ xs)).getD i 0 < (startsL (colsZ xs)).getD (i + 1) xs.length ∧ (startsL (colsZ xs)).getD (i + 1) xs.length ≤ xs.length ∧ (min 2 xs.length : Nat) ≤ (startsL (colsZ xs)).getD (i + 1) xs.length - (startsL (colsZ xs)).getD i 0 ∧ (startsL (colsZ xs)).getD (i + 1) xs.length - (startsL (colsZ xs)).getD i 0 ≤ 12 ∧ (startsL (colsZ xs)).getD i xs.length = (startsL (colsZ xs)).getD i 0 := by
  obtain ⟨d1, d2, d3, d4⟩ := dense (colsZ_row h) hi
  unfold endK at d1 d2 d3 d4
  rw [colsZ_len] at d1 d2 d3 d4
  have e1 : (startsL (colsZ xs)).getD i 0 = (startsL (colsZ xs))[i] := by
    rw [List.getD_eq_getElem?_getD, List.getElem?_eq_getElem hi]
    rfl
  have e2 : (startsL (colsZ xs)).getD i xs.length = (startsL (colsZ xs))[i] := by
    rw [List.getD_eq_getElem?_getD, List.getElem?_eq_getElem hi]
    rfl
  rw [e1, e2]
  refine ⟨d1, d2, d3, ?_, rfl⟩
  split at d4 <;> split at d4 <;> omega
end Law
namespace Law
open PySem L2 ML
theorem Row.app {xs ys : List Nd} (h : Row xs) (k : Row ys) (hm : ∀ a b, xs[xs.length - 1]? = some a → ys[0]? = some b → 1 ≤ xs.length → a ≠ b) : Row (xs ++ ys) := by
  refine ⟨fun d hd => ?_, fun i a b h1 h2 => ?_⟩
  · rcases List.mem_append.mp hd with z | z
    · exact h.it d z
    · exact k.it d z
  · by_cases q : i + 1 < xs.length
    · rw [List.getElem?_append_left (by omega)] at h1
      rw [List.getElem?_append_left q] at h2
      exact h.ap i a b h1 h2
    · by_cases q2 : i + 1 = xs.length
      · rw [List.getElem?_append_left (by omega)] at h1
        rw [List.getElem?_append_right (by omega), q2, Nat.sub_self] at h2
        exact hm a b (by rw [← q2]; simpa using h1) h2 (by omega)
      · rw [List.getElem?_append_right (by omega)] at h1
        rw [List.getElem?_append_right (by omega), show i + 1 - xs.length = i - xs.length + 1 by omega] at h2
        exact k.ap _ a b h1 h2
theorem Row.take {xs : List Nd} (h : Row xs) (n : Nat) : Row (xs.take n) := by
  refine ⟨fun d hd => h.it d (List.mem_of_mem_take hd), fun i a b h1 h2 => ?_⟩
  have l2 := (List.getElem?_eq_some_iff.mp h2).1
  simp at l2
  rw [List.getElem?_take_of_lt (by omega)] at h1 h2
  exact h.ap i a b h1 h2
theorem Row.drop {xs : List Nd} (h : Row xs) (n : Nat) : Row (xs.drop n) := by
  refine ⟨fun d hd => h.it d (List.mem_of_mem_drop hd), fun i a b h1 h2 => ?_⟩
  rw [List.getElem?_drop] at h1 h2
  exact h.ap (n + i) a b h1 (by rw [← h2]; congr 1)
def Sty (st st' : Store) : Prop := ∀ r ys, stL st r = some ys → r ≠ 0 → r ≠ 1 → stL st' r = some ys
theorem Sty.trans {a b c : Store} (h : Sty a b) (k : Sty b c) : Sty a c := fun r ys e r0 r1 => k r ys (h r ys e r0 r1) r0 r1
theorem Sty.grown {a b : Store} (h : Grown a b) : Sty a b := fun r ys e _ _ => h.stL e
theorem Sty.get {a b : Store} (h : Sty a b) {r : Nat} {ys : List A} (e : stL a r = some ys) (hr : 1 < r) : stL b r = some ys := h r ys e (by omega) (by omega)
end Law
namespace Law
open PySem L2 ML
noncomputable def m_groups_of : MF := mFn 4 1 (mSeq (mSet 1 (mLst mNil))
    (mSeq (mSet 2 (mC (.int 0)))
    (mSeq (mWhile (mGB (mBin ltA (mVar 2) (mCa lenA (mCons (mVar 0) mNil)))) (mSeq (mSet 3 (mBin addA (mVar 2) (mC (.int 1))))
    (mSeq (mWhile (mAnd (mGB (mBin ltA (mVar 3) (mCa lenA (mCons (mVar 0) mNil)))) (mGB (mBin eqA (mBin ixA (mVar 0) (mVar 3)) (mBin ixA (mVar 0) (mVar 2))))) (mAug 3 iaddA (mC (.int 1))))
    (mSeq (mExpr (mBm appendA (mVar 1) (mCons (mTup (mCons (mBin ixA (mVar 0) (mVar 2)) (mCons (mBin subA (mVar 3) (mVar 2)) mNil))) mNil)))
    (mSet 2 (mVar 3))))))
    (mRet (mVar 1)))))
abbrev Gp := Nd × Nat
def expG (gs : List Gp) : List Nd := (gs.map fun g => List.replicate g.2 g.1).flatten
theorem expG_nil : expG [] = [] := rfl
theorem expG_app (gs hs : List Gp) : expG (gs ++ hs) = expG gs ++ expG hs := by simp [expG]
theorem expG_one (g : Gp) : expG [g] = List.replicate g.2 g.1 := by simp [expG]
def posG (gs : List Gp) (j : Nat) : Nat := (expG (gs.take j)).length
theorem expG_split {gs : List Gp} {j : Nat} {g : Gp} (h : gs[j]? = some g) : expG gs = expG (gs.take j) ++ (List.replicate g.2 g.1 ++ expG (gs.drop (j + 1))) := by
  have hj := (List.getElem?_eq_some_iff.mp h).1
  have e : gs = gs.take j ++ ([g] ++ gs.drop (j + 1)) := by
    have e1 : gs.drop j = g :: gs.drop (j + 1) := by
      rw [List.drop_eq_getElem_cons hj]
      congr 1
      rw [List.getElem?_eq_getElem hj] at h
      exact Option.some.inj h
    rw [show [g] ++ gs.drop (j + 1) = gs.drop j by rw [e1]; rfl, List.take_append_drop]
  calc expG gs = expG (gs.take j ++ ([g] ++ gs.drop (j + 1))) := by rw [← e]
    _ = _ := by rw [expG_app, expG_app, expG_one]
theorem posG_succ {gs : List Gp} {j : Nat} {g : Gp} (h : gs[j]? = some g) : posG gs (j + 1) = posG gs j + g.2 := by
  unfold posG
  rw [List.take_add_one, h]
  show (expG (gs.take j ++ [g])).length = _
  rw [expG_app, expG_one]
  simp
theorem posG_le (gs : List Gp) (j : Nat) : posG gs j ≤ (expG gs).length := by
  unfold posG
  have : expG gs = expG (gs.take j) ++ expG (gs.drop j) := by rw [← expG_app, List.take_append_drop]
  rw [this]
  simp
theorem posG_all (gs : List Gp) : posG gs gs.length = (expG gs).length := by simp [posG]
theorem expG_get {gs : List Gp} {j t : Nat} {g : Gp} (h : gs[j]? = some g) (ht : t < g.2) : (expG gs)[posG gs j + t]? = some g.1 := by
  rw [expG_split h]
  have e : posG gs j + t - (expG (gs.take j)).length = t := by unfold posG; omega
  rw [List.getElem?_append_right (by unfold posG; omega), e, List.getElem?_append_left (by simp; omega), List.getElem?_replicate, if_pos ht]
def itmN (g : Gp) : Nd := if g.2 = 1 then g.1 else .run g.1 g.2
def Old (st st' : Store) : Prop := ∀ r ys, stL st r = some ys → stL st' r = some ys
theorem Old.trans {a b c : Store} (h : Old a b) (k : Old b c) : Old a c := fun r ys e => k r ys (h r ys e)
theorem Old.grown {a b : Store} (h : Grown a b) : Old a b := fun r ys e => h.stL e
def OldB (st0 : Store) (r : Nat) (st : Store) : Prop := ∀ r' ys, stL st0 r' = some ys → stL st r' = some ys ∧ r' ≠ r
theorem OldB.old {st0 st : Store} {r : Nat} (h : OldB st0 r st) : Old st0 st := fun r' ys e => (h r' ys e).1
theorem OldB.grown {st0 st st' : Store} {r : Nat} (h : OldB st0 r st) (g : Grown st st') : OldB st0 r st' := fun r' ys e => ⟨g.stL (h r' ys e).1, (h r' ys e).2⟩
theorem OldB.set {st0 st : Store} {r : Nat} {o : Ob} (h : OldB st0 r st) : OldB st0 r (st.set r o) := fun r' ys e => by
  obtain ⟨h1, h2⟩ := h r' ys e
  refine ⟨?_, h2⟩
  unfold stL
  rw [List.getElem?_set_ne (Ne.symm h2)]
  exact h1
theorem OldB.new' {st0 st : Store} {r : Nat} (hr : st0.length ≤ r) (g : Grown st0 st) : OldB st0 r st := fun r' ys e => ⟨g.stL e, by
  have := (List.getElem?_eq_some_iff.mp (stL_eq e)).1
  omega⟩
theorem OldB.new {st0 st : Store} (g : Grown st0 st) : OldB st0 st0.length st := OldB.new' (Nat.le_refl _) g
def muG (n i : Nat) (ρ : ML.Env) (_ : Store) : Nat := match ρ[i]? with
  | some (some (.int s)) => n - s.toNat
  | _ => 0
end Law
namespace Law
open PySem L2 ML
section
variable {st : Store} {r q : Nat} {kvs : List (NestedKey × A)} {k : NestedKey} {y v : A} {Q : A → Store → Prop} {ρ : ML.Env} {N B C : ML.Env → Store → Prop} {Rt : A → Store → Prop}
@[simp] theorem wp_dnew : (mDNew ρ st).wp Q ↔ Q (.ref st.length) (st ++ [.oth (.dct [])]) := Iff.rfl
@[simp] theorem stD_new : stD (st ++ [.oth (.dct kvs)]) st.length = some kvs := by simp [stD]
theorem Grown.stD {st st' : Store} (h : Grown st st') {i : Nat} {kvs : List (NestedKey × A)} (e : ML.stD st i = some kvs) : ML.stD st' i = some kvs := by
  unfold ML.stD
  rw [h.get (stD_eq e)]
theorem stD_lt {st : Store} (e : stD st r = some kvs) : r < st.length := (List.getElem?_eq_some_iff.mp (stD_eq e)).1
theorem stL_lt {st : Store} {xs : List A} (e : stL st r = some xs) : r < st.length := (List.getElem?_eq_some_iff.mp (stL_eq e)).1
theorem stD_set_self {u : List (NestedKey × A)} (e : r < st.length) : stD (st.set r (.oth (.dct u))) r = some u := by
  unfold stD
  rw [List.getElem?_set_self e]
theorem stD_set_ne {o : Ob} (h : r ≠ q) : stD (st.set r o) q = stD st q := by
  unfold stD
  rw [List.getElem?_set_ne h]
theorem stL_set_ne' {o : Ob} (h : r ≠ q) : stL (st.set r o) q = stL st q := by
  unfold stL
  rw [List.getElem?_set_ne h]
theorem ask_eq (hs : stD st r = some kvs) (hk : keyOf y = some k) (hf : fitD kvs k = true) : askD (.ref r) y st = some (atD kvs k) := by
  unfold askD
  simp only [hs, hk, hf, if_true]
@[simp] theorem wp_dget1 {mo mi : MX} : (mDGet1 mo mi ρ st).wp Q ↔ (mo ρ st).wp fun d st1 => isDA d st1 = true ∧ (mi ρ st1).wp fun b st2 => ∃ o, askD d b st2 = some o ∧ Q (o.getD .non) st2 := by
  unfold mDGet1
  rw [wp_bind]
  refine iff_of_eq (congrArg _ (funext fun d => funext fun st1 => propext ?_))
  by_cases c : isDA d st1 = true
  · rw [if_pos c, wp_bind]
    simp only [c, true_and]
    refine iff_of_eq (congrArg _ (funext fun b => funext fun st2 => propext ?_))
    cases askD d b st2 with
    | none => simp [R.wp]
    | some o => simp [R.wp]
  · rw [if_neg c]
    simp [R.wp, c]
theorem isDA_ref (hs : stD st r = some kvs) : isDA (.ref r) st = true := by
  unfold isDA
  simp [hs]
theorem put_eq (hs : stD st r = some kvs) (hk : keyOf y = some k) (hf : fitD kvs k = true) (hl : kvs.length < sizeLine) : putS (.ref r) y v st = some (st.set r (.oth (.dct (putD kvs k v)))) := by
  unfold putS
  simp only [hs, hk, hf, hl, and_self, if_true]
@[simp] theorem sp_dput {mo mi ma : MX} : (mDPut mo mi ma ρ st).wp N B C Rt ↔ (ma ρ st).wp fun d st1 => (mo ρ st1).wp fun o st2 => (mi ρ st2).wp fun i st3 => ∃ st4, putS o i d st3 = some st4 ∧ N ρ st4 := by
  unfold mDPut
  rw [wp_toS]
  refine iff_of_eq (congrArg _ (funext fun d => funext fun st1 => propext ?_))
  rw [wp_toS]
  refine iff_of_eq (congrArg _ (funext fun o => funext fun st2 => propext ?_))
  rw [wp_toS]
  refine iff_of_eq (congrArg _ (funext fun i => funext fun st3 => propext ?_))
  cases putS o i d st3 with
  | none => simp [SR.wp]
  | some st4 => simp [SR.wp]
end
mutual
theorem keyOf_clean : ∀ {a : A}, cleanA a = true → ∃ k, keyOf a = some k ∧ k.depth = depA a
  | .non, _ => ⟨_, rfl, rfl⟩
  | .int i, _ => ⟨_, rfl, rfl⟩
  | .str x, _ => ⟨_, rfl, rfl⟩
  | .tup xs, h => by
    simp only [cleanA] at h
    obtain ⟨ks, e1, e2⟩ := keysOf_clean h
    refine ⟨.tup ks, ?_, by simp only [NestedKey.depth, depA, e2]⟩
    unfold keyOf
    rw [e1]
  | .bl _, h => nomatch h
  | .scr _, h => nomatch h
  | .ref _, h => nomatch h
theorem keysOf_clean : ∀ {xs : List A}, cleanAs xs = true → ∃ ks, keysOf xs = some ks ∧ NestedKey.depthAll ks = depAs xs
  | [], _ => ⟨[], rfl, rfl⟩
  | x :: xs, h => by
    simp only [cleanAs, Bool.and_eq_true] at h
    obtain ⟨k, e1, e2⟩ := keyOf_clean h.1
    obtain ⟨ks, e3, e4⟩ := keysOf_clean h.2
    refine ⟨k :: ks, ?_, by simp only [NestedKey.depthAll, depAs, e2, e4]⟩
    unfold keysOf
    rw [e1, e3]
end
theorem keyOf_inj {a b : A} {k : NestedKey} (ha : keyOf a = some k) (hb : keyOf b = some k) : a = b := by
  rw [← keyOf_aOf ha, keyOf_aOf hb]
end Law
namespace Law
open PySem L2 ML
open Classical
noncomputable def idx (f : List Nd) (b : Nd) : Nat := f.findIdx fun x => decide (x = b)
noncomputable def addN (f : List Nd) (n : Nd) : List Nd := if n ∈ f then f else f ++ [n]
def kids : Nd → List Nd
  | .leaf _ => []
  | .run b _ => [b]
  | .blk cs => cs
def Clo (f : List Nd) : Prop := f.Nodup ∧ ∀ n ∈ f, ∀ c ∈ kids n, c ∈ f
theorem addN_pre (f : List Nd) (n : Nd) : ∃ g, addN f n = f ++ g ∧ n ∈ addN f n ∧ g.length ≤ 1 := by
  unfold addN
  split
  · exact ⟨[], by simp, by assumption, by simp⟩
  · exact ⟨[n], rfl, by simp, by simp⟩
theorem addN_clo {f : List Nd} {n : Nd} (h : Clo f) (hk : ∀ c ∈ kids n, c ∈ f) : Clo (addN f n) := by
  unfold addN
  split
  · exact h
  · rename_i hn
    refine ⟨?_, fun m hm c hc => ?_⟩
    · rw [List.nodup_append]
      exact ⟨h.1, by simp, fun a ha b hb e => by
        simp at hb
        subst hb
        subst e
        exact hn ha⟩
    · rcases List.mem_append.mp hm with hm | hm
      · exact List.mem_append_left _ (h.2 m hm c hc)
      · simp at hm
        subst hm
        exact List.mem_append_left _ (hk c hc)
noncomputable def kOf (a : A) : NestedKey := (keyOf a).getD .none
noncomputable def entK (f : List Nd) : Nd → NestedKey
  | .leaf e => .tup [.text "leaf", kOf e]
  | .run b t => .tup [.text "run", .num (idx f b : Nat), .num (t : Nat)]
  | .blk cs => .tup [.text "block", .tup (cs.map fun c => .num (idx f c : Nat))]
noncomputable def entA (f : List Nd) : Nd → A
  | .leaf e => .tup [.str "leaf", e]
  | .run b t => .tup [.str "run", .int (idx f b : Nat), .int (t : Nat)]
  | .blk cs => .tup [.str "block", .tup (cs.map fun c => .int (idx f c : Nat))]
theorem keysOf_ints : ∀ (l : List Nd) (g : Nd → Nat), keysOf (l.map fun c => .int (g c : Nat)) = some (l.map fun c => .num (g c : Nat))
  | [], g => rfl
  | c :: l, g => by
    simp only [List.map_cons]
    unfold keysOf
    rw [keysOf_ints l g]
    rfl
theorem key_ent {f : List Nd} {n : Nd} (h : okN n) : keyOf (entA f n) = some (entK f n) := by
  cases n with
  | leaf e =>
    simp only [okN] at h
    obtain ⟨k, e1, _⟩ := keyOf_clean (el_cmp h).cl
    simp only [entA, entK, kOf]
    simp [keyOf, keysOf, e1]
  | run b t =>
    simp only [entA, entK]
    simp [keyOf, keysOf]
  | blk cs =>
    simp only [entA, entK]
    have := keysOf_ints cs (idx f)
    simp [keyOf, keysOf, this]
theorem dep_nums : ∀ (l : List Nd) (g : Nd → Nat), NestedKey.depthAll (l.map fun c => .num (g c : Nat)) = 0
  | [], _ => rfl
  | c :: l, g => by simp only [List.map_cons, NestedKey.depthAll, NestedKey.depth, dep_nums l g, Nat.max_self]
theorem ent_depth {f : List Nd} {n : Nd} (h : okN n) : (entK f n).depth ≤ 8 ∧ tupK (entK f n) = true ∧ entK f n ≠ .none := by
  cases n with
  | leaf e =>
    simp only [okN] at h
    obtain ⟨k, e1, e2⟩ := keyOf_clean (el_cmp h).cl
    have := (el_cmp h).dp
    refine ⟨?_, rfl, by simp [entK]⟩
    simp only [entK, kOf, e1, Option.getD_some, NestedKey.depth, NestedKey.depthAll, e2]
    omega
  | run b t => exact ⟨by simp [entK, NestedKey.depth, NestedKey.depthAll], rfl, by simp [entK]⟩
  | blk cs => exact ⟨by simp [entK, NestedKey.depth, NestedKey.depthAll, dep_nums cs (idx f)], rfl, by simp [entK]⟩
theorem idx_lt {f : List Nd} {b : Nd} (h : b ∈ f) : idx f b < f.length := List.findIdx_lt_length_of_exists ⟨b, h, by simp⟩
theorem idx_get {f : List Nd} {b : Nd} (h : b ∈ f) : f[idx f b]? = some b := by
  have hl := idx_lt h
  have := List.findIdx_getElem (p := fun x => decide (x = b)) (xs := f) (w := hl)
  have e : f[idx f b]'hl = b := by
    unfold idx
    simpa using this
  rw [List.getElem?_eq_getElem hl, e]
theorem idx_inj {f : List Nd} {a b : Nd} (ha : a ∈ f) (hb : b ∈ f) (h : idx f a = idx f b) : a = b := by
  have h1 := idx_get ha
  rw [h, idx_get hb] at h1
  exact (Option.some.inj h1).symm
theorem idx_app {f g : List Nd} {a : Nd} (ha : a ∈ f) : idx (f ++ g) a = idx f a := by
  unfold idx
  rw [List.findIdx_append, if_pos (List.findIdx_lt_length_of_exists ⟨a, ha, by simp⟩)]
theorem kOf_inj {a b : A} (ha : El a) (hb : El b) (h : kOf a = kOf b) : a = b := by
  obtain ⟨k, e1, _⟩ := keyOf_clean (el_cmp ha).cl
  obtain ⟨l, e2, _⟩ := keyOf_clean (el_cmp hb).cl
  unfold kOf at h
  rw [e1, e2] at h
  simp at h
  subst h
  exact keyOf_inj e1 e2
theorem map_idx_inj {f : List Nd} : ∀ {as bs : List Nd}, (∀ a ∈ as, a ∈ f) → (∀ b ∈ bs, b ∈ f) → (as.map fun c => NestedKey.num (idx f c : Nat)) = (bs.map fun c => NestedKey.num (idx f c : Nat)) → as = bs
  | [], [], _, _, _ => rfl
  | [], _ :: _, _, _, h => by simp at h
  | _ :: _, [], _, _, h => by simp at h
  | a :: as, b :: bs, ha, hb, h => by
    simp only [List.map_cons, List.cons.injEq, NestedKey.num.injEq, Int.ofNat_inj] at h
    rw [idx_inj (ha a (by simp)) (hb b (by simp)) h.1, map_idx_inj (fun x hx => ha x (by simp [hx])) (fun x hx => hb x (by simp [hx])) h.2]
theorem ent_inj {f : List Nd} {m n : Nd} (hm : okN m) (hn : okN n) (km : ∀ c ∈ kids m, c ∈ f) (kn : ∀ c ∈ kids n, c ∈ f) (h : entK f m = entK f n) : m = n := by
  cases m with
  | leaf e =>
    cases n with
    | leaf e' =>
      simp only [okN] at hm hn
      simp [entK] at h
      rw [kOf_inj hm hn h]
    | run b t => simp [entK] at h
    | blk cs => simp [entK] at h; exact absurd h.1 leaf_block
  | run b t =>
    cases n with
    | leaf e' => simp [entK] at h
    | run b' t' =>
      simp [entK] at h
      rw [idx_inj (km b (by simp [kids])) (kn b' (by simp [kids])) (Int.ofNat_inj.mp h.1), Int.ofNat_inj.mp h.2]
    | blk cs => simp [entK] at h
  | blk cs =>
    cases n with
    | leaf e' => simp [entK] at h
    | run b t => simp [entK] at h
    | blk ds =>
      simp only [entK, NestedKey.tup.injEq, List.cons.injEq, and_true, true_and] at h
      have e := map_idx_inj (as := cs) (bs := ds) km kn h
      rw [e]
def numG (g : Nd → NestedKey) : Nat → List Nd → List (NestedKey × A)
  | _, [] => []
  | i, n :: r => (g n, .int (i : Nat)) :: numG g (i + 1) r
noncomputable def numF (f : List Nd) : List (NestedKey × A) := numG (entK f) 0 f
theorem numG_len (g : Nd → NestedKey) : ∀ (i : Nat) (f : List Nd), (numG g i f).length = f.length
  | _, [] => rfl
  | i, n :: r => by simp only [numG, List.length_cons, numG_len g (i + 1) r]
theorem numG_app (g : Nd → NestedKey) (n : Nd) : ∀ (i : Nat) (f : List Nd), numG g i (f ++ [n]) = numG g i f ++ [(g n, .int ((i + f.length : Nat) : Nat))]
  | i, [] => by simp [numG]
  | i, m :: r => by
    simp only [List.cons_append, numG, numG_app g n (i + 1) r, List.length_cons]
    rw [show i + 1 + r.length = i + (r.length + 1) by omega]
theorem numG_congr {g g' : Nd → NestedKey} : ∀ {i : Nat} {f : List Nd}, (∀ m ∈ f, g m = g' m) → numG g i f = numG g' i f
  | _, [], _ => rfl
  | i, m :: r, h => by
    simp only [numG]
    rw [h m (by simp), numG_congr fun x hx => h x (by simp [hx])]
theorem numG_key {g : Nd → NestedKey} : ∀ {i : Nat} {f : List Nd} {kv : NestedKey × A}, kv ∈ numG g i f → ∃ m ∈ f, kv.1 = g m
  | _, [], _, h => by simp [numG] at h
  | i, m :: r, kv, h => by
    simp only [numG, List.mem_cons] at h
    rcases h with rfl | h
    · exact ⟨m, by simp, rfl⟩
    · obtain ⟨x, hx, e⟩ := numG_key h
      exact ⟨x, by simp [hx], e⟩
theorem atD_num {g : Nd → NestedKey} {n : Nd} : ∀ {i : Nat} {f : List Nd}, (∀ m ∈ f, g m = g n → m = n) → atD (numG g i f) (g n) = if n ∈ f then some (.int ((i + idx f n : Nat) : Nat)) else none
  | _, [], _ => by simp [numG, atD_nil]
  | i, m :: r, h => by
    simp only [numG]
    by_cases e : m = n
    · subst e
      rw [atD_pos rfl]
      simp [idx, List.findIdx_cons]
    · rw [atD_neg (fun z => e (h m (by simp) z)), atD_num fun x hx => h x (by simp [hx])]
      have e' : ¬ n = m := fun z => e z.symm
      by_cases c : n ∈ r
      · rw [if_pos c, if_pos (by simp [c])]
        have : idx (m :: r) n = idx r n + 1 := by
          unfold idx
          rw [List.findIdx_cons]
          simp [e]
        rw [this, show i + 1 + idx r n = i + (idx r n + 1) by omega]
      · rw [if_neg c, if_neg (by simp [c, e'])]
theorem ent_app {f g : List Nd} {n : Nd} (h : ∀ c ∈ kids n, c ∈ f) : entK (f ++ g) n = entK f n := by
  cases n with
  | leaf e => rfl
  | run b t => simp only [entK, idx_app (h b (by simp [kids]))]
  | blk cs =>
    simp only [entK]
    congr 2
    simp only [List.cons.injEq, NestedKey.tup.injEq, and_true]
    exact List.map_congr_left fun c hc => by rw [idx_app (h c (by simpa [kids] using hc))]
theorem num_app {f : List Nd} {n : Nd} (h : Clo f) (hn : n ∉ f) (hk : ∀ c ∈ kids n, c ∈ f) : numF (f ++ [n]) = numF f ++ [(entK f n, .int (f.length : Nat))] := by
  unfold numF
  rw [numG_app, ent_app hk, numG_congr (g' := entK f) fun m hm => ent_app (h.2 m hm)]
  simp
theorem at_num {f : List Nd} {n : Nd} (h : Clo f) (ok : ∀ m ∈ f, okN m) (hn : okN n) (hk : ∀ c ∈ kids n, c ∈ f) : atD (numF f) (entK f n) = if n ∈ f then some (.int (idx f n : Nat)) else none := by
  unfold numF
  rw [atD_num fun m hm e => ent_inj (ok m hm) hn (h.2 m hm) hk e]
  simp
theorem fit_num {f : List Nd} {n : Nd} (ok : ∀ m ∈ f, okN m) (hn : okN n) : fitD (numF f) (entK f n) = true := by
  obtain ⟨d1, d2, d3⟩ := ent_depth (f := f) hn
  unfold fitD
  rw [Bool.and_eq_true, Bool.and_eq_true]
  refine ⟨by simpa using d1, by simpa using d3, ?_⟩
  rw [List.all_eq_true]
  intro kv hkv
  obtain ⟨m, hm, e⟩ := numG_key hkv
  rw [e, d2, (ent_depth (f := f) (ok m hm)).2.1]
  rfl
theorem idx_new {f : List Nd} {n : Nd} (hn : n ∉ f) : idx (f ++ [n]) n = f.length := by
  unfold idx
  rw [List.findIdx_append]
  have : ¬ f.findIdx (fun x => decide (x = n)) < f.length := by
    intro z
    have := List.findIdx_getElem (p := fun x => decide (x = n)) (xs := f) (w := z)
    simp at this
    exact hn (this ▸ List.getElem_mem z)
  rw [if_neg this]
  simp
structure Fr2 (a b : Nat) (st st' : Store) : Prop where
  len : st.length ≤ st'.length
  get : ∀ i, i < st.length → i ≠ a → i ≠ b → st'[i]? = st[i]?
theorem Fr2.refl (a b : Nat) (st : Store) : Fr2 a b st st := ⟨Nat.le_refl _, fun _ _ _ _ => rfl⟩
theorem Fr2.trans {a b : Nat} {s1 s2 s3 : Store} (h : Fr2 a b s1 s2) (k : Fr2 a b s2 s3) : Fr2 a b s1 s3 := ⟨Nat.le_trans h.len k.len, fun i h1 h2 h3 => by rw [k.get i (Nat.lt_of_lt_of_le h1 h.len) h2 h3, h.get i h1 h2 h3]⟩
theorem Fr2.grown {a b : Nat} {s1 s2 : Store} (g : Grown s1 s2) : Fr2 a b s1 s2 := by
  obtain ⟨x, rfl⟩ := g
  exact ⟨by simp, fun i h _ _ => List.getElem?_append_left h⟩
theorem Fr2.set1 {a b : Nat} {s : Store} {o : Ob} : Fr2 a b s (s.set a o) := ⟨by simp, fun i _ h _ => List.getElem?_set_ne (Ne.symm h)⟩
end Law
namespace Law
open PySem L2 ML
def m_NodeTable___init__ : MF := mFn 1 1 (mSeq (mPutF "NodeTable" "numbers" (mVar 0) mDNew)
    (mSeq (mPutF "NodeTable" "entries" (mVar 0) (mLst mNil))
    (mSeq (mPutF "NodeTable" "codes" (mVar 0) (mLst mNil))
    (mPutF "NodeTable" "sizes" (mVar 0) (mLst mNil)))))
def m_NodeTable_measure : MF := mFn 3 2 (mIfS (mGB (mBin eqA (mBin ixA (mVar 1) (mC (.int 0))) (mC (.str "leaf")))) (mSeq (mExpr (mBm appendA (mFld "NodeTable" "codes" (mVar 0)) (mCons (mCall (m_code_of 40) (mCons (mBin ixA (mVar 1) (mC (.int 1))) mNil)) mNil)))
    (mExpr (mBm appendA (mFld "NodeTable" "sizes" (mVar 0)) (mCons (mC (.int 1)) mNil)))) (mIfS (mGB (mBin eqA (mBin ixA (mVar 1) (mC (.int 0))) (mC (.str "run")))) (mSeq (mExpr (mBm appendA (mFld "NodeTable" "codes" (mVar 0)) (mCons (mCall m_run_code (mCons (mBin ixA (mVar 1) (mC (.int 2))) (mCons (mBin ixA (mFld "NodeTable" "codes" (mVar 0)) (mBin ixA (mVar 1) (mC (.int 1)))) mNil))) mNil)))
    (mExpr (mBm appendA (mFld "NodeTable" "sizes" (mVar 0)) (mCons (mBin mulA (mBin ixA (mFld "NodeTable" "sizes" (mVar 0)) (mBin ixA (mVar 1) (mC (.int 1)))) (mBin ixA (mVar 1) (mC (.int 2)))) mNil)))) (mSeq (mExpr (mBm appendA (mFld "NodeTable" "codes" (mVar 0)) (mCons (mCall m_block_code (mCons (mLc (mSrc (mBin ixA (mVar 1) (mC (.int 1)))) (.one 2) [2] mYes (mBin ixA (mFld "NodeTable" "codes" (mVar 0)) (mVar 2))) mNil)) mNil)))
    (mExpr (mBm appendA (mFld "NodeTable" "sizes" (mVar 0)) (mCons (mCa sumA (mCons (mLc (mSrc (mBin ixA (mVar 1) (mC (.int 1)))) (.one 2) [2] mYes (mBin ixA (mFld "NodeTable" "sizes" (mVar 0)) (mVar 2))) mNil)) mNil))))))
def m_NodeTable_number_of : MF := mFn 3 2 (mSeq (mSet 2 (mDGet1 (mFld "NodeTable" "numbers" (mVar 0)) (mVar 1)))
    (mSeq (mIfS (mGB (mBin isNA (mVar 2) (mC .non))) (mSeq (mSet 2 (mCa lenA (mCons (mFld "NodeTable" "entries" (mVar 0)) mNil)))
    (mSeq (mDPut (mFld "NodeTable" "numbers" (mVar 0)) (mVar 1) (mVar 2))
    (mSeq (mExpr (mBm appendA (mFld "NodeTable" "entries" (mVar 0)) (mCons (mVar 1) mNil)))
    (mExpr (mMeth "NodeTable" "measure" m_NodeTable_measure (mVar 0) (mCons (mVar 1) mNil)))))) mNext)
    (mRet (mVar 2))))
def m_leaf_row : MF := mFn 3 2 (mRet (mLc (mSrc (mVar 1)) (.one 2) [2] mYes (mMeth "NodeTable" "number_of" m_NodeTable_number_of (mVar 0) (mCons (mTup (mCons (mC (.str "leaf")) (mCons (mVar 2) mNil))) mNil))))
def m_NodeTable_item_number : MF := mFn 3 3 (mSeq (mIfS (mGB (mBin eqA (mVar 2) (mC (.int 1)))) (mRet (mVar 1)) mNext)
    (mRet (mMeth "NodeTable" "number_of" m_NodeTable_number_of (mVar 0) (mCons (mTup (mCons (mC (.str "run")) (mCons (mVar 1) (mCons (mVar 2) mNil)))) mNil))))
noncomputable def m_item_row : MF := mFn 4 2 (mRet (mCa tupleA (mCons (mLc (mSrc (mCall m_groups_of (mCons (mVar 1) mNil))) (.many [2, 3]) [2, 3] mYes (mMeth "NodeTable" "item_number" m_NodeTable_item_number (mVar 0) (mCons (mVar 2) (mCons (mVar 3) mNil)))) mNil)))
noncomputable def m_color_row : MF := mFn 3 2 (mRet (mCall m_colors_of_coins (mCons (mCall m_coins_of_codes (mCons (mLc (mSrc (mVar 1)) (.one 2) [2] mYes (mBin ixA (mFld "NodeTable" "codes" (mVar 0)) (mVar 2))) mNil)) mNil)))
section
variable {st : Store} {cls f : Str} {Q : A → Store → Prop} {ρ : ML.Env} {N B C : ML.Env → Store → Prop} {Rt : A → Store → Prop}
@[simp] theorem wp_fld {ma : MX} : (mFld cls f ma ρ st).wp Q ↔ (ma ρ st).wp fun x st1 => ∃ fs, insA cls x st1 = some fs ∧ ∃ v, fs.lookup f = some v ∧ Q v st1 := by
  unfold mFld
  rw [wp_bind]
  refine iff_of_eq (congrArg _ (funext fun x => funext fun st1 => propext ?_))
  cases insA cls x st1 with
  | none => simp
  | some fs =>
    simp only [Option.some.injEq, ex_eq]
    cases e : fs.lookup f with
    | none => simp only [reduceCtorEq, false_and, exists_false]; rfl
    | some v => simp only [Option.some.injEq, ex_eq]; rfl
@[simp] theorem sp_putf {mo ma : MX} : (mPutF cls f mo ma ρ st).wp N B C Rt ↔ (ma ρ st).wp fun v st1 => (mo ρ st1).wp fun x st2 => ∃ st3, setIA cls f v x st2 = some st3 ∧ N ρ st3 := by
  unfold mPutF
  rw [wp_toS]
  refine iff_of_eq (congrArg _ (funext fun v => funext fun st1 => propext ?_))
  rw [wp_toS]
  refine iff_of_eq (congrArg _ (funext fun x => funext fun st2 => propext ?_))
  cases setIA cls f v x st2 with
  | none => simp [SR.wp]
  | some st3 => simp [SR.wp]
@[simp] theorem wp_meth {mf : MF} {mo : MX} {ms : MA} : (mMeth cls f mf mo ms ρ st).wp Q ↔ (mo ρ st).wp fun x st1 => ∃ fs, insA cls x st1 = some fs ∧ fs.lookup f = none ∧ (ms ρ st1).wp fun vs st2 => (mf (x :: vs) st2).wp Q := by
  unfold mMeth
  rw [wp_bind]
  refine iff_of_eq (congrArg _ (funext fun x => funext fun st1 => propext ?_))
  cases insA cls x st1 with
  | none => simp
  | some fs =>
    simp only [Option.some.injEq, ex_eq]
    by_cases c : fs.lookup f = none
    · simp only [c, if_true, wp_bind, true_and]
    · simp only [c, if_false, false_and]
      rfl
@[simp] theorem wp_make {mf : MF} {ms : MA} : (mMake cls mf ms ρ st).wp Q ↔ (ms ρ st).wp fun vs st1 => (mf (.ref st1.length :: vs) (st1 ++ [.oth (.ins cls [])])).wp fun v st2 => v = .non ∧ Q (.ref st1.length) st2 := by
  unfold mMake
  rw [wp_bind]
  refine iff_of_eq (congrArg _ (funext fun vs => funext fun st1 => propext ?_))
  rw [wp_bind]
  refine iff_of_eq (congrArg _ (funext fun v => funext fun st2 => propext ?_))
  cases v <;> simp
end
open Classical
def codA (n : Nd) : A := .tup ((codeN n).map A.int)
def szA (n : Nd) : A := .int (szN n : Nat)
def tabFs (t : Nat) : List (Str × A) := [("numbers", .ref (t + 1)), ("entries", .ref (t + 2)), ("codes", .ref (t + 3)), ("sizes", .ref (t + 4))]
@[simp] theorem tab_num (t : Nat) : List.lookup ("numbers" : Str) (tabFs t) = some (.ref (t + 1)) := rfl
@[simp] theorem tab_ent (t : Nat) : List.lookup ("entries" : Str) (tabFs t) = some (.ref (t + 2)) := rfl
@[simp] theorem tab_cod (t : Nat) : List.lookup ("codes" : Str) (tabFs t) = some (.ref (t + 3)) := rfl
@[simp] theorem tab_siz (t : Nat) : List.lookup ("sizes" : Str) (tabFs t) = some (.ref (t + 4)) := rfl
@[simp] theorem tab_m1 (t : Nat) : List.lookup ("measure" : Str) (tabFs t) = none := rfl
@[simp] theorem tab_m2 (t : Nat) : List.lookup ("number_of" : Str) (tabFs t) = none := rfl
@[simp] theorem tab_m3 (t : Nat) : List.lookup ("item_number" : Str) (tabFs t) = none := rfl
@[simp] theorem tab_m4 (t : Nat) : List.lookup ("nodes_in" : Str) (tabFs t) = none := rfl
theorem insA_of {cls : Str} {t : Nat} {fs : List (Str × A)} {st : Store} (h : st[t]? = some (.oth (.ins cls fs))) : insA cls (.ref t) st = some fs := by
  unfold insA
  simp only [h, if_true]
structure Okt (n : Nd) : Prop where
  ok : okN n
  dp : dpN n ≤ 29
  sz : szN n ≤ 2000
def Ord (f : List Nd) : Prop := ∀ (i : Nat) (n : Nd), f[i]? = some n → ∀ c ∈ kids n, idx f c < i
theorem addN_ord {f : List Nd} {n : Nd} (h : Ord f) (hc : Clo f) (hk : ∀ c ∈ kids n, c ∈ f) : Ord (addN f n) := by
  unfold addN
  split
  · exact h
  · intro i m hi c hcm
    by_cases e : i < f.length
    · rw [List.getElem?_append_left e] at hi
      rw [idx_app (hc.2 m (List.mem_of_getElem? hi) c hcm)]
      exact h i m hi c hcm
    · rw [List.getElem?_append_right (by omega)] at hi
      have h0 : i - f.length = 0 := by
        have := (List.getElem?_eq_some_iff.mp hi).1
        simp at this
        omega
      rw [h0] at hi
      simp at hi
      subst hi
      rw [idx_app (hk c hcm)]
      have := idx_lt (hk c hcm)
      omega
structure Tab (f : List Nd) (t : Nat) (st : Store) : Prop where
  c : Clo f
  o : Ord f
  ok : ∀ m ∈ f, Okt m
  i : st[t]? = some (.oth (.ins "NodeTable" (tabFs t)))
  d : stD st (t + 1) = some (numF f)
  e : stL st (t + 2) = some (f.map (entA f))
  k : stL st (t + 3) = some (f.map codA)
  z : stL st (t + 4) = some (f.map szA)
structure FrT (t : Nat) (st st' : Store) : Prop where
  len : st.length ≤ st'.length
  get : ∀ i, i < st.length → (i ≤ t ∨ t + 4 < i) → st'[i]? = st[i]?
theorem FrT.refl (t : Nat) (st : Store) : FrT t st st := ⟨Nat.le_refl _, fun _ _ _ => rfl⟩
theorem FrT.trans {t : Nat} {s1 s2 s3 : Store} (h : FrT t s1 s2) (k : FrT t s2 s3) : FrT t s1 s3 := ⟨Nat.le_trans h.len k.len, fun i h1 h2 => by rw [k.get i (Nat.lt_of_lt_of_le h1 h.len) h2, h.get i h1 h2]⟩
theorem FrT.grown {t : Nat} {s1 s2 : Store} (g : Grown s1 s2) : FrT t s1 s2 := by
  obtain ⟨x, rfl⟩ := g
  exact ⟨by simp, fun i h _ => List.getElem?_append_left h⟩
theorem FrT.set {t r : Nat} {s : Store} {o : Ob} (h1 : t < r) (h2 : r ≤ t + 4) : FrT t s (s.set r o) := ⟨by simp, fun i _ h => List.getElem?_set_ne (by omega)⟩
theorem FrT.stL {t r : Nat} {s s' : Store} {xs : List A} (h : FrT t s s') (hr : r ≤ t ∨ t + 4 < r) (e : ML.stL s r = some xs) : ML.stL s' r = some xs := stL_of (by rw [h.get r (stL_lt e) hr]; exact stL_eq e)
theorem Tab.grown {f : List Nd} {t : Nat} {st st' : Store} (h : Tab f t st) (g : Grown st st') : Tab f t st' := ⟨h.c, h.o, h.ok, g.get h.i, Grown.stD g h.d, g.stL h.e, g.stL h.k, g.stL h.z⟩
theorem Tab.set {f : List Nd} {t r : Nat} {st : Store} {o : Ob} (h : Tab f t st) (hr : r < t ∨ t + 4 < r) : Tab f t (st.set r o) := ⟨h.c, h.o, h.ok, by rw [List.getElem?_set_ne (by omega)]; exact h.i, by rw [stD_set_ne (by omega)]; exact h.d, by rw [stL_set_ne' (by omega)]; exact h.e, by rw [stL_set_ne' (by omega)]; exact h.k, by rw [stL_set_ne' (by omega)]; exact h.z⟩
theorem Tab.fr {f : List Nd} {t : Nat} {st st' : Store} (h : Tab f t st) (k : ∀ i, i < st.length → t ≤ i → i ≤ t + 4 → st'[i]? = st[i]?) : Tab f t st' := by
  have hi := (List.getElem?_eq_some_iff.mp h.i).1
  have hd := stD_lt h.d
  have he := stL_lt h.e
  have hk := stL_lt h.k
  have hz := stL_lt h.z
  refine ⟨h.c, h.o, h.ok, by rw [k _ hi (by omega) (by omega)]; exact h.i, ?_, stL_of (by rw [k _ he (by omega) (by omega)]; exact stL_eq h.e), stL_of (by rw [k _ hk (by omega) (by omega)]; exact stL_eq h.k), stL_of (by rw [k _ hz (by omega) (by omega)]; exact stL_eq h.z)⟩
  have := h.d
  unfold ML.stD at this ⊢
  rw [k _ hd (by omega) (by omega)]
  exact this
theorem entA_app {f g : List Nd} {n : Nd} (h : ∀ c ∈ kids n, c ∈ f) : entA (f ++ g) n = entA f n := by
  cases n with
  | leaf e => rfl
  | run b t => simp only [entA, idx_app (h b (by simp [kids]))]
  | blk cs =>
    simp only [entA]
    congr 2
    simp only [List.cons.injEq, A.tup.injEq, and_true]
    exact List.map_congr_left fun c hc => by rw [idx_app (h c (by simpa [kids] using hc))]
theorem ents_app {f : List Nd} {n : Nd} (h : Clo f) (hk : ∀ c ∈ kids n, c ∈ f) : (f ++ [n]).map (entA (f ++ [n])) = f.map (entA f) ++ [entA f n] := by
  rw [List.map_append, List.map_singleton, entA_app hk]
  congr 1
  exact List.map_congr_left fun m hm => entA_app (h.2 m hm)
theorem at_idx {f : List Nd} {g : Nd → A} {b : Nd} (h : b ∈ f) : atI (f.map g) (idx f b : Nat) = some (g b) := by
  rw [atI_nn (by omega), Int.toNat_natCast, List.getElem?_map, idx_get h]
  rfl
theorem okt_len {n : Nd} (h : Okt n) : (codeN n).length ≤ 300000 := by
  have := codeN_len n h.ok
  have h1 := h.sz
  have h2 := h.dp
  have h3 : (45 + 3 * dpN n) * szN n ≤ 132 * 2000 := Nat.mul_le_mul (by omega) h1
  omega
theorem szNs_sumT : ∀ (cs : List Nd), (cs.map fun c => ((szN c : Nat) : Int)).sum = ((szNs cs : Nat) : Int)
  | [] => rfl
  | c :: cs => by
    simp only [List.map_cons, List.sum_cons, szNs, szNs_sumT cs]
    omega
theorem run_code_wp {t : Nat} {c : Nd} {st : Store} {Q : A → Store → Prop} (hl : (codeN c).length ≤ 1000000) (k : Q (codA (.run c t)) st) : (m_run_code [.int (t : Int), codA c] st).wp Q := by
  simp only [m_run_code, codA]
  simp
  refine digits_wp (n := t) (c := 2) (by decide) ?_
  simp [digs_len]
  refine ⟨by omega, ?_⟩
  simpa [codA, codeN] using k
theorem measure_wp {f : List Nd} {n : Nd} {t : Nat} {st : Store} {Q : A → Store → Prop} (hi : insA "NodeTable" (.ref t) st = some (tabFs t)) (hk : stL st (t + 3) = some (f.map codA)) (hz : stL st (t + 4) = some (f.map szA)) (ok : ∀ m ∈ f, Okt m) (hn : Okt n) (hkid : ∀ c ∈ kids n, c ∈ f) (hl : f.length ≤ 1000000)
    (k : ∀ st', FrT t st st' → st'[t + 1]? = st[t + 1]? → st'[t + 2]? = st[t + 2]? → stL st' (t + 3) = some (f.map codA ++ [codA n]) → stL st' (t + 4) = some (f.map szA ++ [szA n]) → Q .non st') : (m_NodeTable_measure [.ref t, entA f n] st).wp Q := by
  simp only [m_NodeTable_measure]
  rw [wp_fn]
  refine ⟨rfl, ?_⟩
  simp only [List.map_cons, List.map_nil, List.cons_append, List.nil_append, List.replicate, Nat.reduceSub]
  have hln := okt_len hn
  have hk3 := stL_lt hk
  have hz4 := stL_lt hz
  have h1 : t + 1 < st.length := by omega
  have h2 : t + 2 < st.length := by omega
  have hit : st[t]? = some (.oth (.ins "NodeTable" (tabFs t))) := insA_eq hi
  have fin : ∀ st1, Grown st st1 → Q .non ((st1.set (t + 3) (.lst (f.map codA ++ [codA n]))).set (t + 4) (.lst (f.map szA ++ [szA n]))) := fun st1 g => by
    refine k _ (((FrT.grown g).trans (FrT.set (by omega) (by omega))).trans (FrT.set (by omega) (by omega))) ?_ ?_ ?_ ?_
    · rw [List.getElem?_set_ne (by omega), List.getElem?_set_ne (by omega)]
      rw [List.getElem?_eq_getElem h1]
      exact g.get (List.getElem?_eq_getElem h1)
    · rw [List.getElem?_set_ne (by omega), List.getElem?_set_ne (by omega)]
      rw [List.getElem?_eq_getElem h2]
      exact g.get (List.getElem?_eq_getElem h2)
    · rw [stL_set_ne' (by omega), stL_set_self (g.stL hk)]
    · rw [stL_set_self (xs := f.map szA)]
      rw [stL_set_ne' (by omega)]
      exact g.stL hz
  have app2 : ∀ (st1 : Store) (sz : A), Grown st st1 → sz = szA n → (appendA (.ref (t + 4)) [sz] (st1.set (t + 3) (.lst (f.map codA ++ [codA n])))).wp fun _ st' => Q .non st' := fun st1 sz g e => by
    subst e
    rw [w_append]
    refine ⟨f.map szA, by rw [stL_set_ne' (by omega)]; exact g.stL hz, by rw [size_eq, List.length_map]; omega, fin st1 g⟩
  have ins1 : ∀ st1, Grown st st1 → insA "NodeTable" (.ref t) st1 = some (tabFs t) := fun st1 g => insA_of (g.get hit)
  have ins2 : ∀ (st1 : Store) (o : Ob), Grown st st1 → insA "NodeTable" (.ref t) (st1.set (t + 3) o) = some (tabFs t) := fun st1 o g => insA_of (by rw [List.getElem?_set_ne (by omega)]; exact g.get hit)
  cases n with
  | leaf e =>
    simp only [entA]
    have ho := hn.ok
    simp only [okN] at ho
    have i0 : atI [A.str "leaf", e] 0 = some (.str "leaf") := rfl
    have i1 : atI [A.str "leaf", e] 1 = some e := rfl
    simp only [sp_ifs, sp_seq, sp_expr, wp_gb, wp_bin, wp_bm, wp_fld, wp_call, wp_cons, wp_nil, wp_var, wp_c, List.getElem?_cons_succ, List.getElem?_cons_zero, Option.some.injEq, ex_eq, w_ixT, i0, i1, w_eqS, w_getB, decide_true, if_true, hi, tab_cod, isL_ref, hk, Option.isSome_some, true_and]
    refine code_wp 38 ho fun st1 g1 => ?_
    rw [w_append]
    refine ⟨_, g1.stL hk, by rw [size_eq, List.length_map]; omega, ?_⟩
    have e1 : A.tup ((elCode e).map A.int) = codA (.leaf e) := by simp only [codA, codeN]
    rw [e1]
    simp only [ins2 st1 _ g1, Option.some.injEq, ex_eq, tab_siz, isL_ref, stL_set_ne' (show t + 3 ≠ t + 4 by omega), g1.stL hz, Option.isSome_some, true_and]
    exact app2 st1 _ g1 (by simp only [szA, szN]; rfl)
  | run b tm =>
    simp only [entA]
    have hb : b ∈ f := hkid b (by simp [kids])
    have ho := hn.ok
    have hsz := hn.sz
    simp only [okN] at ho
    simp only [szN] at hsz
    have hbl := okt_len (ok b hb)
    have hbs := (ok b hb).sz
    have i0 : ∀ x y : A, atI [A.str "run", x, y] 0 = some (.str "run") := fun _ _ => rfl
    have i1 : ∀ x y : A, atI [A.str "run", x, y] 1 = some x := fun _ _ => rfl
    have i2 : ∀ x y : A, atI [A.str "run", x, y] 2 = some y := fun _ _ => rfl
    simp only [sp_ifs, sp_seq, sp_expr, wp_gb, wp_bin, wp_bm, wp_fld, wp_call, wp_cons, wp_nil, wp_var, wp_c, List.getElem?_cons_succ, List.getElem?_cons_zero, Option.some.injEq, ex_eq, w_ixT, w_ixL, i0, i1, i2, w_eqS, w_getB, run_leaf, decide_true, decide_false, Bool.false_eq_true, if_true, if_false, hi, tab_cod, isL_ref, hk, Option.isSome_some, true_and, at_idx hb]
    refine run_code_wp (by omega) ?_
    rw [w_append]
    refine ⟨_, hk, by rw [size_eq, List.length_map]; omega, ?_⟩
    simp only [ins2 st _ (.refl _), Option.some.injEq, ex_eq, tab_siz, isL_ref, stL_set_ne' (show t + 3 ≠ t + 4 by omega), hz, Option.isSome_some, true_and, at_idx hb]
    rw [w_ixL]
    refine ⟨f.map szA, by rw [stL_set_ne' (by omega)]; exact hz, szA b, at_idx hb, ?_⟩
    have e : szA b = .int (szN b : Nat) := rfl
    rw [e, w_mul]
    refine ⟨cmul_l (by omega) (by omega), app2 st _ (.refl _) ?_⟩
    simp only [szA, szN, Int.natCast_mul]
  | blk cs =>
    simp only [entA]
    have hb : ∀ c ∈ cs, c ∈ f := hkid
    have ho := hn.ok
    have hsz := hn.sz
    simp only [okN] at ho
    simp only [szN] at hsz
    simp only [codeN, List.length_cons] at hln
    have i0 : ∀ x : A, atI [A.str "block", x] 0 = some (.str "block") := fun _ => rfl
    have i1 : ∀ x : A, atI [A.str "block", x] 1 = some x := fun _ => rfl
    have grab : ∀ (g : Nd → A) (fld : Str) (off : Nat) (st1 : Store) (Q1 : A → Store → Prop), insA "NodeTable" (.ref t) st1 = some (tabFs t) → (tabFs t).lookup fld = some (.ref (t + off)) → stL st1 (t + off) = some (f.map g) ∨ stL st1 (t + off) = some (f.map g ++ [codA (.blk cs)]) → Q1 (.ref st1.length) (st1 ++ [.lst (cs.map g)]) →
        (mLc (mSrc (mBin ixA (mVar 1) (mC (.int 1)))) (.one 2) [2] mYes (mBin ixA (mFld "NodeTable" fld (mVar 0)) (mVar 2)) [some (.ref t), some (.tup [.str "block", .tup (cs.map fun c => .int (idx f c : Nat))]), none] st1).wp Q1 := by
      intro g fld off st1 Q1 hi1 hf1 hl1 k1
      simp only [wp_lc, wp_src, wp_bin, wp_var, wp_c, List.getElem?_cons_succ, List.getElem?_cons_zero, Option.some.injEq, ex_eq, w_ixT, i1, w_srcT, wipeA_cons, wipeA_nil, List.set_cons_succ, List.set_cons_zero]
      refine lc_vals (fun i st' acc => st' = st1 ∧ acc = (cs.take i).map g) ⟨rfl, by simp⟩ ?_ ?_
      · rintro i x st' acc hx ⟨rfl, rfl⟩
        refine ⟨_, rfl, ?_⟩
        rw [List.getElem?_map, Option.map_eq_some_iff] at hx
        obtain ⟨c, hc, rfl⟩ := hx
        have hcm := hb c (List.mem_of_getElem? hc)
        simp only [wp_yes, if_true, wp_bin, wp_fld, wp_var, List.set_cons_succ, List.set_cons_zero, List.getElem?_cons_succ, List.getElem?_cons_zero, Option.some.injEq, ex_eq, hi1, hf1]
        have hat : ∃ ys, stL st' (t + off) = some ys ∧ atI ys (idx f c : Nat) = some (g c) := by
          rcases hl1 with h | h
          · exact ⟨_, h, at_idx hcm⟩
          · refine ⟨_, h, ?_⟩
            rw [atI_nn (by omega), Int.toNat_natCast, List.getElem?_append_left (by rw [List.length_map]; exact idx_lt hcm), List.getElem?_map, idx_get hcm]
            rfl
        obtain ⟨ys, y1, y2⟩ := hat
        rw [w_ixL]
        refine ⟨ys, y1, _, y2, ?_, rfl, ?_⟩
        · rw [size_eq, List.length_map, List.length_take]
          omega
        · rw [List.take_add_one, hc]
          simp
      · rintro st' acc ⟨rfl, rfl⟩
        rw [List.length_map, List.take_length]
        exact k1
    generalize hL : @mLc = L at grab
    simp only [sp_ifs, sp_seq, sp_expr, wp_gb, wp_bin, wp_bm, wp_fld, wp_call, wp_cons, wp_nil, wp_var, wp_c, List.getElem?_cons_succ, List.getElem?_cons_zero, Option.some.injEq, ex_eq, w_ixT, i0, w_eqS, w_getB, block_leaf, block_run, decide_true, decide_false, Bool.false_eq_true, if_true, if_false, hi, tab_cod, isL_ref, hk, Option.isSome_some, true_and]
    refine grab codA "codes" 3 st _ hi (tab_cod t) (.inl hk) ?_
    refine block_code_wp (cs := cs) (by rw [stL_new]; rfl) (by omega) (by omega) fun st1 g1 => ?_
    have g2 := (Grown.one st (.lst (cs.map codA))).trans g1
    rw [w_append]
    refine ⟨_, g2.stL hk, by rw [size_eq, List.length_map]; omega, ?_⟩
    have e1 : A.tup ((codeN (.blk cs)).map A.int) = codA (.blk cs) := rfl
    rw [e1]
    simp only [ins2 st1 _ g2, Option.some.injEq, ex_eq, tab_siz, isL_ref, stL_set_ne' (show t + 3 ≠ t + 4 by omega), g2.stL hz, Option.isSome_some, true_and, wp_ca, wp_cons, wp_nil]
    refine grab szA "sizes" 4 _ _ (ins2 st1 _ g2) (tab_siz t) (.inl (by rw [stL_set_ne' (by omega)]; exact g2.stL hz)) ?_
    have hsum := szNs_sumT cs
    refine w_sumI (ns := cs.map fun c => ((szN c : Nat) : Int)) (by rw [stL_new, List.map_map]; rfl) ?_
    generalize hs1 : st1.set (t + 3) (.lst (f.map codA ++ [codA (.blk cs)])) = s1
    rw [w_append]
    have hs4 : stL s1 (t + 4) = some (f.map szA) := by rw [← hs1, stL_set_ne' (by omega)]; exact g2.stL hz
    refine ⟨_, Grown.stL (.one _ _) hs4, by rw [size_eq, List.length_map]; omega, ?_⟩
    have e2 : (s1 ++ [Ob.lst (cs.map szA)]).set (t + 4) (.lst (f.map szA ++ [.int (cs.map fun c => ((szN c : Nat) : Int)).sum])) = ((st1 ++ [Ob.lst (cs.map szA)]).set (t + 3) (.lst (f.map codA ++ [codA (.blk cs)]))).set (t + 4) (.lst (f.map szA ++ [szA (.blk cs)])) := by
      rw [← hs1]
      have hh : t + 3 < st1.length := stL_lt (g2.stL hk)
      rw [List.set_append_left _ _ hh]
      congr 3
      simp only [szA, szN]
      rw [← hsum]
    rw [e2]
    exact fin _ (g2.trans (.one _ _))
structure Hold (a b : Store) : Prop where
  len : a.length ≤ b.length
  get : ∀ i, i < a.length → b[i]? = a[i]?
theorem Hold.refl (a : Store) : Hold a a := ⟨Nat.le_refl _, fun _ _ => rfl⟩
theorem Hold.trans {a b c : Store} (h : Hold a b) (k : Hold b c) : Hold a c := ⟨Nat.le_trans h.len k.len, fun i hi => by rw [k.get i (Nat.lt_of_lt_of_le hi h.len), h.get i hi]⟩
theorem Hold.grown {a b : Store} (g : Grown a b) : Hold a b := by
  obtain ⟨x, rfl⟩ := g
  exact ⟨by simp, fun i h => List.getElem?_append_left h⟩
theorem Hold.set {a b : Store} {r : Nat} {o : Ob} (h : Hold a b) (hr : a.length ≤ r) : Hold a (b.set r o) := ⟨by rw [List.length_set]; exact h.len, fun i hi => by rw [List.getElem?_set_ne (by omega)]; exact h.get i hi⟩
theorem Hold.stL {a b : Store} {r : Nat} {xs : List A} (h : Hold a b) (e : ML.stL a r = some xs) : ML.stL b r = some xs := stL_of (by rw [h.get r (stL_lt e)]; exact stL_eq e)
theorem Hold.fr {a b : Store} (t : Nat) (h : Hold a b) : FrT t a b := ⟨h.len, fun i hi _ => h.get i hi⟩
theorem Hold.grow {a b c : Store} (h : Hold a b) (g : Grown b c) : Hold a c := h.trans (.grown g)
theorem Tab.hold {f : List Nd} {t : Nat} {a b : Store} (h : Tab f t a) (k : Hold a b) : Tab f t b := h.fr fun i hi _ _ => k.get i hi
theorem addN_okt {f : List Nd} {n : Nd} (h : ∀ m ∈ f, Okt m) (hn : Okt n) : ∀ m ∈ addN f n, Okt m := by
  unfold addN
  split
  · exact h
  · intro m hm
    rcases List.mem_append.mp hm with z | z
    · exact h m z
    · simp at z
      subst z
      exact hn
noncomputable def numA (f : List Nd) (n : Nd) : A := .int (idx f n : Nat)
theorem number_of_wp {f : List Nd} {n : Nd} {t : Nat} {st : Store} {Q : A → Store → Prop} (hT : Tab f t st) (hn : Okt n) (hkid : ∀ c ∈ kids n, c ∈ f) (hl : f.length < 1000000)
    (k : ∀ st', FrT t st st' → Tab (addN f n) t st' → Q (numA (addN f n) n) st') : (m_NodeTable_number_of [.ref t, entA f n] st).wp Q := by
  simp only [m_NodeTable_number_of]
  generalize hM : @m_NodeTable_measure = M
  rw [wp_fn]
  refine ⟨rfl, ?_⟩
  simp only [List.map_cons, List.map_nil, List.cons_append, List.nil_append, List.replicate, Nat.reduceSub]
  have okf : ∀ m ∈ f, okN m := fun m hm => (hT.ok m hm).ok
  have hi := insA_of hT.i
  have hat := at_num hT.c okf hn.ok hkid
  have hfit := fit_num okf hn.ok (f := f) (n := n)
  have hkey := key_ent (f := f) hn.ok
  refine seq_cut (fun ρ st' => st' = st ∧ ρ = [some (.ref t), some (entA f n), some ((if n ∈ f then some (A.int (idx f n : Nat)) else none).getD .non)]) ?_ ?_
  · simp only [sp_set, wp_dget1, wp_fld, wp_var, List.getElem?_cons_succ, List.getElem?_cons_zero, Option.some.injEq, ex_eq, hi, tab_num, isDA_ref hT.d, true_and, ask_eq hT.d hkey hfit, hat, List.set_cons_succ, List.set_cons_zero]
  rintro ρ st1 ⟨e1, rfl⟩
  subst e1
  by_cases hmem : n ∈ f
  · have ea : addN f n = f := by unfold addN; rw [if_pos hmem]
    rw [ea] at k
    simp only [if_pos hmem, Option.getD_some, sp_seq, sp_ifs, wp_gb, wp_bin, wp_var, wp_c, List.getElem?_cons_succ, List.getElem?_cons_zero, Option.some.injEq, ex_eq, w_isN, isNon_int, w_getB, Bool.false_eq_true, if_false, sp_next, sp_ret]
    exact k st1 (.refl _ _) hT
  · have ea : addN f n = f ++ [n] := by unfold addN; rw [if_neg hmem]
    rw [ea] at k
    have hel := List.length_map (f := entA f) (as := f)
    have hlt1 := stD_lt hT.d
    have hlt2 := stL_lt hT.e
    have hlt3 := stL_lt hT.k
    have hlt4 := stL_lt hT.z
    have hsz : (numF f).length < sizeLine := by
      unfold numF
      rw [numG_len, size_eq]
      omega
    generalize hs2 : st1.set (t + 1) (.oth (.dct (putD (numF f) (entK f n) (.int (f.length : Nat))))) = s2
    have hl2 : s2.length = st1.length := by rw [← hs2, List.length_set]
    have he2 : stL s2 (t + 2) = some (f.map (entA f)) := by rw [← hs2, stL_set_ne' (by omega)]; exact hT.e
    have hk2 : stL s2 (t + 3) = some (f.map codA) := by rw [← hs2, stL_set_ne' (by omega)]; exact hT.k
    have hz2 : stL s2 (t + 4) = some (f.map szA) := by rw [← hs2, stL_set_ne' (by omega)]; exact hT.z
    have hi2 : s2[t]? = some (.oth (.ins "NodeTable" (tabFs t))) := by rw [← hs2, List.getElem?_set_ne (by omega)]; exact hT.i
    generalize hs3 : s2.set (t + 2) (.lst (f.map (entA f) ++ [entA f n])) = s3
    have hi3 : s3[t]? = some (.oth (.ins "NodeTable" (tabFs t))) := by rw [← hs3, List.getElem?_set_ne (by omega)]; exact hi2
    have hk3 : stL s3 (t + 3) = some (f.map codA) := by rw [← hs3, stL_set_ne' (by omega)]; exact hk2
    have hz3 : stL s3 (t + 4) = some (f.map szA) := by rw [← hs3, stL_set_ne' (by omega)]; exact hz2
    have fr3 : FrT t st1 s3 := by
      rw [← hs3, ← hs2]
      exact (FrT.set (by omega) (by omega)).trans (FrT.set (by omega) (by omega))
    have hput : ∀ v, v = A.int (f.length : Nat) → putS (.ref (t + 1)) (entA f n) v st1 = some s2 := fun v e => by
      subst e
      rw [put_eq hT.d hkey hfit hsz, hs2]
    simp only [if_neg hmem, Option.getD_none, sp_seq, sp_ifs, wp_gb, wp_bin, wp_var, wp_c, List.getElem?_cons_succ, List.getElem?_cons_zero, Option.some.injEq, ex_eq, w_isN, isNon_non, w_getB, if_true, sp_set, wp_ca, wp_cons, wp_nil, wp_fld, hi, tab_ent, w_lenL, hT.e, List.length_map, List.set_cons_succ, List.set_cons_zero, sp_dput, tab_num, hput _ rfl, sp_expr, wp_bm, insA_of hi2, isL_ref, he2, Option.isSome_some, true_and, w_append]
    refine ⟨by rw [size_eq]; omega, ?_⟩
    rw [hs3]
    simp only [wp_meth, wp_var, wp_cons, wp_nil, List.getElem?_cons_succ, List.getElem?_cons_zero, Option.some.injEq, ex_eq, insA_of hi3, tab_m1, true_and, sp_ret]
    subst hM
    refine measure_wp (insA_of hi3) hk3 hz3 hT.ok hn hkid (by omega) fun st4 f4 g1 g2 c4 z4 => ?_
    have fr : FrT t st1 st4 := fr3.trans f4
    have ei : numA (f ++ [n]) n = .int (f.length : Nat) := by unfold numA; rw [idx_new hmem]
    rw [ei] at k
    refine k st4 fr ⟨?_, ?_, ?_, ?_, ?_, ?_, ?_, ?_⟩
    · have := addN_clo hT.c hkid
      rwa [ea] at this
    · have := addN_ord hT.o hT.c hkid
      rwa [ea] at this
    · have := addN_okt hT.ok hn
      rwa [ea] at this
    · rw [fr.get t (by omega) (by omega)]
      exact hT.i
    · rw [num_app hT.c hmem hkid]
      have : st4[t + 1]? = some (.oth (.dct (putD (numF f) (entK f n) (.int (f.length : Nat))))) := by
        rw [g1, ← hs3, List.getElem?_set_ne (by omega), ← hs2, List.getElem?_set_self hlt1]
      have hnone : atD (numF f) (entK f n) = none := by rw [hat, if_neg hmem]
      unfold ML.stD
      rw [this]
      unfold putD
      rw [hnone]
      rfl
    · rw [ents_app hT.c hkid]
      refine stL_of ?_
      rw [g2, ← hs3, List.getElem?_set_self (by omega)]
    · rw [List.map_append]
      exact c4
    · rw [List.map_append]
      exact z4
noncomputable def addL (f : List Nd) (ns : List Nd) : List Nd := ns.foldl addN f
theorem addL_snoc (f ns : List Nd) (n : Nd) : addL f (ns ++ [n]) = addN (addL f ns) n := by simp [addL]
theorem addL_pre : ∀ (ns : List Nd) (f : List Nd), ∃ g, addL f ns = f ++ g ∧ g.length ≤ ns.length
  | [], f => ⟨[], by simp [addL], by simp⟩
  | n :: ns, f => by
    obtain ⟨g, e1, _, e2⟩ := addN_pre f n
    obtain ⟨h, e3, e4⟩ := addL_pre ns (addN f n)
    refine ⟨g ++ h, ?_, by simp; omega⟩
    show addL (addN f n) ns = _
    rw [e3, e1, List.append_assoc]
theorem addL_mem : ∀ {ns : List Nd} {f : List Nd} {n : Nd}, n ∈ ns → n ∈ addL f ns
  | m :: ns, f, n, h => by
    show n ∈ addL (addN f m) ns
    rcases List.mem_cons.mp h with rfl | h
    · obtain ⟨_, _, e2, _⟩ := addN_pre f n
      obtain ⟨g, e, _⟩ := addL_pre ns (addN f n)
      rw [e]
      exact List.mem_append_left _ e2
    · exact addL_mem h
theorem addL_old {ns f : List Nd} {n : Nd} (h : n ∈ f) : n ∈ addL f ns := by
  obtain ⟨g, e, _⟩ := addL_pre ns f
  rw [e]
  exact List.mem_append_left _ h
theorem num_stay {f ns : List Nd} {n : Nd} (h : n ∈ f) : numA (addL f ns) n = numA f n := by
  obtain ⟨g, e, _⟩ := addL_pre ns f
  rw [e]
  unfold numA
  rw [idx_app h]
theorem num_stay1 {f : List Nd} {n m : Nd} (h : n ∈ f) : numA (addN f m) n = numA f n := num_stay (ns := [m]) h
theorem row_grow {f ns : List Nd} {i : Nat} {n : Nd} (h : ns[i]? = some n) : (ns.take i).map (numA (addL f (ns.take i))) ++ [numA (addN (addL f (ns.take i)) n) n] = (ns.take (i + 1)).map (numA (addL f (ns.take (i + 1)))) := by
  rw [List.take_add_one, h]
  simp only [Option.toList_some, addL_snoc, List.map_append, List.map_cons, List.map_nil]
  congr 1
  exact List.map_congr_left fun m hm => (num_stay1 (addL_mem hm)).symm
theorem addL_take_len {f ns : List Nd} {i : Nat} : (addL f (ns.take i)).length ≤ f.length + ns.length := by
  obtain ⟨g, e, h⟩ := addL_pre (ns.take i) f
  rw [e, List.length_append]
  have : (ns.take i).length ≤ ns.length := by rw [List.length_take]; omega
  omega
theorem leaf_row_wp {f : List Nd} {xs : List A} {t : Nat} {st : Store} {Q : A → Store → Prop} (hT : Tab f t st) (hx : ∀ x ∈ xs, El x) (hl : f.length + xs.length ≤ 900000)
    (k : ∀ st', FrT t st st' → Tab (addL f (xs.map .leaf)) t st' → Q (.ref st'.length) (st' ++ [.lst ((xs.map Nd.leaf).map (numA (addL f (xs.map .leaf))))])) : (m_leaf_row [.ref t, .tup xs] st).wp Q := by
  simp only [m_leaf_row]
  generalize hM : @m_NodeTable_number_of = M
  rw [wp_fn]
  refine ⟨rfl, ?_⟩
  simp only [List.map_cons, List.map_nil, List.cons_append, List.nil_append, List.replicate, Nat.reduceSub, sp_ret, wp_lc, wp_src, wp_var, List.getElem?_cons_succ, List.getElem?_cons_zero, Option.some.injEq, ex_eq, w_srcT, wipeA_cons, wipeA_nil, List.set_cons_succ, List.set_cons_zero]
  refine lc_vals (fun i st' acc => FrT t st st' ∧ Tab (addL f ((xs.map .leaf).take i)) t st' ∧ acc = ((xs.map Nd.leaf).take i).map (numA (addL f ((xs.map .leaf).take i)))) ⟨.refl _ _, by simpa [addL] using hT, by simp⟩ ?_ ?_
  · rintro i x st' acc hx' ⟨f', T', rfl⟩
    refine ⟨_, rfl, ?_⟩
    have hxe := hx x (List.mem_of_getElem? hx')
    have hi := (List.getElem?_eq_some_iff.mp hx').1
    have hn : (xs.map Nd.leaf)[i]? = some (.leaf x) := by rw [List.getElem?_map, hx']; rfl
    have hll := addL_take_len (f := f) (ns := xs.map Nd.leaf) (i := i)
    rw [List.length_map] at hll
    generalize hns : xs.map Nd.leaf = ns at *
    have hnl : ns.length = xs.length := by rw [← hns, List.length_map]
    simp only [wp_yes, if_true, wp_meth, wp_cons, wp_nil, wp_var, wp_tup, wp_c, List.set_cons_succ, List.set_cons_zero, List.getElem?_cons_succ, List.getElem?_cons_zero, Option.some.injEq, ex_eq, insA_of T'.i, tab_m2, true_and]
    refine ⟨by rw [size_eq]; simp, ?_⟩
    have ee : A.tup [.str "leaf", x] = entA (addL f (ns.take i)) (.leaf x) := rfl
    rw [ee]
    subst hM
    refine number_of_wp T' ⟨by simpa only [okN] using hxe, by simp only [dpN]; omega, by simp only [szN]; omega⟩ (by simp [kids]) (by omega) fun st2 f2 T2 => ?_
    refine ⟨by rw [size_eq, List.length_map, List.length_take]; omega, f'.trans f2, ?_, row_grow hn⟩
    rw [List.take_add_one, hn]
    simpa [addL] using T2
  · rintro st' acc ⟨f', T', rfl⟩
    have e : (xs.map Nd.leaf).take xs.length = xs.map Nd.leaf := List.take_of_length_le (by simp)
    rw [e] at T' ⊢
    exact k st' f' T'
noncomputable def grpT (f : List Nd) (g : Gp) : A := .tup [numA f g.1, .int (g.2 : Nat)]
def GpIT (f : List Nd) (gs : List Gp) (q : Nat) (st0 : Store) (r : Nat) (ρ : ML.Env) (st : Store) : Prop := ∃ (j : Nat) (v3 : Option A), j ≤ gs.length ∧ stL st r = some ((gs.take j).map (grpT f)) ∧ Hold st0 st ∧ ρ = [some (.ref q), some (.ref r), some (.int (posG gs j : Nat)), v3]
def GpJT (f : List Nd) (gs : List Gp) (q : Nat) (st0 : Store) (r j : Nat) (g : Gp) (ρ : ML.Env) (st : Store) : Prop := ∃ t : Nat, 1 ≤ t ∧ t ≤ g.2 ∧ stL st r = some ((gs.take j).map (grpT f)) ∧ Hold st0 st ∧ ρ = [some (.ref q), some (.ref r), some (.int (posG gs j : Nat)), some (.int ((posG gs j + t : Nat) : Int))]
theorem row_ixT {f xs : List Nd} {i : Nat} {c : Nd} {z : Int} (h : xs[i]? = some c) (e : z = (i : Nat)) : atI (xs.map (numA f)) z = some (numA f c) := by
  subst e
  rw [atI_nn (by omega), Int.toNat_natCast, List.getElem?_map, h]
  rfl
theorem groups_wpT {f : List Nd} {gs : List Gp} {q : Nat} {st : Store} {Q : A → Store → Prop} (h : ∀ g ∈ gs, g.1 ∈ f ∧ 1 ≤ g.2) (ap : ∀ (i : Nat) a b, gs[i]? = some a → gs[i + 1]? = some b → a.1 ≠ b.1) (hl : (expG gs).length ≤ 1000000) (hg : gs.length ≤ 100000) (hq : stL st q = some ((expG gs).map (numA f))) (k : ∀ r st', Hold st st' → st.length ≤ r → stL st' r = some (gs.map (grpT f)) → Q (.ref r) st') : (m_groups_of [.ref q] st).wp Q := by
  simp only [m_groups_of]
  rw [wp_fn]
  refine ⟨rfl, ?_⟩
  simp only [List.map_cons, List.map_nil, List.cons_append, List.nil_append, List.replicate]
  generalize hF : @mWhile = F
  refine seq_cut (fun ρ st' => st' = st ++ [.lst []] ∧ ρ = [some (.ref q), some (.ref st.length), none, none]) ?_ ?_
  · simp [sizeLine]
  rintro ρ st1 ⟨e1, rfl⟩
  refine seq_cut (GpIT f gs q st st.length) ?_ ?_
  · simp
    exact ⟨0, none, by omega, by rw [e1]; simp, by rw [e1]; exact .grown (.one _ _), by simp [posG, expG_nil]⟩
  intro ρ st2 h2
  have key : (F (mGB (mBin ltA (mVar 2) (mCa lenA (mCons (mVar 0) mNil)))) (mSeq (mSet 3 (mBin addA (mVar 2) (mC (.int 1))))
    (mSeq (F (mAnd (mGB (mBin ltA (mVar 3) (mCa lenA (mCons (mVar 0) mNil)))) (mGB (mBin eqA (mBin ixA (mVar 0) (mVar 3)) (mBin ixA (mVar 0) (mVar 2))))) (mAug 3 iaddA (mC (.int 1))))
    (mSeq (mExpr (mBm appendA (mVar 1) (mCons (mTup (mCons (mBin ixA (mVar 0) (mVar 2)) (mCons (mBin subA (mVar 3) (mVar 2)) mNil))) mNil)))
    (mSet 2 (mVar 3))))) ρ st2).wp (fun ρ st' => ∃ v2 v3 : Option A, stL st' st.length = some (gs.map (grpT f)) ∧ Hold st st' ∧ ρ = [some (.ref q), some (.ref st.length), v2, v3]) NoS NoS (fun _ _ => False) := by
    subst hF
    refine while_wp (GpIT f gs q st st.length) (muG (expG gs).length 2) ?_ h2
    rintro ρ st3 ⟨j, v3, hj, hr, ho, rfl⟩
    have hq3 := ho.stL hq
    simp only [wp_gb, wp_bin, wp_var, wp_ca, wp_cons, wp_nil, List.getElem?_cons_succ, List.getElem?_cons_zero, Option.some.injEq, ex_eq, w_lenL, hq3, List.length_map, w_lt, w_getB, decide_eq_true_eq]
    by_cases hjl : j < gs.length
    · have hgj : gs[j]? = some gs[j] := List.getElem?_eq_getElem hjl
      generalize gs[j] = g at hgj
      have hgm := h g (List.mem_of_getElem? hgj)
      have hps := posG_succ hgj
      have hple := posG_le gs (j + 1)
      rw [if_pos (by omega)]
      refine seq_cut (GpJT f gs q st st.length j g) ?_ ?_
      · simp
        exact ⟨1, by omega, hgm.2, hr, ho, by simp⟩
      intro ρ st4 h4
      refine seq_cut (fun ρ st' => stL st' st.length = some ((gs.take j).map (grpT f)) ∧ Hold st st' ∧ ρ = [some (.ref q), some (.ref st.length), some (.int (posG gs j : Nat)), some (.int ((posG gs j + g.2 : Nat) : Int))]) ?_ ?_
      · refine while_wp (GpJT f gs q st st.length j g) (muG (expG gs).length 3) ?_ h4
        rintro ρ st5 ⟨t, t1, t2, hr5, ho5, rfl⟩
        have hq5 := ho5.stL hq
        simp only [wp_and, wp_gb, wp_bin, wp_var, wp_ca, wp_cons, wp_nil, List.getElem?_cons_succ, List.getElem?_cons_zero, Option.some.injEq, ex_eq, w_lenL, hq5, List.length_map, w_lt, w_getB, decide_eq_true_eq]
        have h0 := row_ixT (f := f) (z := ((posG gs j : Nat) : Int)) (expG_get (t := 0) hgj (by omega)) (by simp)
        by_cases hin : ((posG gs j + t : Nat) : Int) < ((expG gs).length : Int)
        · rw [if_pos hin]
          have hin' : posG gs j + t < (expG gs).length := by omega
          by_cases htg : t < g.2
          · have h1 := row_ixT (f := f) (z := ((posG gs j + t : Nat) : Int)) (expG_get hgj htg) rfl
            simp only [w_ixL, hq5, h0, h1, Option.some.injEq, ex_eq]
            simp only [numA, w_eq, w_getB, decide_true, if_true]
            simp [iaddA, R.wp]
            refine ⟨⟨t + 1, by omega, by omega, hr5, ho5, by simp; omega⟩, ?_⟩
            simp only [muG, List.getElem?_cons_succ, List.getElem?_cons_zero]
            omega
          · have et : t = g.2 := by omega
            subst et
            have hj1 : j + 1 < gs.length := by
              rcases Nat.lt_or_ge (j + 1) gs.length with q | q
              · exact q
              · have e : posG gs (j + 1) = (expG gs).length := by
                  rw [← posG_all]
                  congr 1
                  omega
                omega
            have hg1 : gs[j + 1]? = some gs[j + 1] := List.getElem?_eq_getElem hj1
            generalize gs[j + 1] = g' at hg1
            have hgm' := h g' (List.mem_of_getElem? hg1)
            have h1 := row_ixT (f := f) (z := ((posG gs j + g.2 : Nat) : Int)) (expG_get (t := 0) hg1 (by omega)) (by simp [hps])
            have hne := ap j g g' hgj hg1
            simp only [w_ixL, hq5, h0, h1, Option.some.injEq, ex_eq]
            have hf : ¬ ((idx f g'.1 : Nat) : Int) = ((idx f g.1 : Nat) : Int) := fun z => hne (idx_inj hgm'.1 hgm.1 (Int.ofNat_inj.mp z)).symm
            simp only [numA, w_eq, w_getB, hf, decide_false, Bool.false_eq_true, if_false]
            exact ⟨hr5, ho5, trivial⟩
        · rw [if_neg hin]
          have et : t = g.2 := by omega
          subst et
          simp only [Bool.false_eq_true, if_false]
          exact ⟨hr5, ho5, trivial⟩
      rintro ρ st5 ⟨hr5, ho5, rfl⟩
      have hq5 := ho5.stL hq
      have h0 := row_ixT (f := f) (z := ((posG gs j : Nat) : Int)) (expG_get (t := 0) hgj (by omega)) (by simp)
      have hsz : j < 16777216 := by omega
      simp only [sp_seq, sp_expr, wp_bm, wp_var, wp_cons, wp_nil, wp_tup, wp_bin, sp_set, List.getElem?_cons_succ, List.getElem?_cons_zero, Option.some.injEq, ex_eq, isL_ref, hr5, Option.isSome_some, w_ixL, hq5, h0, w_sub, w_append, List.length_map, List.length_take, true_and, List.set_cons_succ, List.set_cons_zero]
      refine ⟨by simp [sizeLine], by simp [sizeLine]; omega, ⟨j + 1, some (.int ((posG gs j + g.2 : Nat) : Int)), by omega, ?_, ho5.set (Nat.le_refl _), ?_⟩, ?_⟩
      · rw [stL_set_self hr5, List.take_add_one, hgj]
        simp [grpT]
        omega
      · rw [hps]
      · simp only [muG, List.getElem?_cons_succ, List.getElem?_cons_zero]
        omega
    · have e : j = gs.length := by omega
      subst e
      rw [posG_all, if_neg (by omega)]
      rw [List.take_of_length_le (Nat.le_refl _)] at hr
      exact ⟨_, _, hr, ho, rfl⟩
  rw [sp_seq]
  refine key.imp ?_ (fun _ _ z => z.elim) (fun _ _ z => z.elim) (fun _ _ z => z.elim)
  rintro ρ st5 ⟨v2, v3, h5, ho, rfl⟩
  simp
  exact k _ _ ho (Nat.le_refl _) h5
theorem item_row_wp {f : List Nd} {gs : List Gp} {q t : Nat} {st : Store} {Q : A → Store → Prop} (hT : Tab f t st) (h : ∀ g ∈ gs, g.1 ∈ f ∧ 1 ≤ g.2 ∧ Okt (itmN g)) (ap : ∀ (i : Nat) a b, gs[i]? = some a → gs[i + 1]? = some b → a.1 ≠ b.1) (hl : (expG gs).length ≤ 1000000) (hg : gs.length ≤ 100000) (hfl : f.length + gs.length ≤ 900000) (hq : stL st q = some ((expG gs).map (numA f))) (hqt : t + 4 < q)
    (k : ∀ st', FrT t st st' → Tab (addL f (gs.map itmN)) t st' → Q (.tup ((gs.map itmN).map (numA (addL f (gs.map itmN))))) st') : (m_item_row [.ref t, .ref q] st).wp Q := by
  simp only [m_item_row]
  generalize hM : @m_NodeTable_item_number = M
  rw [wp_fn]
  refine ⟨rfl, ?_⟩
  simp only [List.map_cons, List.map_nil, List.cons_append, List.nil_append, List.replicate, Nat.reduceSub, sp_ret, wp_ca, wp_lc, wp_src, wp_call, wp_cons, wp_nil, wp_var, List.getElem?_cons_succ, List.getElem?_cons_zero, Option.some.injEq, ex_eq]
  refine groups_wpT (fun g hg => ⟨(h g hg).1, (h g hg).2.1⟩) ap hl hg hq fun r st1 ho hr1 h1 => ?_
  rw [w_srcL, h1]
  refine ⟨rfl, ?_⟩
  have hlt := stL_lt hq
  have T1 := hT.hold ho
  generalize hns : gs.map itmN = ns at *
  have hnl : ns.length = gs.length := by rw [← hns, List.length_map]
  simp only [wipeA_cons, wipeA_nil, List.set_cons_succ, List.set_cons_zero]
  refine lc_lst (fun i st' acc => FrT t st1 st' ∧ Tab (addL f (ns.take i)) t st' ∧ acc = (ns.take i).map (numA (addL f (ns.take i)))) h1 ⟨.refl _ _, by simpa [addL] using T1, by simp⟩ ?_ ?_ ?_
  · rintro i st' acc ⟨f', T', rfl⟩
    exact f'.stL (by omega) h1
  · rintro i x st' acc hx ⟨f', T', rfl⟩
    rw [List.getElem?_map] at hx
    obtain ⟨g, hg', rfl⟩ := Option.map_eq_some_iff.mp hx
    refine ⟨_, rfl, ?_⟩
    have hi := (List.getElem?_eq_some_iff.mp hg').1
    obtain ⟨m1, m2, m3⟩ := h g (List.mem_of_getElem? hg')
    have hn : ns[i]? = some (itmN g) := by rw [← hns, List.getElem?_map, hg']; rfl
    have hll := addL_take_len (f := f) (ns := ns) (i := i)
    have hrow := row_grow (f := f) hn
    have en : addL f (ns.take (i + 1)) = addN (addL f (ns.take i)) (itmN g) := by
      rw [List.take_add_one, hn]
      simp [addL]
    have mf : g.1 ∈ addL f (ns.take i) := addL_old m1
    have es : numA f g.1 = numA (addL f (ns.take i)) g.1 := (num_stay m1).symm
    have hsz : (List.map (numA (addL f (ns.take i))) (ns.take i)).length < sizeLine := by rw [size_eq, List.length_map, List.length_take]; omega
    generalize hF : addL f (ns.take i) = F at *
    subst hM
    simp only [grpT, setsA, wp_yes, if_true, wp_meth, wp_cons, wp_nil, wp_var, List.set_cons_succ, List.set_cons_zero, List.getElem?_cons_succ, List.getElem?_cons_zero, Option.some.injEq, ex_eq, insA_of T'.i, tab_m3, true_and, m_NodeTable_item_number]
    generalize hM2 : @m_NodeTable_number_of = M2
    rw [wp_fn]
    refine ⟨rfl, ?_⟩
    simp only [List.map_cons, List.map_nil, List.cons_append, List.nil_append, List.replicate, Nat.reduceSub, sp_seq, sp_ifs, wp_gb, wp_bin, wp_var, wp_c, List.getElem?_cons_succ, List.getElem?_cons_zero, Option.some.injEq, ex_eq, w_eq, w_getB, decide_eq_true_eq, sp_ret, sp_next]
    by_cases c : (g.2 : Int) = 1
    · have c' : g.2 = 1 := by omega
      have ei : itmN g = g.1 := by unfold itmN; rw [if_pos c']
      rw [if_pos c]
      rw [ei] at hrow en
      have ea : addN F g.1 = F := by unfold addN; rw [if_pos mf]
      rw [ea] at hrow en
      refine ⟨hsz, f', ?_, ?_⟩
      · rw [en]
        exact T'
      · rw [← hrow, es]
    · have c' : ¬ g.2 = 1 := by omega
      have ei : itmN g = .run g.1 g.2 := by unfold itmN; rw [if_neg c']
      rw [if_neg c]
      rw [ei] at hrow en m3
      simp only [wp_meth, wp_cons, wp_nil, wp_var, wp_tup, wp_c, List.getElem?_cons_succ, List.getElem?_cons_zero, Option.some.injEq, ex_eq, insA_of T'.i, tab_m2, true_and]
      refine ⟨by rw [size_eq]; simp, ?_⟩
      have ee : A.tup [.str "run", numA f g.1, .int (g.2 : Nat)] = entA F (.run g.1 g.2) := by rw [es]; rfl
      rw [ee]
      subst hM2
      refine number_of_wp T' m3 (by simpa [kids] using mf) (by omega) fun st2 f2 T2 => ?_
      refine ⟨hsz, f'.trans f2, ?_, ?_⟩
      · rw [en]
        exact T2
      · rw [← hrow]
  · rintro st' acc ⟨f', T', rfl⟩
    have e : ns.take (gs.map (grpT f)).length = ns := List.take_of_length_le (by simp [hnl])
    rw [e] at T' ⊢
    rw [w_tupL, stL_new]
    refine ⟨_, rfl, ?_⟩
    exact k _ ((ho.fr t).trans (f'.trans (.grown (.one _ _)))) (T'.grown (.one _ _))
def RoG (ns : List Nat) (st0 : Store) (q : Nat) (i : Nat) (ρ : ML.Env) (st : Store) : Prop := Hold st0 st ∧ st0.length ≤ q ∧ ∃ v2 v3, ρ = [some (.tup (natsA ns)), some (.ref q), v2, v3, none] ∧ stL st q = some (natsA ((roundL ns).take (i + 1)))
theorem one_round_wpG {ns : List Nat} (ha : Apart ns) (hl : ns.length ≤ 100000) {st : Store} {Q : A → Store → Prop} (k : ∀ st', Hold st st' → Q (.tup (natsA (roundL ns))) st') : (m_one_round [.tup (natsA ns)] st).wp Q := by
  simp only [m_one_round]
  simp
  refine lc_vals (fun i st' acc => st' = st ∧ acc = natsA ((ns.map (· % 2)).take i)) ⟨rfl, rfl⟩ ?_ ?_
  · rintro i x st' acc hx ⟨rfl, rfl⟩
    refine ⟨_, rfl, ?_⟩
    obtain ⟨hi, rfl⟩ := natsA_some hx
    simp at hi
    have e : ∀ n : Nat, Builtin.bitAnd (n : Int) 1 = ((n % 2 : Nat) : Int) := fun n => by
      have := Bits.bit_at (x := (n : Int)) 0
      simpa [Int.fdiv_eq_ediv_of_nonneg] using this
    have hi0 : i = 0 := by omega
    subst hi0
    simp only [wp_yes, if_true, wp_bin, wp_c, w_and, e]
    simp
    cases ns with
    | nil => simp at hi
    | cons x r => simp [e, natsA]
  · rintro st' acc ⟨rfl, rfl⟩
    have e0 : natsA ((ns.map (· % 2)).take (natsA (ns.take 1)).length) = natsA ((roundL ns).take 1) := by
      rw [round_take1]
      cases ns <;> simp
    rw [e0]
    try simp
    refine for_zipv (RoG ns st' st'.length) (by simp) ⟨.grown (.one _ _), Nat.le_refl _, none, none, rfl, stL_new⟩ ?_ ?_ _ (by simp [Src.size])
    · rintro i x y ρ st'' hx hy ⟨kp, kq, v2, v3, rfl, h⟩
      obtain ⟨h1, rfl⟩ := natsA_some hx
      obtain ⟨h2, rfl⟩ := natsA_some hy
      have hi : i + 1 < ns.length := by
        simp at h2
        omega
      have et : ns.tail.getD i 0 = ns.getD (i + 1) 0 := by
        cases ns <;> simp
      rw [et]
      refine ⟨_, rfl, ?_⟩
      simp only [setsA, sp_expr, wp_bm, wp_var, wp_cons, wp_call, wp_nil]
      simp [h, setsA, -List.getD_eq_getElem?_getD]
      refine mixN_wp (ha i hi) ?_
      have hr := round_len ns
      simp [h, -List.getD_eq_getElem?_getD]
      refine ⟨by omega, kp.set kq, kq, _, _, rfl, ?_⟩
      rw [stL_set_self h, round_take hi]
    · rintro ρ st'' ⟨kp, kq, v2, v3, rfl, h⟩
      have e1 : (roundL ns).take ((natsA ns.tail).length + 1) = roundL ns := by
        refine List.take_of_length_le ?_
        rw [round_len]
        simp
        omega
      rw [e1] at h
      simp [h]
      exact k _ kp
def CoG (ns : List Nat) (st0 : Store) (i : Nat) (ρ : ML.Env) (st : Store) : Prop := ∃ v : Option A, Hold st0 st ∧ ρ = [some (.tup (natsA ns)), some (.tup (natsA (rnd ns i))), v]
theorem colors_of_coins_wpG {ns : List Nat} {st : Store} {Q : A → Store → Prop} (ha : Apart ns) (hl : ns.length ≤ 10000) (k : ∀ st', Hold st st' → Q (.tup (natsA (rnd ns 4))) st') : (m_colors_of_coins [.tup (natsA ns)] st).wp Q := by
  simp only [m_colors_of_coins]
  rw [wp_fn]
  refine ⟨rfl, ?_⟩
  simp only [List.map_cons, List.map_nil, List.cons_append, List.nil_append, List.replicate]
  refine seq_cut (CoG ns st 0) ?_ ?_
  · simp
    exact ⟨none, .refl _, rfl⟩
  intro ρ st1 h1
  generalize hF : @mFor = F
  refine seq_cut (CoG ns st 4) ?_ ?_
  · subst hF
    simp only [sp_for, wp_rng, wp_cons, wp_nil, wp_c, w_rng1]
    refine ⟨by decide, ?_⟩
    refine for_rng (n := 4) (CoG ns st) h1 ?_ (fun _ _ h => h)
    rintro i ρ st2 hi ⟨v, hk, rfl⟩
    refine ⟨_, rfl, ?_⟩
    simp
    have hrl := rnd_len ns i
    refine one_round_wpG (rnd_apart ha i) (by omega) fun st3 g => ?_
    exact ⟨_, hk.trans g, rfl⟩
  subst hF
  rintro ρ st2 ⟨v, hk, rfl⟩
  simp
  exact k st2 hk
theorem color_row_wp {f xs : List Nd} {t : Nat} {st : Store} {Q : A → Store → Prop} (hT : Tab f t st) (hR : Row xs) (hm : ∀ n ∈ xs, n ∈ f) (hl : xs.length ≤ 10000) (k : ∀ st', Hold st st' → Q (.tup (natsA (colN xs))) st') : (m_color_row [.ref t, .tup (xs.map (numA f))] st).wp Q := by
  simp only [m_color_row]
  generalize hM : @m_coins_of_codes = M
  generalize hM2 : @m_colors_of_coins = M2
  rw [wp_fn]
  refine ⟨rfl, ?_⟩
  simp only [List.map_cons, List.map_nil, List.cons_append, List.nil_append, List.replicate, Nat.reduceSub, sp_ret, wp_lc, wp_src, wp_call, wp_cons, wp_nil, wp_var, List.getElem?_cons_succ, List.getElem?_cons_zero, Option.some.injEq, ex_eq, w_srcT, wipeA_cons, wipeA_nil, List.set_cons_succ, List.set_cons_zero]
  refine lc_vals (fun i st' acc => st' = st ∧ acc = (xs.take i).map codA) ⟨rfl, by simp⟩ ?_ ?_
  · rintro i x st' acc hx ⟨rfl, rfl⟩
    refine ⟨_, rfl, ?_⟩
    rw [List.getElem?_map, Option.map_eq_some_iff] at hx
    obtain ⟨c, hc, rfl⟩ := hx
    have hi := (List.getElem?_eq_some_iff.mp hc).1
    have hcm := hm c (List.mem_of_getElem? hc)
    have hat := at_idx (g := codA) hcm
    simp only [wp_yes, if_true, wp_bin, wp_fld, wp_var, List.set_cons_succ, List.set_cons_zero, List.getElem?_cons_succ, List.getElem?_cons_zero, Option.some.injEq, ex_eq, insA_of hT.i, tab_cod, numA, w_ixL, hT.k, hat]
    refine ⟨by rw [size_eq, List.length_map, List.length_take]; omega, trivial, ?_⟩
    rw [List.take_add_one, hc]
    simp
  · rintro st' acc ⟨rfl, rfl⟩
    rw [List.length_map, List.take_length]
    subst hM
    refine codes_wp hR hl (by rw [stL_new]; rfl) fun st2 g2 => ?_
    rw [coinsT_eq hR]
    subst hM2
    refine colors_of_coins_wpG (coinsT_apart hR) (by rw [coinsT_len]; exact hl) fun st3 h3 => ?_
    exact k st3 ((Hold.grown ((Grown.one _ _).trans g2)).trans h3)
end Law
namespace Law
open PySem L2 ML
noncomputable def m_grow : MF := mFn 8 2 (mSeq (mSet 2 (mLst mNil))
    (mSeq (mSet 3 (mCall m_leaf_row (mCons (mVar 0) (mCons (mVar 1) mNil))))
    (mSeq (mWhile (mTru (mVar 3)) (mSeq (mSet 4 (mCall m_item_row (mCons (mVar 0) (mCons (mVar 3) mNil))))
    (mSeq (mSet 5 (mCall m_color_row (mCons (mVar 0) (mCons (mVar 4) mNil))))
    (mSeq (mSet 6 (mCall m_starts_of (mCons (mVar 5) mNil)))
    (mSeq (mExpr (mBm appendA (mVar 2) (mCons (mTup (mCons (mVar 3) (mCons (mVar 4) (mCons (mVar 5) (mCons (mVar 6) mNil))))) mNil)))
    (mSeq (mSet 3 (mLst mNil))
    (mIfS (mGB (mBin gtA (mCa lenA (mCons (mVar 4) mNil)) (mC (.int 1)))) (mSet 3 (mLc (mSrc (mCall m_cut (mCons (mVar 4) (mCons (mVar 6) mNil)))) (.one 7) [7] mYes (mMeth "NodeTable" "number_of" m_NodeTable_number_of (mVar 0) (mCons (mTup (mCons (mC (.str "block")) (mCons (mVar 7) mNil))) mNil)))) mNext)))))))
    (mRet (mVar 2)))))
open Classical
noncomputable def grp : List Nd → List Gp
  | [] => []
  | n :: r => match grp r with
    | [] => [(n, 1)]
    | g :: gs => if g.1 = n then (n, g.2 + 1) :: gs else (n, 1) :: g :: gs
theorem grp_exp : ∀ ns : List Nd, expG (grp ns) = ns
  | [] => rfl
  | n :: r => by
    have ih := grp_exp r
    simp only [grp]
    cases e : grp r with
    | nil =>
      rw [e] at ih
      rw [expG_nil] at ih
      subst ih
      simp [expG]
    | cons g gs =>
      rw [e] at ih
      simp only
      split
      · rename_i h
        subst h
        simp only [expG, List.map_cons, List.flatten_cons] at ih ⊢
        rw [List.replicate_succ, List.cons_append, ih]
      · simp only [expG, List.map_cons, List.flatten_cons] at ih ⊢
        rw [← ih]
        simp
theorem grp_mem : ∀ {ns : List Nd} {g : Gp}, g ∈ grp ns → g.1 ∈ ns ∧ 1 ≤ g.2
  | [], g, h => by simp [grp] at h
  | n :: r, g, h => by
    simp only [grp] at h
    cases e : grp r with
    | nil =>
      rw [e] at h
      simp at h
      subst h
      exact ⟨by simp, by simp⟩
    | cons g0 gs =>
      rw [e] at h
      simp only at h
      have ih : ∀ g ∈ g0 :: gs, g.1 ∈ r ∧ 1 ≤ g.2 := fun g hg => grp_mem (by rw [e]; exact hg)
      split at h
      · rcases List.mem_cons.mp h with rfl | h
        · exact ⟨by simp, by simp⟩
        · have := ih g (by simp [h])
          exact ⟨by simp [this.1], this.2⟩
      · rcases List.mem_cons.mp h with rfl | h
        · exact ⟨by simp, by simp⟩
        · have := ih g h
          exact ⟨by simp [this.1], this.2⟩
theorem grp_ap : ∀ {ns : List Nd} (i : Nat) (a b : Gp), (grp ns)[i]? = some a → (grp ns)[i + 1]? = some b → a.1 ≠ b.1
  | [], i, a, b, h, _ => by simp [grp] at h
  | n :: r, i, a, b, h1, h2 => by
    have ih := @grp_ap r
    simp only [grp] at h1 h2
    cases e : grp r with
    | nil =>
      rw [e] at h2
      simp at h2
    | cons g0 gs =>
      rw [e] at h1 h2 ih
      simp only at h1 h2
      split at h1
      · rename_i c
        rw [if_pos c] at h2
        cases i with
        | zero =>
          simp only [List.getElem?_cons_zero, Option.some.injEq] at h1
          simp only [List.getElem?_cons_succ] at h2
          have := ih 0 g0 b (by simp) (by simpa using h2)
          rw [← h1]
          simp only
          rw [← c]
          exact this
        | succ i =>
          simp only [List.getElem?_cons_succ] at h1 h2
          exact ih (i + 1) a b (by simpa using h1) (by simpa using h2)
      · rename_i c
        rw [if_neg c] at h2
        cases i with
        | zero =>
          simp only [List.getElem?_cons_zero, Option.some.injEq] at h1
          simp only [List.getElem?_cons_succ, List.getElem?_cons_zero, Option.some.injEq] at h2
          rw [← h1, ← h2]
          exact fun z => c z.symm
        | succ i =>
          simp only [List.getElem?_cons_succ] at h1 h2
          exact ih i a b h1 h2
theorem grp_len : ∀ ns : List Nd, (grp ns).length ≤ ns.length
  | [] => by simp [grp]
  | n :: r => by
    have ih := grp_len r
    simp only [grp]
    cases e : grp r with
    | nil => simp
    | cons g gs =>
      rw [e] at ih
      simp only [List.length_cons] at ih
      simp only
      split <;> simp <;> omega
theorem grp_ne {ns : List Nd} (h : ns ≠ []) : grp ns ≠ [] := fun e => by
  have := grp_exp ns
  rw [e, expG_nil] at this
  exact h this.symm
theorem exp_len : ∀ gs : List Gp, (expG gs).length = (gs.map (·.2)).sum
  | [] => rfl
  | g :: gs => by
    have e : expG (g :: gs) = List.replicate g.2 g.1 ++ expG gs := by simp [expG]
    rw [e, List.length_append, exp_len gs]
    simp
theorem sum_mem : ∀ {l : List Nat} {n : Nat}, n ∈ l → n ≤ l.sum
  | m :: l, n, h => by
    simp only [List.sum_cons]
    rcases List.mem_cons.mp h with rfl | h
    · omega
    · have := sum_mem h
      omega
theorem grp_le {ns : List Nd} {g : Gp} (h : g ∈ grp ns) : g.2 ≤ ns.length := by
  have e := exp_len (grp ns)
  rw [grp_exp] at e
  rw [e]
  exact sum_mem (List.mem_map_of_mem (f := fun g : Gp => g.2) h)
theorem szNs_app : ∀ xs ys : List Nd, szNs (xs ++ ys) = szNs xs + szNs ys
  | [], ys => by simp [szNs]
  | x :: xs, ys => by
    simp only [List.cons_append, szNs, szNs_app xs ys]
    omega
theorem szNs_rep (n : Nd) : ∀ k : Nat, szNs (List.replicate k n) = szN n * k
  | 0 => by simp [szNs]
  | k + 1 => by
    rw [List.replicate_succ]
    simp only [szNs, szNs_rep n k]
    rw [Nat.mul_succ]
    omega
theorem szN_itm (g : Gp) : szN (itmN g) = szN g.1 * g.2 := by
  unfold itmN
  split
  · rename_i h
    rw [h, Nat.mul_one]
  · simp only [szN]
theorem szNs_itms : ∀ gs : List Gp, szNs (gs.map itmN) = szNs (expG gs)
  | [] => rfl
  | g :: gs => by
    have e : expG (g :: gs) = List.replicate g.2 g.1 ++ expG gs := by simp [expG]
    rw [e, szNs_app, szNs_rep, List.map_cons]
    simp only [szNs, szN_itm, szNs_itms gs]
theorem szNs_mem {ns : List Nd} {n : Nd} (h : n ∈ ns) : szN n ≤ szNs ns := by
  induction ns with
  | nil => simp at h
  | cons m r ih =>
    simp only [szNs]
    rcases List.mem_cons.mp h with rfl | h
    · omega
    · have := ih h
      omega
theorem szNs_blks : ∀ ps : List (List Nd), szNs (ps.map Nd.blk) = szNs ps.flatten
  | [] => rfl
  | p :: ps => by
    rw [List.map_cons, List.flatten_cons, szNs_app]
    simp only [szNs, szN, szNs_blks ps]
theorem cuts_flat {α : Type} {ss : List Nat} {xs : List α} (h0 : ss.getD 0 xs.length = 0) (hm : ∀ i, i < ss.length → ss.getD i 0 ≤ ss.getD (i + 1) xs.length) (he : ∀ i, i < ss.length → ss.getD i xs.length = ss.getD i 0) : ∀ i, i ≤ ss.length → ((cutsN ss xs).take i).flatten = xs.take (ss.getD i xs.length)
  | 0, _ => by rw [h0]; simp
  | i + 1, hi => by
    rw [cutsN_take (by omega), List.flatten_append, cuts_flat h0 hm he i (by omega), he i (by omega)]
    have := hm i (by omega)
    simp only [List.flatten_cons, List.flatten_nil, List.append_nil]
    calc xs.take (ss.getD i 0) ++ (xs.take (ss.getD (i + 1) xs.length)).drop (ss.getD i 0) = (xs.take (ss.getD (i + 1) xs.length)).take (ss.getD i 0) ++ (xs.take (ss.getD (i + 1) xs.length)).drop (ss.getD i 0) := by
          rw [List.take_take, Nat.min_eq_left this]
      _ = _ := List.take_append_drop _ _
noncomputable def prts (xs : List Nd) : List (List Nd) := cutsN (startsL (colsZ xs)) xs
theorem prts_flat {xs : List Nd} (h : Row xs) : (prts xs).flatten = xs := by
  have := cuts_flat (xs := xs) (ss := startsL (colsZ xs)) (starts_zero xs) (fun i hi => Nat.le_of_lt (parts_ok h hi).1) (fun i hi => (parts_ok h hi).2.2.2.2) _ (Nat.le_refl _)
  unfold prts
  rw [List.take_of_length_le (by rw [cutsN_len]; exact Nat.le_refl _)] at this
  rw [this, List.getD_eq_getElem?_getD, List.getElem?_eq_none (Nat.le_refl _)]
  simp
theorem prts_len {xs : List Nd} (h : Row xs) {p : List Nd} (hp : p ∈ prts xs) : min 2 xs.length ≤ p.length ∧ p.length ≤ 12 ∧ 1 ≤ p.length := by
  have hP : ∀ i, i < (startsL (colsZ xs)).length → _ := fun i hi => @parts_ok xs h i hi
  unfold prts at hp
  generalize startsL (colsZ xs) = ss at hp hP
  obtain ⟨i, hi⟩ := List.mem_iff_getElem?.mp hp
  have hi' : i < ss.length := by
    have := (List.getElem?_eq_some_iff.mp hi).1
    rwa [cutsN_len] at this
  rw [cutsN_get hi'] at hi
  obtain ⟨a1, a2, a3, a4, a5⟩ := hP i hi'
  have e := (Option.some.inj hi).symm
  rw [e, List.length_drop, List.length_take]
  omega
theorem flat_len {α : Type} (k : Nat) : ∀ {ps : List (List α)}, (∀ p ∈ ps, k ≤ p.length) → k * ps.length ≤ ps.flatten.length
  | [], _ => by simp
  | p :: ps, h => by
    have h1 := h p (by simp)
    have h2 := flat_len k (ps := ps) fun q hq => h q (by simp [hq])
    simp only [List.flatten_cons, List.length_append, List.length_cons, Nat.mul_succ]
    omega
theorem prts_half {xs : List Nd} (h : Row xs) (hl : 2 ≤ xs.length) : 2 * (prts xs).length ≤ xs.length := by
  have := flat_len 2 (ps := prts xs) fun p hp => by have := (prts_len h hp).1; omega
  rwa [prts_flat h] at this
noncomputable def itms (ns : List Nd) : List Nd := (grp ns).map itmN
noncomputable def upN (xs : List Nd) : List Nd := (prts xs).map Nd.blk
noncomputable def nxt (ns : List Nd) : List Nd := if 1 < (itms ns).length then upN (itms ns) else []
noncomputable def lv (ns : List Nd) : Nat → List Nd
  | 0 => ns
  | j + 1 => nxt (lv ns j)
structure LvOk (m j : Nat) (ns : List Nd) : Prop where
  ok : ∀ n ∈ ns, okN n ∧ isRun n = false ∧ dpN n ≤ 2 * j + 1
  sz : szNs ns ≤ m
  len : ns.length * 2 ^ j ≤ m
theorem szs_len : ∀ {ns : List Nd}, (∀ n ∈ ns, okN n) → ns.length ≤ szNs ns := fun {ns} h => szNs_pos ns ((okNs_iff ns).mpr h)
theorem LvOk.small {m j : Nat} {ns : List Nd} (h : LvOk m j ns) : ns.length ≤ m := Nat.le_trans (szs_len fun n hn => (h.ok n hn).1) h.sz
theorem LvOk.okt {m j : Nat} {ns : List Nd} (h : LvOk m j ns) (hm : m ≤ 2000) (hj : j ≤ 11) : ∀ n ∈ ns, Okt n := fun n hn => by
  obtain ⟨a, _, b⟩ := h.ok n hn
  have := szNs_mem hn
  exact ⟨a, by omega, by have := h.sz; omega⟩
theorem itms_len (ns : List Nd) : (itms ns).length ≤ ns.length := by
  unfold itms
  rw [List.length_map]
  exact grp_len ns
theorem sz_itms (ns : List Nd) : szNs (itms ns) = szNs ns := by
  unfold itms
  rw [szNs_itms, grp_exp]
theorem itm_base {m j : Nat} {ns : List Nd} (h : LvOk m j ns) (hm : m ≤ 2000) {g : Gp} (hg : g ∈ grp ns) : okN (itmN g) ∧ dpN (itmN g) ≤ 2 * j + 2 ∧ szN (itmN g) ≤ m := by
  obtain ⟨m1, m2⟩ := grp_mem hg
  obtain ⟨a1, a2, a3⟩ := h.ok _ m1
  have hs : szN (itmN g) ≤ m := by
    have : itmN g ∈ itms ns := List.mem_map_of_mem hg
    have := szNs_mem this
    rw [sz_itms] at this
    exact Nat.le_trans this h.sz
  have hl := grp_le hg
  have := h.small
  refine ⟨?_, ?_, hs⟩
  · unfold itmN
    split
    · exact a1
    · simp only [okN]
      exact ⟨a1, by omega, by omega⟩
  · unfold itmN
    split
    · omega
    · simp only [dpN]
      omega
theorem itm_inj {g g' : Gp} (h : isRun g.1 = false) (h' : isRun g'.1 = false) (e : itmN g = itmN g') : g.1 = g'.1 := by
  unfold itmN at e
  split at e <;> split at e
  · exact e
  · rw [e] at h
    simp [isRun] at h
  · rw [← e] at h'
    simp [isRun] at h'
  · injection e
theorem LvOk.row {m j : Nat} {ns : List Nd} (h : LvOk m j ns) (hm : m ≤ 2000) (hj : j ≤ 11) : Row (itms ns) := by
  refine ⟨fun c hc => ?_, fun i a b ha hb => ?_⟩
  · obtain ⟨g, hg, rfl⟩ := List.mem_map.mp hc
    obtain ⟨a1, a2, a3⟩ := itm_base h hm hg
    exact ⟨a1, by omega, by omega⟩
  · unfold itms at ha hb
    rw [List.getElem?_map, Option.map_eq_some_iff] at ha hb
    obtain ⟨g, hg, rfl⟩ := ha
    obtain ⟨g', hg', rfl⟩ := hb
    exact fun e => grp_ap i g g' hg hg' (itm_inj (h.ok _ (grp_mem (List.mem_of_getElem? hg)).1).2.1 (h.ok _ (grp_mem (List.mem_of_getElem? hg')).1).2.1 e)
theorem LvOk.itmsOkt {m j : Nat} {ns : List Nd} (h : LvOk m j ns) (hm : m ≤ 2000) (hj : j ≤ 11) : ∀ c ∈ itms ns, Okt c := fun c hc => by
  obtain ⟨g, hg, rfl⟩ := List.mem_map.mp hc
  obtain ⟨a1, a2, a3⟩ := itm_base h hm hg
  exact ⟨a1, by omega, by omega⟩
theorem LvOk.next {m j : Nat} {ns : List Nd} (h : LvOk m j ns) (hm : m ≤ 2000) (hj : j ≤ 11) : LvOk m (j + 1) (nxt ns) := by
  unfold nxt
  split
  · rename_i hl
    have hR := h.row hm hj
    refine ⟨fun n hn => ?_, ?_, ?_⟩
    · obtain ⟨p, hp, rfl⟩ := List.mem_map.mp hn
      obtain ⟨p1, p2, p3⟩ := prts_len hR hp
      have hsub : ∀ c ∈ p, c ∈ itms ns := fun c hc => by
        rw [← prts_flat hR]
        exact List.mem_flatten.mpr ⟨p, hp, hc⟩
      refine ⟨?_, rfl, ?_⟩
      · simp only [okN]
        refine ⟨p3, by omega, (okNs_iff p).mpr fun c hc => ?_⟩
        obtain ⟨g, hg, rfl⟩ := List.mem_map.mp (hsub c hc)
        exact (itm_base h hm hg).1
      · simp only [dpN]
        have : dpNs p ≤ 2 * j + 2 := dpNs_le fun c hc => by
          obtain ⟨g, hg, rfl⟩ := List.mem_map.mp (hsub c hc)
          exact (itm_base h hm hg).2.1
        omega
    · unfold upN
      rw [szNs_blks, prts_flat hR, sz_itms]
      exact h.sz
    · unfold upN
      rw [List.length_map]
      have h1 := prts_half hR (by omega)
      have h2 := itms_len ns
      have h3 := h.len
      have h4 : 2 * (prts (itms ns)).length * 2 ^ j ≤ ns.length * 2 ^ j := Nat.mul_le_mul_right _ (by omega)
      rw [Nat.pow_succ]
      calc (prts (itms ns)).length * (2 ^ j * 2) = 2 * (prts (itms ns)).length * 2 ^ j := by
            rw [Nat.mul_comm (2 ^ j) 2, ← Nat.mul_assoc, Nat.mul_comm (prts (itms ns)).length 2]
        _ ≤ _ := Nat.le_trans h4 h3
  · exact ⟨by simp, by simp [szNs], by simp⟩
theorem leaves_ok {xs : List A} (hx : ∀ x ∈ xs, El x) : LvOk xs.length 0 (xs.map .leaf) := by
  refine ⟨fun n hn => ?_, ?_, by simp⟩
  · obtain ⟨x, hx', rfl⟩ := List.mem_map.mp hn
    exact ⟨by simpa only [okN] using hx x hx', rfl, by simp only [dpN]; omega⟩
  · induction xs with
    | nil => simp [szNs]
    | cons x xs ih =>
      have := ih fun y hy => hx y (by simp [hy])
      simp only [List.map_cons, szNs, szN, List.length_cons]
      omega
theorem itms_nil : itms [] = [] := rfl
theorem nxt_nil : nxt [] = [] := by unfold nxt; rw [itms_nil]; simp
theorem few_levels {m j : Nat} {ns : List Nd} (h : LvOk m j ns) (hm : m ≤ 2000) (hn : ns ≠ []) : j ≤ 10 := by
  rcases Nat.lt_or_ge 10 j with q | q
  · exfalso
    have h1 : 1 ≤ ns.length := List.length_pos_iff.mpr hn
    have h2 := h.len
    have h3 : 2 ^ 11 ≤ 2 ^ j := Nat.pow_le_pow_right (by decide) q
    have h4 : 1 * 2 ^ j ≤ ns.length * 2 ^ j := Nat.mul_le_mul_right _ h1
    have : (2 : Nat) ^ 11 = 2048 := rfl
    omega
  · exact q
theorem lv_ok {xs : List A} (hx : ∀ x ∈ xs, El x) (hl : xs.length ≤ 2000) : ∀ j, LvOk xs.length j (lv (xs.map .leaf) j)
  | 0 => leaves_ok hx
  | j + 1 => by
    have ih := lv_ok hx hl j
    by_cases e : lv (xs.map .leaf) j = []
    · show LvOk _ _ (nxt (lv (xs.map .leaf) j))
      rw [e, nxt_nil]
      exact ⟨by simp, by simp [szNs], by simp⟩
    · have := few_levels ih hl e
      exact ih.next hl (by omega)
noncomputable def tabF (f0 ns : List Nd) : Nat → List Nd
  | 0 => addL f0 ns
  | j + 1 => addL (addL (tabF f0 ns j) (itms (lv ns j))) (lv ns (j + 1))
theorem tabF_succ (f0 ns : List Nd) (j : Nat) : ∃ g, tabF f0 ns (j + 1) = tabF f0 ns j ++ g := by
  obtain ⟨g1, e1, _⟩ := addL_pre (itms (lv ns j)) (tabF f0 ns j)
  obtain ⟨g2, e2, _⟩ := addL_pre (lv ns (j + 1)) (addL (tabF f0 ns j) (itms (lv ns j)))
  exact ⟨g1 ++ g2, by simp only [tabF]; rw [e2, e1, List.append_assoc]⟩
theorem tabF_add (f0 ns : List Nd) (j : Nat) : ∀ i, ∃ g, tabF f0 ns (j + i) = tabF f0 ns j ++ g
  | 0 => ⟨[], by simp⟩
  | i + 1 => by
    obtain ⟨g, e⟩ := tabF_add f0 ns j i
    obtain ⟨g2, e2⟩ := tabF_succ f0 ns (j + i)
    exact ⟨g ++ g2, by rw [← Nat.add_assoc, e2, e, List.append_assoc]⟩
theorem tabF_le {f0 ns : List Nd} {i j : Nat} (h : i ≤ j) : ∃ g, tabF f0 ns j = tabF f0 ns i ++ g := by
  have := tabF_add f0 ns i (j - i)
  rwa [show i + (j - i) = j by omega] at this
theorem lv_in0 {f0 ns : List Nd} : ∀ {j : Nat} {n : Nd}, n ∈ lv ns j → n ∈ tabF f0 ns j
  | 0, n, h => addL_mem h
  | j + 1, n, h => addL_mem h
theorem lv_in {f0 ns : List Nd} {i j : Nat} (h : i ≤ j) {n : Nd} (hn : n ∈ lv ns i) : n ∈ tabF f0 ns j := by
  obtain ⟨g, e⟩ := tabF_le (f0 := f0) (ns := ns) h
  rw [e]
  exact List.mem_append_left _ (lv_in0 hn)
theorem its_in {f0 ns : List Nd} {i j : Nat} (h : i < j) {n : Nd} (hn : n ∈ itms (lv ns i)) : n ∈ tabF f0 ns j := by
  obtain ⟨g, e⟩ := tabF_le (f0 := f0) (ns := ns) (show i + 1 ≤ j from h)
  rw [e]
  exact List.mem_append_left _ (addL_old (addL_mem hn))
theorem num_app' {f g : List Nd} {n : Nd} (h : n ∈ f) : numA (f ++ g) n = numA f n := by
  unfold numA
  rw [idx_app h]
theorem num_le {f0 ns : List Nd} {i j : Nat} (h : i ≤ j) {n : Nd} (hn : n ∈ tabF f0 ns i) : numA (tabF f0 ns j) n = numA (tabF f0 ns i) n := by
  obtain ⟨g, e⟩ := tabF_le (f0 := f0) (ns := ns) h
  rw [e, num_app' hn]
noncomputable def colS (xs : List Nd) : A := .tup (natsA (colN xs))
noncomputable def staS (xs : List Nd) : A := .tup (natsA (startsL (colsZ xs)))
noncomputable def LvA (f ns : List Nd) (r i : Nat) : A := .tup [.ref r, .tup ((itms (lv ns i)).map (numA f)), colS (itms (lv ns i)), staS (itms (lv ns i))]
theorem LvA_congr {f g ns : List Nd} {r i : Nat} (h : ∀ n ∈ itms (lv ns i), numA f n = numA g n) : LvA f ns r i = LvA g ns r i := by
  unfold LvA
  rw [List.map_congr_left h]
theorem tabF_len {f0 ns : List Nd} {m : Nat} (h : ∀ j, (lv ns j).length ≤ m) : ∀ j, (tabF f0 ns j).length ≤ f0.length + m + j * (2 * m)
  | 0 => by
    obtain ⟨g, e, hg⟩ := addL_pre ns f0
    have := h 0
    simp only [lv] at this
    simp only [tabF]
    rw [e, List.length_append]
    omega
  | j + 1 => by
    obtain ⟨g1, e1, h1⟩ := addL_pre (itms (lv ns j)) (tabF f0 ns j)
    obtain ⟨g2, e2, h2⟩ := addL_pre (lv ns (j + 1)) (addL (tabF f0 ns j) (itms (lv ns j)))
    have := tabF_len h (f0 := f0) j
    have h3 := h (j + 1)
    have h4 := itms_len (lv ns j)
    have h5 := h j
    simp only [tabF]
    rw [e2, e1, List.length_append, List.length_append, Nat.add_mul]
    omega
theorem FrT.setNew {t r : Nat} {a b : Store} {o : Ob} (h : FrT t a b) (hr : a.length ≤ r) : FrT t a (b.set r o) := ⟨by rw [List.length_set]; exact h.len, fun i hi hi2 => by rw [List.getElem?_set_ne (by omega)]; exact h.get i hi hi2⟩
theorem cutsN_map {α β : Type} (g : α → β) (ss : List Nat) (xs : List α) : cutsN ss (xs.map g) = (cutsN ss xs).map fun p => p.map g := by
  unfold cutsN
  rw [List.map_map]
  refine List.map_congr_left fun i _ => ?_
  simp only [Function.comp, List.length_map, List.map_drop, List.map_take]
theorem cut_wpG {as : List A} {ss : List Nat} {st : Store} {Q : A → Store → Prop} (hl : ss.length ≤ 100000) (k : Q (.ref st.length) (st ++ [.lst ((cutsN ss as).map A.tup)])) : (m_cut [.tup as, .tup (natsA ss)] st).wp Q := by
  simp only [m_cut]
  rw [wp_fn]
  refine ⟨rfl, ?_⟩
  simp only [List.map_cons, List.map_nil, List.cons_append, List.nil_append, List.replicate]
  refine seq_cut (fun ρ st1 => st1 = st ∧ ρ = [some (.tup as), some (.tup (natsA ss)), some (.tup (natsA (ss.drop 1 ++ [as.length]))), none, none]) ?_ ?_
  · simp [sizeLine]
    omega
  rintro ρ st1 ⟨rfl, rfl⟩
  by_cases h0 : ss = []
  · subst h0
    simp only [sp_ret, wp_lc, wp_zip, wp_cons, wp_nil, wp_var, List.getElem?_cons_succ, List.getElem?_cons_zero, Option.some.injEq, ex_eq, w_zipT]
    simp [natsA, Src.size, loopC, Src.at]
    simpa [cutsN] using k
  have hp := List.length_pos_iff.mpr h0
  simp only [sp_ret, wp_lc, wp_zip, wp_cons, wp_nil, wp_var, List.getElem?_cons_succ, List.getElem?_cons_zero, Option.some.injEq, ex_eq, w_zipT]
  refine lc_zipv (fun i st' acc => st' = st1 ∧ acc = ((cutsN ss as).take i).map A.tup) (by simp; omega) ⟨rfl, rfl⟩ ?_ ?_
  · rintro i x y st' acc hx hy ⟨rfl, rfl⟩
    obtain ⟨h1, rfl⟩ := natsA_some hx
    obtain ⟨h2, rfl⟩ := natsA_some hy
    refine ⟨_, rfl, ?_⟩
    have e1 : (ss.drop 1 ++ [as.length]).getD i 0 = ss.getD (i + 1) as.length := by
      simp only [List.getD_eq_getElem?_getD]
      by_cases c : i + 1 < ss.length
      · rw [List.getElem?_append_left (by simp; omega), List.getElem?_drop, Nat.add_comm 1 i, List.getElem?_eq_getElem c]
        rfl
      · have e : i = (ss.drop 1).length := by simp; omega
        rw [List.getElem?_append_right (by omega), List.getElem?_eq_none (l := ss) (by omega), e]
        simp
    rw [e1]
    simp only [wp_yes, if_true, wp_sl, wp_var, wp_part, wipeA_cons, wipeA_nil, setsA, List.set_cons_succ, List.set_cons_zero, List.getElem?_cons_succ, List.getElem?_cons_zero, Option.some.injEq, ex_eq, w_getI, w_slT]
    rw [cut_mid (by omega) (by omega), Int.toNat_natCast, Int.toNat_natCast, cutsN_take h1]
    refine ⟨by simp [sizeLine]; omega, trivial, by simp⟩
  · rintro st' acc ⟨rfl, rfl⟩
    rw [List.take_of_length_le (by rw [cutsN_len]; simp)]
    exact k
theorem cut_prts {xs f : List Nd} {st6 : Store} {Q1 : A → Store → Prop} (hl : xs.length ≤ 5000) (h : Q1 (.ref st6.length) (st6 ++ [.lst ((prts xs).map fun p => A.tup (p.map (numA f)))])) : (m_cut [A.tup (xs.map (numA f)), staS xs] st6).wp Q1 := by
  have hss : (startsL (colsZ xs)).length ≤ 100000 := by
    have := starts_few xs
    omega
  unfold staS
  unfold prts at h
  generalize startsL (colsZ xs) = ss at *
  refine cut_wpG hss ?_
  rw [cutsN_map, List.map_map]
  exact h
theorem blk_row_wp {f xs : List Nd} {t r : Nat} {ρ0 : ML.Env} {st : Store} {QL : List A → Store → Prop} (hT : Tab f t st) (hR : Row xs) (hm : ∀ n ∈ xs, n ∈ f) (hok : ∀ p ∈ prts xs, Okt (.blk p)) (hl : f.length + xs.length ≤ 900000) (hr : stL st r = some ((prts xs).map fun p => A.tup (p.map (numA f)))) (hrt : t + 4 < r) (h0 : ρ0[0]? = some (some (.ref t))) (h7 : 7 < ρ0.length)
    (k : ∀ st', FrT t st st' → Tab (addL f (upN xs)) t st' → QL ((upN xs).map (numA (addL f (upN xs)))) st') :
    (loopC (.lst r) (.one 7) [7] mYes (mMeth "NodeTable" "number_of" m_NodeTable_number_of (mVar 0) (mCons (mTup (mCons (mC (.str "block")) (mCons (mVar 7) mNil))) mNil)) (wipeA ρ0 [7]) ((Src.lst r).size st + 1) 0 st []).wp QL := by
  generalize hM : @m_NodeTable_number_of = M
  have hlt := stL_lt hr
  refine lc_lst (fun i st' acc => FrT t st st' ∧ Tab (addL f ((upN xs).take i)) t st' ∧ acc = ((upN xs).take i).map (numA (addL f ((upN xs).take i)))) hr ⟨.refl _ _, by simpa [addL] using hT, by simp⟩ ?_ ?_ ?_
  · rintro i st' acc ⟨f', T', rfl⟩
    exact f'.stL (by omega) hr
  · rintro i x st' acc hx ⟨f', T', rfl⟩
    refine ⟨_, rfl, ?_⟩
    rw [List.getElem?_map] at hx
    obtain ⟨p, hp, rfl⟩ := Option.map_eq_some_iff.mp hx
    have hi := (List.getElem?_eq_some_iff.mp hp).1
    have hpm := List.mem_of_getElem? hp
    have hn : (upN xs)[i]? = some (.blk p) := by unfold upN; rw [List.getElem?_map, hp]; rfl
    have hll := addL_take_len (f := f) (ns := upN xs) (i := i)
    have hul : (upN xs).length = (prts xs).length := by unfold upN; rw [List.length_map]
    have hpl : (prts xs).length ≤ xs.length := by
      have := flat_len 1 (ps := prts xs) fun p hp => (prts_len hR hp).2.2
      rw [prts_flat hR] at this
      omega
    have hrow := row_grow (f := f) hn
    have en : addL f ((upN xs).take (i + 1)) = addN (addL f ((upN xs).take i)) (.blk p) := by
      rw [List.take_add_one, hn]
      simp [addL]
    have hkm : ∀ c ∈ p, c ∈ f := fun c hc => hm c (by rw [← prts_flat hR]; exact List.mem_flatten.mpr ⟨p, hpm, hc⟩)
    have hsz : (List.map (numA (addL f ((upN xs).take i))) ((upN xs).take i)).length < sizeLine := by rw [size_eq, List.length_map, List.length_take]; omega
    have hkF : ∀ c ∈ p, c ∈ addL f ((upN xs).take i) := fun c hc => addL_old (hkm c hc)
    have e2 : p.map (numA f) = p.map (numA (addL f ((upN xs).take i))) := List.map_congr_left fun c hc => (num_stay (hkm c hc)).symm
    generalize hF : addL f ((upN xs).take i) = F at *
    generalize hF2 : addL f ((upN xs).take (i + 1)) = F2 at *
    generalize hU : upN xs = us at *
    have ee : A.tup [.str "block", .tup (p.map (numA f))] = entA F (.blk p) := by
      rw [e2]
      rfl
    generalize A.tup (p.map (numA f)) = vp at *
    have h0' : ((ρ0.set 7 none).set 7 (some vp))[0]? = some (some (.ref t)) := by
      rw [List.getElem?_set_ne (by decide), List.getElem?_set_ne (by decide)]
      exact h0
    have h7' : ((ρ0.set 7 none).set 7 (some vp))[7]? = some (some vp) := by
      rw [List.getElem?_set_self (by simpa using h7)]
    simp only [wipeA_cons, wipeA_nil, wp_yes, if_true, wp_meth, wp_cons, wp_nil, wp_var, wp_tup, wp_c, h0', h7', Option.some.injEq, ex_eq, insA_of T'.i, tab_m2, true_and]
    refine ⟨by rw [size_eq]; simp, ?_⟩
    rw [ee]
    subst hM
    have hOk : Okt (.blk p) := hok p hpm
    have hK : ∀ c ∈ kids (.blk p), c ∈ F := hkF
    have hfl : F.length < 1000000 := by omega
    refine number_of_wp (n := .blk p) T' hOk hK hfl fun st2 f2 T2 => ?_
    refine ⟨hsz, f'.trans f2, ?_, ?_⟩
    · rw [en]
      exact T2
    · rw [← hrow]
  · intro st' acc hI
    have e : (upN xs).take ((prts xs).map fun p => A.tup (p.map (numA f))).length = upN xs := List.take_of_length_le (by simp [upN])
    rw [e] at hI
    obtain ⟨f', T', ea⟩ := hI
    rw [ea]
    exact k st' f' T'
def muL (i : Nat) (ρ : ML.Env) (st : Store) : Nat := match ρ[i]? with
  | some (some (.ref r)) => ((stL st r).getD []).length
  | _ => 0
structure GrSt (f0 ns : List Nd) (t q : Nat) (st0 : Store) (j : Nat) (rs : List Nat) (r : Nat) (st : Store) : Prop where
  fr : FrT t st0 st
  tb : Tab (tabF f0 ns j) t st
  ne : ∀ i, i < j → lv ns i ≠ []
  ql : st0.length ≤ q
  hq : stL st q = some ((List.range j).map fun i => LvA (tabF f0 ns j) ns (rs.getD i 0) i)
  rl : rs.length = j
  hrs : ∀ i, i < j → st0.length ≤ rs.getD i 0 ∧ rs.getD i 0 ≠ q ∧ stL st (rs.getD i 0) = some ((lv ns i).map (numA (tabF f0 ns j)))
  r0 : st0.length ≤ r
  rq : r ≠ q
  hr : stL st r = some ((lv ns j).map (numA (tabF f0 ns j)))
def GwI (f0 ns : List Nd) (xs : List A) (t q : Nat) (st0 : Store) (ρ : ML.Env) (st : Store) : Prop := ∃ (j : Nat) (rs : List Nat) (r : Nat) (v4 v5 v6 : Option A), GrSt f0 ns t q st0 j rs r st ∧ ρ = [some (.ref t), some (.tup xs), some (.ref q), some (.ref r), v4, v5, v6, none]
theorem grow_wp {f0 : List Nd} {xs : List A} {t : Nat} {st : Store} {Q : A → Store → Prop} (hT : Tab f0 t st) (hx : ∀ x ∈ xs, El x) (hl : xs.length ≤ 2000) (hf : f0.length ≤ 500000)
    (k : ∀ q rs r j st', GrSt f0 (xs.map .leaf) t q st j rs r st' → lv (xs.map .leaf) j = [] → Q (.ref q) st') : (m_grow [.ref t, .tup xs] st).wp Q := by
  simp only [m_grow]
  have hlv := lv_ok hx hl
  have h4 := stL_lt hT.z
  generalize hW : @mWhile = W
  have CP := @cut_prts
  generalize hC : @m_cut = C at CP ⊢
  generalize hI : @m_item_row = I
  generalize hK : @m_color_row = K
  generalize hS : @m_starts_of = S
  generalize hN : @m_NodeTable_number_of = N
  rw [wp_fn]
  refine ⟨rfl, ?_⟩
  simp only [List.map_cons, List.map_nil, List.cons_append, List.nil_append, List.replicate, Nat.reduceSub]
  refine seq_cut (fun ρ st' => st' = st ++ [.lst []] ∧ ρ = [some (.ref t), some (.tup xs), some (.ref st.length), none, none, none, none, none]) ?_ ?_
  · simp [sizeLine]
  rintro ρ st1 ⟨rfl, rfl⟩
  have T1 := hT.grown (.one st (.lst []))
  refine seq_cut (GwI f0 (xs.map .leaf) xs t st.length st) ?_ ?_
  · simp only [sp_set, wp_call, wp_cons, wp_nil, wp_var, List.getElem?_cons_succ, List.getElem?_cons_zero, Option.some.injEq, ex_eq, List.set_cons_succ, List.set_cons_zero]
    refine leaf_row_wp T1 hx (by omega) fun st2 f2 T2 => ?_
    have hq : stL (st ++ [Ob.lst []]) st.length = some [] := stL_new
    have hlt := stL_lt hq
    have hq2 := f2.stL (by omega) hq
    have hlen := f2.len
    have hlt2 := stL_lt hq2
    refine ⟨0, [], st2.length, none, none, none, ⟨((FrT.grown (.one _ _)).trans f2).trans (.grown (.one _ _)), T2.grown (.one _ _), by simp, Nat.le_refl _, Grown.stL (.one _ _) hq2, rfl, by simp, ?_, by omega, stL_new⟩, rfl⟩
    omega
  rintro ρ st2 h2
  refine seq_cut (fun ρ st3 => ∃ (j : Nat) (rs : List Nat) (r : Nat) (v4 v5 v6 : Option A), GrSt f0 (xs.map .leaf) t st.length st j rs r st3 ∧ lv (xs.map .leaf) j = [] ∧ ρ = [some (.ref t), some (.tup xs), some (.ref st.length), some (.ref r), v4, v5, v6, none]) ?_ ?_
  · subst hW
    refine while_wp (GwI f0 (xs.map .leaf) xs t st.length st) (muL 3) ?_ h2
    rintro ρ st3 ⟨j, rs, r, v4, v5, v6, G, rfl⟩
    generalize hns : xs.map Nd.leaf = ns at *
    have hjk := hlv j
    simp only [wp_tru, wp_var, List.getElem?_cons_succ, List.getElem?_cons_zero, Option.some.injEq, ex_eq, w_truL, G.hr, List.isEmpty_map]
    by_cases hne : lv ns j = []
    · rw [hne]
      simp only [List.isEmpty_nil, Bool.not_true, Bool.false_eq_true, if_false]
      exact ⟨j, rs, r, v4, v5, v6, G, hne, rfl⟩
    have hem : (lv ns j).isEmpty = false := by cases h : lv ns j <;> simp_all
    rw [hem]
    simp only [Bool.not_false, if_true]
    have hj := few_levels hjk hl hne
    have hR := hjk.row hl (by omega)
    have hsm := hjk.small
    have hil := itms_len (lv ns j)
    have htl := tabF_len (f0 := f0) (ns := ns) (m := xs.length) (fun j => (hlv j).small) j
    have htl1 := tabF_len (f0 := f0) (ns := ns) (m := xs.length) (fun j => (hlv j).small) (j + 1)
    have b1 : j * (2 * xs.length) ≤ 10 * 4000 := Nat.mul_le_mul hj (by omega)
    have b2 : (j + 1) * (2 * xs.length) ≤ 11 * 4000 := Nat.mul_le_mul (by omega) (by omega)
    have hokI := hjk.itmsOkt hl (by omega)
    have hrn : t + 4 < r := by have := G.r0; omega
    have mu0 : muL 3 [some (A.ref t), some (.tup xs), some (.ref st.length), some (.ref r), v4, v5, v6, none] st3 = (lv ns j).length := by
      simp only [muL, List.getElem?_cons_succ, List.getElem?_cons_zero, G.hr, Option.getD_some, List.length_map]
    rw [mu0]
    have hpos : 1 ≤ (lv ns j).length := List.length_pos_iff.mpr hne
    -- items
    refine seq_cut (fun ρ st4 => FrT t st3 st4 ∧ Tab (addL (tabF f0 ns j) (itms (lv ns j))) t st4 ∧ ρ = [some (.ref t), some (.tup xs), some (.ref st.length), some (.ref r), some (.tup ((itms (lv ns j)).map (numA (addL (tabF f0 ns j) (itms (lv ns j)))))), v5, v6, none]) ?_ ?_
    · simp only [sp_set, wp_call, wp_cons, wp_nil, wp_var, List.getElem?_cons_succ, List.getElem?_cons_zero, Option.some.injEq, ex_eq, List.set_cons_succ, List.set_cons_zero]
      subst hI
      refine item_row_wp (gs := grp (lv ns j)) G.tb (fun g hg => ⟨lv_in0 (grp_mem hg).1, (grp_mem hg).2, hokI _ (List.mem_map_of_mem hg)⟩) grp_ap (by rw [grp_exp]; omega) (by have := grp_len (lv ns j); omega) (by have := grp_len (lv ns j); omega) (by rw [grp_exp]; exact G.hr) hrn fun st4 f4 T4 => ?_
      exact ⟨f4, T4, rfl⟩
    rintro ρ st4 ⟨f4, T4, rfl⟩
    have hmI : ∀ n ∈ itms (lv ns j), n ∈ addL (tabF f0 ns j) (itms (lv ns j)) := fun n hn => addL_mem hn
    have hil2 : (itms (lv ns j)).length ≤ 2000 := by omega
    have hfl : (addL (tabF f0 ns j) (itms (lv ns j))).length ≤ 600000 := by
      obtain ⟨g1, e1, h1⟩ := addL_pre (itms (lv ns j)) (tabF f0 ns j)
      rw [e1, List.length_append]
      omega
    -- colors
    refine seq_cut (fun ρ st5 => FrT t st3 st5 ∧ Tab (addL (tabF f0 ns j) (itms (lv ns j))) t st5 ∧ ρ = [some (.ref t), some (.tup xs), some (.ref st.length), some (.ref r), some (.tup ((itms (lv ns j)).map (numA (addL (tabF f0 ns j) (itms (lv ns j)))))), some (colS (itms (lv ns j))), v6, none]) ?_ ?_
    · simp only [sp_set, wp_call, wp_cons, wp_nil, wp_var, List.getElem?_cons_succ, List.getElem?_cons_zero, Option.some.injEq, ex_eq, List.set_cons_succ, List.set_cons_zero]
      subst hK
      refine color_row_wp T4 hR hmI (by omega) fun st5 h5 => ?_
      exact ⟨f4.trans (h5.fr t), T4.hold h5, rfl⟩
    clear f4 T4 st4
    rintro ρ st4 ⟨f4, T4, rfl⟩
    -- starts
    refine seq_cut (fun ρ st5 => FrT t st3 st5 ∧ Tab (addL (tabF f0 ns j) (itms (lv ns j))) t st5 ∧ ρ = [some (.ref t), some (.tup xs), some (.ref st.length), some (.ref r), some (.tup ((itms (lv ns j)).map (numA (addL (tabF f0 ns j) (itms (lv ns j)))))), some (colS (itms (lv ns j))), some (staS (itms (lv ns j))), none]) ?_ ?_
    · simp only [sp_set, wp_call, wp_cons, wp_nil, wp_var, List.getElem?_cons_succ, List.getElem?_cons_zero, Option.some.injEq, ex_eq, List.set_cons_succ, List.set_cons_zero, colS]
      have hcz : natsA (colN (itms (lv ns j))) = (colsZ (itms (lv ns j))).map A.int := natsA_ints _
      rw [hcz]
      subst hS
      refine starts_wp (by rw [colsZ_len]; omega) fun st5 g5 => ?_
      exact ⟨f4.trans (.grown g5), T4.grown g5, rfl⟩
    clear f4 T4 st4
    rintro ρ st4 ⟨f4, T4, rfl⟩
    have hq4 : stL st4 st.length = some ((List.range j).map fun i => LvA (tabF f0 ns j) ns (rs.getD i 0) i) := f4.stL (by omega) G.hq
    have hr4 : stL st4 r = some ((lv ns j).map (numA (tabF f0 ns j))) := f4.stL (by omega) G.hr
    -- append
    have estay : ∀ n ∈ tabF f0 ns j, numA (addL (tabF f0 ns j) (itms (lv ns j))) n = numA (tabF f0 ns j) n := fun n hn => num_stay hn
    have ebig : ∀ n ∈ addL (tabF f0 ns j) (itms (lv ns j)), numA (tabF f0 ns (j + 1)) n = numA (addL (tabF f0 ns j) (itms (lv ns j))) n := fun n hn => num_stay hn
    have erow : ∀ n ∈ tabF f0 ns j, numA (tabF f0 ns (j + 1)) n = numA (tabF f0 ns j) n := fun n hn => num_le (Nat.le_succ j) hn
    have elist : ((List.range j).map fun i => LvA (tabF f0 ns j) ns (rs.getD i 0) i) ++ [LvA (addL (tabF f0 ns j) (itms (lv ns j))) ns r j] = (List.range (j + 1)).map fun i => LvA (tabF f0 ns (j + 1)) ns ((rs ++ [r]).getD i 0) i := by
      rw [List.range_succ, List.map_append]
      congr 1
      · refine List.map_congr_left fun i hi => ?_
        have hi' : i < j := by simpa using hi
        have er : (rs ++ [r]).getD i 0 = rs.getD i 0 := by
          rw [List.getD_eq_getElem?_getD, List.getD_eq_getElem?_getD, List.getElem?_append_left (by rw [G.rl]; exact hi')]
        rw [er]
        exact LvA_congr fun n hn => (erow n (its_in hi' hn)).symm
      · have er : (rs ++ [r]).getD j 0 = r := by
          rw [List.getD_eq_getElem?_getD, List.getElem?_append_right (by rw [G.rl]; exact Nat.le_refl _), G.rl, Nat.sub_self]
          rfl
        simp only [List.map_cons, List.map_nil]
        rw [er]
        congr 1
        exact LvA_congr fun n hn => (ebig n (addL_mem hn)).symm
    have hl4 := f4.len
    have hlq4 := stL_lt hq4
    have hfr4 : FrT t st st4 := G.fr.trans f4
    have hrs4 : ∀ i, i < j → stL st4 (rs.getD i 0) = some ((lv ns i).map (numA (tabF f0 ns j))) := fun i hi => f4.stL (by have := (G.hrs i hi).1; omega) (G.hrs i hi).2.2
    generalize hL0 : ((List.range j).map fun i => LvA (tabF f0 ns j) ns (rs.getD i 0) i) = L0 at *
    generalize hL1 : ((List.range (j + 1)).map fun i => LvA (tabF f0 ns (j + 1)) ns ((rs ++ [r]).getD i 0) i) = L1 at *
    have hL0l : L0.length = j := by rw [← hL0, List.length_map, List.length_range]
    have hval : A.tup [.ref r, .tup ((itms (lv ns j)).map (numA (addL (tabF f0 ns j) (itms (lv ns j))))), colS (itms (lv ns j)), staS (itms (lv ns j))] = LvA (addL (tabF f0 ns j) (itms (lv ns j))) ns r j := rfl
    refine seq_cut (fun ρ st5 => FrT t st st5 ∧ Tab (addL (tabF f0 ns j) (itms (lv ns j))) t st5 ∧ stL st5 st.length = some L1 ∧ (∀ i, i < j → stL st5 (rs.getD i 0) = some ((lv ns i).map (numA (tabF f0 ns j)))) ∧ stL st5 r = some ((lv ns j).map (numA (tabF f0 ns j))) ∧ ρ = [some (.ref t), some (.tup xs), some (.ref st.length), some (.ref r), some (.tup ((itms (lv ns j)).map (numA (addL (tabF f0 ns j) (itms (lv ns j)))))), some (colS (itms (lv ns j))), some (staS (itms (lv ns j))), none]) ?_ ?_
    · simp only [sp_expr, wp_bm, wp_tup, wp_cons, wp_nil, wp_var, List.getElem?_cons_succ, List.getElem?_cons_zero, Option.some.injEq, ex_eq, isL_ref, hq4, Option.isSome_some, true_and, w_append]
      refine ⟨by rw [size_eq]; simp, by rw [size_eq, hL0l]; omega, hfr4.setNew (Nat.le_refl _), T4.set (by omega), ?_, ?_, ?_, trivial⟩
      · rw [stL_set_self hq4, hval, elist]
      · intro i hi
        rw [stL_set_ne' (fun z => (G.hrs i hi).2.1 z.symm)]
        exact hrs4 i hi
      · rw [stL_set_ne' (fun z => G.rq z.symm)]
        exact hr4
    clear f4 T4 hq4 hr4 hrs4 hlq4 hfr4 hl4
    rintro ρ st5 ⟨f5, T5, hq5, hrs5, hr5, rfl⟩
    have hlq5 := stL_lt hq5
    refine seq_cut (fun ρ st6 => st6 = st5 ++ [.lst []] ∧ ρ = [some (.ref t), some (.tup xs), some (.ref st.length), some (.ref st5.length), some (.tup ((itms (lv ns j)).map (numA (addL (tabF f0 ns j) (itms (lv ns j)))))), some (colS (itms (lv ns j))), some (staS (itms (lv ns j))), none]) ?_ ?_
    · simp only [sp_set, wp_lst, wp_nil, List.set_cons_zero, List.set_cons_succ]
      exact ⟨by simp [sizeLine], trivial, trivial⟩
    rintro ρ st6 ⟨rfl, rfl⟩
    have g6 : Grown st5 (st5 ++ [Ob.lst []]) := .one _ _
    have hz6 : stL (st5 ++ [Ob.lst []]) st5.length = some [] := stL_new
    have l65 : st5.length < (st5 ++ [Ob.lst []]).length := stL_lt hz6
    have f6 : FrT t st5 (st5 ++ [Ob.lst []]) := .grown g6
    have T6 := T5.grown g6
    generalize hs6 : st5 ++ [Ob.lst []] = st6 at *
    have ht5 : t + 4 < st5.length := by omega
    have fin : ∀ (st7 : Store) (r' : Nat), FrT t st6 st7 → Tab (tabF f0 ns (j + 1)) t st7 → st5.length ≤ r' → stL st7 r' = some ((lv ns (j + 1)).map (numA (tabF f0 ns (j + 1)))) → GwI f0 ns xs t st.length st [some (.ref t), some (.tup xs), some (.ref st.length), some (.ref r'), some (.tup ((itms (lv ns j)).map (numA (addL (tabF f0 ns j) (itms (lv ns j)))))), some (colS (itms (lv ns j))), some (staS (itms (lv ns j))), none] st7 ∧ muL 3 [some (.ref t), some (.tup xs), some (.ref st.length), some (.ref r'), some (.tup ((itms (lv ns j)).map (numA (addL (tabF f0 ns j) (itms (lv ns j)))))), some (colS (itms (lv ns j))), some (staS (itms (lv ns j))), none] st7 < (lv ns j).length := by
      intro st7 r' f7 T7 hr' z7
      have f57 := f6.trans f7
      refine ⟨⟨j + 1, rs ++ [r], r', _, _, _, ⟨f5.trans f57, T7, ?_, Nat.le_refl _, ?_, by rw [List.length_append, G.rl]; rfl, ?_, by omega, by omega, z7⟩, rfl⟩, ?_⟩
      · intro i hi
        by_cases e : i = j
        · rw [e]
          exact hne
        · exact G.ne i (by omega)
      · rw [hL1]
        exact f57.stL (by omega) hq5
      · intro i hi
        by_cases e : i = j
        · have er : (rs ++ [r]).getD i 0 = r := by
            rw [List.getD_eq_getElem?_getD, List.getElem?_append_right (by rw [G.rl]; omega), G.rl, e, Nat.sub_self]
            rfl
          rw [er, e]
          refine ⟨G.r0, G.rq, ?_⟩
          rw [f57.stL (by omega) hr5]
          congr 1
          exact List.map_congr_left fun n hn => (erow n (lv_in0 hn)).symm
        · have hi' : i < j := by omega
          have er : (rs ++ [r]).getD i 0 = rs.getD i 0 := by
            rw [List.getD_eq_getElem?_getD, List.getD_eq_getElem?_getD, List.getElem?_append_left (by rw [G.rl]; exact hi')]
          rw [er]
          have g := G.hrs i hi'
          refine ⟨g.1, g.2.1, ?_⟩
          rw [f57.stL (by omega) (hrs5 i hi')]
          congr 1
          exact List.map_congr_left fun n hn => (erow n (lv_in (by omega) hn)).symm
      · simp only [muL, List.getElem?_cons_succ, List.getElem?_cons_zero, z7, Option.getD_some, List.length_map]
        show (nxt (lv ns j)).length < _
        unfold nxt
        split
        · rename_i h1
          have := prts_half hR (by omega)
          unfold upN
          rw [List.length_map]
          omega
        · exact hpos
    simp only [sp_ifs, wp_gb, wp_bin, wp_ca, wp_cons, wp_nil, wp_var, wp_c, List.getElem?_cons_succ, List.getElem?_cons_zero, Option.some.injEq, ex_eq, w_lenT, List.length_map, w_gt, w_getB, decide_eq_true_eq]
    by_cases hc : 1 < (itms (lv ns j)).length
    · have hc' : (1 : Int) < ((itms (lv ns j)).length : Nat) := by omega
      have elv : lv ns (j + 1) = upN (itms (lv ns j)) := by
        show nxt (lv ns j) = _
        unfold nxt
        rw [if_pos hc]
      rw [if_pos hc']
      simp only [sp_set, wp_lc, wp_src, wp_call, wp_cons, wp_nil, wp_var, List.getElem?_cons_succ, List.getElem?_cons_zero, Option.some.injEq, ex_eq]
      refine CP (by omega) ?_
      have g7 : Grown st6 (st6 ++ [Ob.lst ((prts (itms (lv ns j))).map fun p => A.tup (p.map (numA (addL (tabF f0 ns j) (itms (lv ns j))))))]) := .one _ _
      have h7 : stL (st6 ++ [Ob.lst ((prts (itms (lv ns j))).map fun p => A.tup (p.map (numA (addL (tabF f0 ns j) (itms (lv ns j))))))]) st6.length = some ((prts (itms (lv ns j))).map fun p => A.tup (p.map (numA (addL (tabF f0 ns j) (itms (lv ns j)))))) := stL_new
      generalize st6 ++ [Ob.lst ((prts (itms (lv ns j))).map fun p => A.tup (p.map (numA (addL (tabF f0 ns j) (itms (lv ns j))))))] = st7 at *
      rw [w_srcL, h7]
      refine ⟨rfl, ?_⟩
      subst hN
      have hokB : ∀ p ∈ prts (itms (lv ns j)), Okt (.blk p) := fun p hp => (hlv (j + 1)).okt hl (by omega) _ (by rw [elv]; exact List.mem_map_of_mem hp)
      generalize hρ : [some (A.ref t), some (A.tup xs), some (A.ref st.length), some (A.ref st5.length), some (A.tup ((itms (lv ns j)).map (numA (addL (tabF f0 ns j) (itms (lv ns j)))))), some (colS (itms (lv ns j))), some (staS (itms (lv ns j))), none] = ρ1
      refine blk_row_wp (T6.grown g7) hR hmI hokB (by omega) h7 (by omega) (by rw [← hρ]; rfl) (by rw [← hρ]; simp) fun st8 f8 T8 => ?_
      rw [← hρ]
      have hlen8 := f8.len
      have hlen7 := g7
      simp only [List.set_cons_zero, List.set_cons_succ]
      refine fin _ _ (((FrT.grown g7).trans f8).trans (.grown (.one _ _))) ?_ ?_ ?_
      · have : tabF f0 ns (j + 1) = addL (addL (tabF f0 ns j) (itms (lv ns j))) (upN (itms (lv ns j))) := by simp only [tabF]; rw [elv]
        rw [this]
        exact T8.grown (.one _ _)
      · have := (FrT.grown (t := t) g7).len
        omega
      · have : tabF f0 ns (j + 1) = addL (addL (tabF f0 ns j) (itms (lv ns j))) (upN (itms (lv ns j))) := by simp only [tabF]; rw [elv]
        rw [this, elv]
        exact stL_new
    · have hc' : ¬ (1 : Int) < ((itms (lv ns j)).length : Nat) := by omega
      have elv : lv ns (j + 1) = [] := by
        show nxt (lv ns j) = _
        unfold nxt
        rw [if_neg hc]
      rw [if_neg hc', sp_next]
      refine fin st6 st5.length (.refl _ _) ?_ (Nat.le_refl _) ?_
      · have : tabF f0 ns (j + 1) = addL (tabF f0 ns j) (itms (lv ns j)) := by simp only [tabF]; rw [elv]; rfl
        rw [this]
        exact T6
      · rw [elv]
        exact hz6
  rintro ρ st3 ⟨j, rs, r, v4, v5, v6, G, hj, rfl⟩
  simp only [sp_ret, wp_var, List.getElem?_cons_succ, List.getElem?_cons_zero, Option.some.injEq, ex_eq]
  exact k _ rs r j st3 G hj
end Law
namespace Law
open PySem L2 ML
open Classical
theorem setIA_eq {cls f : Str} {v : A} {r : Nat} {fs : List (Str × A)} {st : Store} (h : st[r]? = some (.oth (.ins cls fs))) (hl : fs.length < 1000) : setIA cls f v (.ref r) st = some (st.set r (.oth (.ins cls (putFA f v fs)))) := by
  unfold setIA
  simp only [insA_of h, if_pos hl]
theorem init_wp {st : Store} {Q : A → Store → Prop} (k : ∀ st', Hold st st' → Tab [] st.length st' → Q .non st') : (m_NodeTable___init__ [.ref st.length] (st ++ [.oth (.ins "NodeTable" [])])).wp Q := by
  simp only [m_NodeTable___init__]
  rw [wp_fn]
  refine ⟨rfl, ?_⟩
  have e : ∀ (a : Ob) (l : List Ob), (st ++ a :: l)[st.length]? = some a := fun a l => by rw [List.getElem?_append_right (Nat.le_refl _), Nat.sub_self]; rfl
  have es : ∀ (a b : Ob) (l : List Ob), (st ++ a :: l).set st.length b = st ++ b :: l := fun a b l => by rw [List.set_append_right _ _ (Nat.le_refl _), Nat.sub_self]; rfl
  have el : ∀ (a : Ob) (l : List Ob), (st ++ a :: l).length = st.length + 1 + l.length := fun a l => by rw [List.length_append, List.length_cons]; omega
  have h0 : ∀ (v : A) (l : List Ob), setIA "NodeTable" "numbers" v (.ref st.length) (st ++ (.oth (.ins "NodeTable" [])) :: l) = some (st ++ (.oth (.ins "NodeTable" [("numbers", v)])) :: l) := fun v l => by
    rw [setIA_eq (e _ _) (by simp), es]
    rfl
  have h1 : ∀ (v w : A) (l : List Ob), setIA "NodeTable" "entries" v (.ref st.length) (st ++ (.oth (.ins "NodeTable" [("numbers", w)])) :: l) = some (st ++ (.oth (.ins "NodeTable" [("numbers", w), ("entries", v)])) :: l) := fun v w l => by
    rw [setIA_eq (e _ _) (by simp), es]
    rfl
  have h2 : ∀ (v w u : A) (l : List Ob), setIA "NodeTable" "codes" v (.ref st.length) (st ++ (.oth (.ins "NodeTable" [("numbers", w), ("entries", u)])) :: l) = some (st ++ (.oth (.ins "NodeTable" [("numbers", w), ("entries", u), ("codes", v)])) :: l) := fun v w u l => by
    rw [setIA_eq (e _ _) (by simp), es]
    rfl
  have h3 : ∀ (v w u x : A) (l : List Ob), setIA "NodeTable" "sizes" v (.ref st.length) (st ++ (.oth (.ins "NodeTable" [("numbers", w), ("entries", u), ("codes", x)])) :: l) = some (st ++ (.oth (.ins "NodeTable" [("numbers", w), ("entries", u), ("codes", x), ("sizes", v)])) :: l) := fun v w u x l => by
    rw [setIA_eq (e _ _) (by simp), es]
    rfl
  simp only [List.map_cons, List.map_nil, List.cons_append, List.nil_append, List.replicate, Nat.reduceSub, sp_seq, sp_putf, wp_dnew, wp_lst, wp_nil, wp_var, List.getElem?_cons_zero, Option.some.injEq, ex_eq, List.append_assoc, h0, h1, h2, h3, List.length_nil, Nat.zero_le, true_and, el, List.length_cons]
  refine k _ (.grown ⟨_, rfl⟩) ⟨⟨List.nodup_nil, by simp⟩, by intro i n h; simp at h, by simp, e _ _, ?_, ?_, ?_, ?_⟩
  · unfold ML.stD
    rw [List.getElem?_append_right (by omega), show st.length + 1 - st.length = 1 by omega]
    rfl
  · refine stL_of ?_
    rw [List.getElem?_append_right (by omega), show st.length + 2 - st.length = 2 by omega]
    rfl
  · refine stL_of ?_
    rw [List.getElem?_append_right (by omega), show st.length + 3 - st.length = 3 by omega]
    rfl
  · refine stL_of ?_
    rw [List.getElem?_append_right (by omega), show st.length + 4 - st.length = 4 by omega]
    rfl
end Law
namespace Law
open PySem L2 ML
def m_law_contents : MF := mFn 9 2 (mSeq (mSet 2 (mLc (mRng (mCons (mBin addA (mC (.int 1)) (mCall m_law_draw (mCons (mVar 0) (mCons (mC (.int 5)) mNil)))) mNil)) (.one 4) [4] mYes (mCall m_law_element (mCons (mVar 0) mNil))))
    (mSeq (mSet 3 (mLst mNil))
    (mSeq (mFor (mRng (mCons (mCall m_law_draw (mCons (mVar 0) (mCons (mC (.int 10)) mNil))) mNil)) (.one 4) (mSeq (mSet 5 (mCall m_law_draw (mCons (mVar 0) (mCons (mC (.int 5)) mNil))))
    (mIfS (mGB (mBin eqA (mVar 5) (mC (.int 0)))) (mSet 3 (mBin addA (mVar 3) (mBin mulA (mLst (mCons (mBin ixA (mVar 2) (mCall m_law_draw (mCons (mVar 0) (mCons (mCa lenA (mCons (mVar 2) mNil)) mNil)))) mNil)) (mBin addA (mC (.int 1)) (mCall m_law_draw (mCons (mVar 0) (mCons (mC (.int 9)) mNil))))))) (mIfS (mGB (mBin eqA (mVar 5) (mC (.int 1)))) (mSeq (mSet 6 (mCall m_law_draw (mCons (mVar 0) (mCons (mC (.int 30)) mNil))))
    (mSet 3 (mBin addA (mVar 3) (mLc (mRng (mCons (mBin addA (mC (.int 1)) (mCall m_law_draw (mCons (mVar 0) (mCons (mC (.int 14)) mNil)))) mNil)) (.one 8) [8] mYes (mBin addA (mVar 6) (mVar 8)))))) (mIfS (mGB (mBin eqA (mVar 5) (mC (.int 2)))) (mSeq (mSet 7 (mCall m_law_draw (mCons (mVar 0) (mCons (mBin addA (mCa lenA (mCons (mVar 3) mNil)) (mC (.int 1))) mNil))))
    (mSet 3 (mBin addA (mVar 3) (mSl (mVar 3) (mPart (mVar 7)) (mPart (mBin addA (mBin addA (mVar 7) (mC (.int 1))) (mCall m_law_draw (mCons (mVar 0) (mCons (mC (.int 20)) mNil))))))))) (mIfS (mGB (mBin eqA (mVar 5) (mC (.int 3)))) (mSet 3 (mBin addA (mVar 3) (mBin mulA (mBin addA (mSl (mVar 3) (mPart (mUn negA (mC (.int 2)))) mNoPart) (mLst (mCons (mBin ixA (mVar 2) (mCall m_law_draw (mCons (mVar 0) (mCons (mCa lenA (mCons (mVar 2) mNil)) mNil)))) mNil))) (mBin addA (mC (.int 1)) (mCall m_law_draw (mCons (mVar 0) (mCons (mC (.int 6)) mNil))))))) (mSet 3 (mBin addA (mVar 3) (mLc (mRng (mCons (mBin addA (mC (.int 1)) (mCall m_law_draw (mCons (mVar 0) (mCons (mC (.int 6)) mNil)))) mNil)) (.one 8) [8] mYes (mBin ixA (mVar 2) (mCall m_law_draw (mCons (mVar 0) (mCons (mCa lenA (mCons (mVar 2) mNil)) mNil)))))))))))))
    (mRet (mSl (mVar 3) mNoPart (mPart (mVar 1)))))))
theorem pick23_wp {q : Nat} {ps : List A} {st : Store} {Q : A → Store → Prop} (t : TpOk st) (hq : 1 < q) (hp : stL st q = some ps) (he : ∀ x ∈ ps, El x) (h1 : 1 ≤ ps.length) (h2 : ps.length ≤ 1000) (k : ∀ (x : A) st', El x → TpOk st' → Kp st st' → Q x st') :
    (m_law_draw [.ref 1, .int ps.length] st).wp fun a st1 => (ixA (.ref q) a st1).wp Q := by
  refine draw_wp t (by omega) fun n st1 na nb t1 k1 l1 => ?_
  rw [w_ixL]
  have hn : n.toNat < ps.length := by omega
  refine ⟨ps, k1.stL hq hp, ps[n.toNat], ?_, k _ _ (he _ (List.getElem_mem hn)) t1 k1⟩
  rw [atI_nn na]
  exact List.getElem?_eq_getElem hn
def Ct23I (most : Int) (q : Nat) (ps : List A) (st0 : Store) (i : Nat) (ρ : ML.Env) (st : Store) : Prop := ∃ (w : Nat) (xs : List A) (v4 v5 v6 v7 : Option A), TpOk st ∧ Kp st0 st ∧ stL st q = some ps ∧ st0.length ≤ w ∧ stL st w = some xs ∧ (∀ x ∈ xs, El x) ∧ xs.length ≤ 20 * i ∧ ρ = [some (.ref 1), some (.int most), some (.ref q), some (.ref w), v4, v5, v6, v7, none]
theorem mem_rep23 {x : A} {xs : List A} {n : Nat} (h : x ∈ (List.replicate n xs).flatten) : x ∈ xs := by
  rw [List.mem_flatten] at h
  obtain ⟨l, h1, h2⟩ := h
  rw [List.mem_replicate] at h1
  rw [h1.2] at h2
  exact h2
theorem cut_mem23 {x : A} {xs : List A} {lo hi : Option Int} (h : x ∈ cutA xs lo hi) : x ∈ xs := by
  unfold cutA at h
  exact List.mem_of_mem_drop (List.mem_of_mem_take h)
theorem cut_le23 {xs : List A} {lo hi : Option Int} : (cutA xs lo hi).length ≤ xs.length := by
  unfold cutA
  simp
  omega
theorem conts_wp {most : Int} {st : Store} {Q : A → Store → Prop} (t : TpOk st) (h0 : 0 ≤ most) (h1 : most ≤ 100000) (k : ∀ (r : Nat) (xs : List A) st', (∀ x ∈ xs, El x) → xs.length ≤ most.toNat → xs.length ≤ 200 → TpOk st' → Kp st st' → st.length ≤ r → stL st' r = some xs → Q (.ref r) st') : (m_law_contents [.ref 1, .int most] st).wp Q := by
  simp only [m_law_contents]
  rw [wp_fn]
  refine ⟨rfl, ?_⟩
  simp only [List.map_cons, List.map_nil, List.cons_append, List.nil_append, List.replicate, Nat.reduceSub]
  have hlen := t.len
  generalize hF : @mFor = F
  generalize hM : @mulA = M
  generalize hL : @mLc = L
  refine seq_cut (fun ρ st' => ∃ q ps, TpOk st' ∧ Kp st st' ∧ st.length ≤ q ∧ stL st' q = some ps ∧ (∀ x ∈ ps, El x) ∧ 1 ≤ ps.length ∧ ps.length ≤ 6 ∧ ρ = [some (.ref 1), some (.int most), some (.ref q), none, none, none, none, none, none]) ?_ ?_
  · subst hL
    simp only [sp_set, wp_lc, wp_rng, wp_bin, wp_call, wp_cons, wp_nil, wp_var, wp_c, List.getElem?_cons_succ, List.getElem?_cons_zero, Option.some.injEq, ex_eq, List.set_cons_zero, List.set_cons_succ, wipeA_cons, wipeA_nil]
    refine draw_wp t (by decide) fun n st1 na nb t1 k1 l1 => ?_
    rw [w_add, w_rng1]
    refine ⟨by omega, ?_⟩
    refine lc_rng (fun j st' acc => TpOk st' ∧ Kp st st' ∧ acc.length = j ∧ ∀ x ∈ acc, El x) ⟨t1, k1, rfl, by simp⟩ ?_ ?_
    · rintro j st' acc hj ⟨t', k', l', a'⟩
      refine ⟨_, rfl, ?_⟩
      simp only [wp_yes, if_true, wp_call, wp_cons, wp_nil, wp_var, List.set_cons_zero, List.set_cons_succ, List.getElem?_cons_succ, List.getElem?_cons_zero, Option.some.injEq, ex_eq]
      refine element_wp t' fun x st2 hx t2 k2 => ⟨by rw [size_eq]; omega, t2, k'.trans k2, by simp [l'], ?_⟩
      intro y hy
      rcases List.mem_append.mp hy with h | h
      · exact a' y h
      · simp at h
        subst h
        exact hx
    · rintro st' acc ⟨t', k', l', a'⟩
      exact ⟨st'.length, acc, t'.grown (.one _ _), k'.trans (Kp.grown (.one _ _)), k'.len, stL_new, a', by omega, by omega, rfl⟩
  rintro ρ st1 ⟨q, ps, t1, k1, q1, hq, pe, p1, p2, rfl⟩
  refine seq_cut (Ct23I most q ps st 0) ?_ ?_
  · simp only [sp_set, wp_lst, wp_nil, List.set_cons_zero, List.set_cons_succ]
    refine ⟨by simp [sizeLine], st1.length, [], none, none, none, none, t1.grown (.one _ _), k1.trans (Kp.grown (.one _ _)), Grown.stL (.one _ _) hq, k1.len, stL_new, by simp, by simp, rfl⟩
  rintro ρ st2 ⟨w, xs, v4, v5, v6, v7, t2, k2, hq2, w2, hw2, xe, xl, rfl⟩
  have q0 : 1 < q := by omega
  refine seq_cut (Ct23I most q ps st 9) ?_ ?_
  · subst hF
    simp only [sp_for, wp_rng, wp_call, wp_cons, wp_nil, wp_var, wp_c, List.getElem?_cons_succ, List.getElem?_cons_zero, Option.some.injEq, ex_eq]
    refine draw_wp t2 (by decide) fun n st3 na nb t3 k3 l3 => ?_
    rw [w_rng1]
    refine ⟨by omega, ?_⟩
    refine for_rng (Ct23I most q ps st) ⟨w, xs, v4, v5, v6, v7, t3, k2.trans k3, k3.stL q0 hq2, w2, k3.stL (by omega) hw2, xe, by omega, rfl⟩ ?_ ?_
    · rintro i ρ st4 hi ⟨w, xs, v4, v5, v6, v7, t4, k4, hq4, w4, hw4, xe, xl, rfl⟩
      refine ⟨_, rfl, ?_⟩
      simp only [List.set_cons_succ, List.set_cons_zero]
      have w0 : 1 < w := by omega
      have fin : ∀ (ys : List A) (st5 : Store) (v4 v5 v6 v7 : Option A) (w5 : Nat), TpOk st5 → Kp st4 st5 → (∀ y ∈ ys, El y) → ys.length ≤ 20 → Ct23I most q ps st (i + 1) [some (.ref 1), some (.int most), some (.ref q), some (.ref st5.length), v4, v5, v6, v7, none] (st5 ++ [.lst (xs ++ ys)]) := fun ys st5 v4 v5 v6 v7 w5 t5 k5 ye yl => by
        refine ⟨st5.length, xs ++ ys, v4, v5, v6, v7, t5.grown (.one _ _), (k4.trans k5).trans (Kp.grown (.one _ _)), Grown.stL (.one _ _) (k5.stL q0 hq4), (k4.trans k5).len, stL_new, ?_, ?_, rfl⟩
        · intro y hy
          rcases List.mem_append.mp hy with h | h
          · exact xe y h
          · exact ye y h
        · simp
          omega
      refine seq_cut (fun ρ st5 => ∃ c : Int, TpOk st5 ∧ Kp st4 st5 ∧ ρ = [some (.ref 1), some (.int most), some (.ref q), some (.ref w), some (.int (0 + (i : Int))), some (.int c), v6, v7, none]) ?_ ?_
      · simp only [sp_set, wp_call, wp_cons, wp_nil, wp_var, wp_c, List.getElem?_cons_succ, List.getElem?_cons_zero, Option.some.injEq, ex_eq, List.set_cons_zero, List.set_cons_succ]
        exact draw_wp t4 (by decide) fun c st5 ca cb t5 k5 l5 => ⟨c, t5, k5, rfl⟩
      rintro ρ st5 ⟨c, t5, k5, rfl⟩
      have hq5 := k5.stL q0 hq4
      have hw5 := k5.stL w0 hw4
      have hl5 := k5.len
      subst hM
      subst hL
      simp only [sp_ifs, wp_gb, wp_bin, wp_var, wp_c, List.getElem?_cons_succ, List.getElem?_cons_zero, Option.some.injEq, ex_eq, w_eq, w_getB, decide_eq_true_eq]
      by_cases c0 : c = 0
      · rw [if_pos c0]
        simp only [sp_set, wp_bin, wp_lst, wp_call, wp_ca, wp_cons, wp_nil, wp_var, wp_c, List.getElem?_cons_succ, List.getElem?_cons_zero, Option.some.injEq, ex_eq, List.set_cons_zero, List.set_cons_succ, w_lenL, hq5]
        refine pick23_wp t5 q0 hq5 pe p1 (by omega) fun x st6 hx t6 k6 => ?_
        refine ⟨by simp [sizeLine], ?_⟩
        have g7 : Grown st6 (st6 ++ [.lst [x]]) := .one _ _
        refine draw_wp (t6.grown g7) (by decide) fun m st8 ma mb t8 k8 l8 => ?_
        have z8 : stL st8 st6.length = some [x] := k8.stL (by have := t6.len; omega) stL_new
        have hw8 := k8.stL w0 (g7.stL (k6.stL w0 hw5))
        rw [w_add, w_mulL, z8]
        refine ⟨_, rfl, ⟨by omega, by omega, by rw [size_eq]; simp; omega⟩, ?_⟩
        rw [w_addL, stL_new]
        refine ⟨xs, Grown.stL (.one _ _) hw8, _, rfl, by rw [size_eq]; simp; omega, ?_⟩
        refine fin _ _ _ _ _ _ 0 (t8.grown (.one _ _)) (((k5.trans k6).trans (Kp.grown g7)).trans (k8.trans (Kp.grown (.one _ _)))) ?_ (by simp; omega)
        intro y hy
        have := mem_rep23 hy
        simp at this
        subst this
        exact hx
      · rw [if_neg c0]
        by_cases c1 : c = 1
        · rw [if_pos c1]
          simp only [sp_seq, sp_set, wp_bin, wp_lst, wp_call, wp_ca, wp_cons, wp_nil, wp_var, wp_c, wp_lc, wp_rng, List.getElem?_cons_succ, List.getElem?_cons_zero, Option.some.injEq, ex_eq, List.set_cons_zero, List.set_cons_succ, wipeA_cons, wipeA_nil]
          refine draw_wp t5 (by decide) fun s st6 sa sb t6 k6 l6 => ?_
          refine draw_wp t6 (by decide) fun m st7 ma mb t7 k7 l7 => ?_
          rw [w_add, w_rng1]
          refine ⟨by omega, ?_⟩
          refine lc_rng (fun j st' acc => st' = st7 ∧ acc.length = j ∧ ∀ x ∈ acc, El x) ⟨rfl, rfl, by simp⟩ ?_ ?_
          · rintro j st' acc hj ⟨rfl, l', a'⟩
            refine ⟨_, rfl, ?_⟩
            simp only [wp_yes, if_true, wp_bin, wp_var, List.set_cons_zero, List.set_cons_succ, List.getElem?_cons_succ, List.getElem?_cons_zero, Option.some.injEq, ex_eq, w_add]
            refine ⟨by rw [size_eq]; omega, trivial, by simp [l'], ?_⟩
            intro y hy
            rcases List.mem_append.mp hy with h | h
            · exact a' y h
            · simp at h
              subst h
              exact .inl (.inr ⟨_, rfl, by omega, by omega⟩)
          · rintro st' acc ⟨rfl, l', a'⟩
            have hw7 := k7.stL w0 (k6.stL w0 hw5)
            rw [w_addL, stL_new]
            refine ⟨xs, Grown.stL (.one _ _) hw7, _, rfl, by rw [size_eq]; omega, ?_⟩
            exact fin _ _ _ _ _ _ 0 (t7.grown (.one _ _)) (((k5.trans k6).trans k7).trans (Kp.grown (.one _ _))) a' (by omega)
        · rw [if_neg c1]
          by_cases c2 : c = 2
          · rw [if_pos c2]
            simp only [sp_seq, sp_set, wp_bin, wp_sl, wp_part, wp_call, wp_ca, wp_cons, wp_nil, wp_var, wp_c, List.getElem?_cons_succ, List.getElem?_cons_zero, Option.some.injEq, ex_eq, List.set_cons_zero, List.set_cons_succ, w_lenL, hw5, w_add]
            refine draw_wp t5 (by omega) fun s st6 sa sb t6 k6 l6 => ?_
            simp only [w_getI]
            refine draw_wp t6 (by decide) fun m st7 ma mb t7 k7 l7 => ?_
            have hw7 := k7.stL w0 (k6.stL w0 hw5)
            simp only [w_add, w_getI, w_slL, hw7, Option.some.injEq, ex_eq]
            rw [w_addL, stL_new]
            have cl : (cutA xs (some s) (some (s + 1 + m))).length ≤ 20 := by
              have n1 : ¬ s < 0 := by omega
              have n2 : ¬ s + 1 + m < 0 := by omega
              unfold cutA
              simp [HT.sIx, n1, n2]
              omega
            refine ⟨xs, Grown.stL (.one _ _) hw7, _, rfl, by rw [size_eq]; omega, ?_⟩
            exact fin _ _ _ _ _ _ 0 (t7.grown (.one _ _)) (((k5.trans k6).trans k7).trans (Kp.grown (.one _ _))) (fun y hy => xe y (cut_mem23 hy)) cl
          · rw [if_neg c2]
            by_cases c3 : c = 3
            · rw [if_pos c3]
              simp only [sp_set, wp_bin, wp_un, wp_sl, wp_part, wp_noPart, wp_lst, wp_call, wp_ca, wp_cons, wp_nil, wp_var, wp_c, List.getElem?_cons_succ, List.getElem?_cons_zero, Option.some.injEq, ex_eq, List.set_cons_zero, List.set_cons_succ, w_neg, w_getI, w_slL, hw5]
              obtain ⟨s6, e6⟩ : ∃ s : Store, s = st5 ++ [.lst (cutA xs (some (-2)) none)] := ⟨_, rfl⟩
              have g6 : Grown st5 s6 := e6 ▸ .one _ _
              have z6 : stL s6 st5.length = some (cutA xs (some (-2)) none) := e6 ▸ stL_new
              rw [← e6]
              have hq6 := g6.stL hq5
              simp only [w_lenL, hq6, Option.some.injEq, ex_eq]
              have cl : (cutA xs (some (-2)) none).length ≤ 2 := by
                unfold cutA
                simp [HT.sIx]
                omega
              refine pick23_wp (t5.grown g6) q0 hq6 pe p1 (by omega) fun x st7 hx t7 k7 => ?_
              refine ⟨by simp [sizeLine], ?_⟩
              have g8 : Grown st7 (st7 ++ [.lst [x]]) := .one _ _
              have z8 := g8.stL (k7.stL (by have := t5.len; omega) z6)
              rw [w_addL, z8, stL_new]
              refine ⟨_, rfl, _, rfl, by rw [size_eq]; simp; omega, ?_⟩
              obtain ⟨s9, e9⟩ : ∃ s : Store, s = st7 ++ [.lst [x]] ++ [.lst (cutA xs (some (-2)) none ++ [x])] := ⟨_, rfl⟩
              have g9 : Grown (st7 ++ [.lst [x]]) s9 := e9 ▸ .one _ _
              have z9 : stL s9 (st7 ++ [Ob.lst [x]]).length = some (cutA xs (some (-2)) none ++ [x]) := e9 ▸ stL_new
              rw [← e9]
              have n9 : 1 < (st7 ++ [Ob.lst [x]]).length := by have := t7.len; simp; omega
              refine draw_wp ((t7.grown g8).grown g9) (by decide) fun m st10 ma mb t10 k10 l10 => ?_
              have hw10 := k10.stL w0 (g9.stL (g8.stL (k7.stL w0 (g6.stL hw5))))
              rw [w_add, w_mulL, k10.stL n9 z9]
              refine ⟨_, rfl, ⟨by omega, by omega, ?_⟩, ?_⟩
              · rw [size_eq, List.length_append]
                have : (1 + m).toNat ≤ 6 := by omega
                have h3 : (cutA xs (some (-2)) none).length + [x].length ≤ 3 := by simp; omega
                have := Nat.mul_le_mul h3 this
                omega
              rw [w_addL, stL_new]
              have hlen3 : ((List.replicate (1 + m).toNat (cutA xs (some (-2)) none ++ [x])).flatten).length ≤ 18 := by
                have h6 : (1 + m).toNat ≤ 6 := by omega
                have h3 : (cutA xs (some (-2)) none ++ [x]).length ≤ 3 := by simp; omega
                rw [List.length_flatten, List.map_replicate, List.sum_replicate_nat]
                exact Nat.mul_le_mul h6 h3
              refine ⟨xs, Grown.stL (.one _ _) hw10, _, rfl, by rw [size_eq]; omega, ?_⟩
              refine fin _ _ _ _ _ _ 0 (t10.grown (.one _ _)) ((k5.trans (Kp.grown g6)).trans (k7.trans ((Kp.grown g8).trans ((Kp.grown g9).trans (k10.trans (Kp.grown (.one _ _))))))) ?_ (by omega)
              intro y hy
              have := mem_rep23 hy
              rcases List.mem_append.mp this with h | h
              · exact xe y (cut_mem23 h)
              · simp at h
                subst h
                exact hx
            · rw [if_neg c3]
              simp only [sp_set, wp_bin, wp_call, wp_ca, wp_cons, wp_nil, wp_var, wp_c, wp_lc, wp_rng, List.getElem?_cons_succ, List.getElem?_cons_zero, Option.some.injEq, ex_eq, List.set_cons_zero, List.set_cons_succ, wipeA_cons, wipeA_nil]
              refine draw_wp t5 (by decide) fun m st6 ma mb t6 k6 l6 => ?_
              rw [w_add, w_rng1]
              refine ⟨by omega, ?_⟩
              refine lc_rng (fun j st' acc => TpOk st' ∧ Kp st6 st' ∧ acc.length = j ∧ ∀ x ∈ acc, El x) ⟨t6, .refl _, rfl, by simp⟩ ?_ ?_
              · rintro j st' acc hj ⟨t', k', l', a'⟩
                refine ⟨_, rfl, ?_⟩
                have hq' := k'.stL q0 (k6.stL q0 hq5)
                simp only [wp_yes, if_true, wp_bin, wp_call, wp_ca, wp_cons, wp_nil, wp_var, List.set_cons_zero, List.set_cons_succ, List.getElem?_cons_succ, List.getElem?_cons_zero, Option.some.injEq, ex_eq, w_lenL, hq']
                refine pick23_wp t' q0 hq' pe p1 (by omega) fun x st7 hx t7 k7 => ?_
                refine ⟨by rw [size_eq]; omega, t7, k'.trans k7, by simp [l'], ?_⟩
                intro y hy
                rcases List.mem_append.mp hy with h | h
                · exact a' y h
                · simp at h
                  subst h
                  exact hx
              · rintro st' acc ⟨t', k', l', a'⟩
                have hw7 := k'.stL w0 (k6.stL w0 hw5)
                rw [w_addL, stL_new]
                refine ⟨xs, Grown.stL (.one _ _) hw7, _, rfl, by rw [size_eq]; omega, ?_⟩
                exact fin _ _ _ _ _ _ 0 (t'.grown (.one _ _)) (((k5.trans k6).trans k').trans (Kp.grown (.one _ _))) a' (by omega)
    · rintro ρ st4 ⟨w, xs, v4, v5, v6, v7, t4, k4, hq4, w4, hw4, xe, xl, rfl⟩
      exact ⟨w, xs, v4, v5, v6, v7, t4, k4, hq4, w4, hw4, xe, by omega, rfl⟩
  rintro ρ st3 ⟨w, xs, v4, v5, v6, v7, t3, k3, hq3, w3, hw3, xe, xl, rfl⟩
  simp only [sp_ret, wp_sl, wp_part, wp_noPart, wp_var, List.getElem?_cons_succ, List.getElem?_cons_zero, Option.some.injEq, ex_eq, w_getI, w_slL, hw3]
  have cl := cut_le23 (xs := xs) (lo := none) (hi := some most)
  have cm : (cutA xs none (some most)).length ≤ most.toNat := by
    have n1 : ¬ most < 0 := by omega
    unfold cutA
    simp [HT.sIx, n1]
    omega
  exact k _ _ _ (fun y hy => xe y (cut_mem23 hy)) cm (by omega) (t3.grown (.one _ _)) (k3.trans (Kp.grown (.one _ _))) k3.len stL_new
end Law
namespace Law
open PySem L2 ML
theorem ints_el {ns : List Int} (h : ∀ n ∈ ns, 0 ≤ n ∧ n < 1000000) : ∀ x ∈ ns.map A.int, El x := fun x hx => by
  obtain ⟨n, hn, rfl⟩ := List.mem_map.mp hx
  exact el_int (h n hn).1 (h n hn).2
theorem el_app {xs ys : List A} (hx : ∀ x ∈ xs, El x) (hy : ∀ y ∈ ys, El y) : ∀ z ∈ xs ++ ys, El z := fun z hz => by
  rcases List.mem_append.mp hz with h | h
  · exact hx z h
  · exact hy z h
end Law
namespace Law
open PySem L2 ML
def m_row_spans : MF := mFn 6 3 (mSeq (mSet 3 (mLst mNil))
    (mSeq (mFor (mSrc (mVar 1)) (.one 4) (mSeq (mSet 5 (mBin addA (mVar 2) (mBin ixA (mFld "NodeTable" "sizes" (mVar 0)) (mVar 4))))
    (mSeq (mExpr (mBm appendA (mVar 3) (mCons (mTup (mCons (mVar 2) (mCons (mVar 5) mNil))) mNil)))
    (mSet 2 (mVar 5)))))
    (mRet (mCa tupleA (mCons (mVar 3) mNil)))))
noncomputable def m_spans_of : MF := mFn 3 1 (mSeq (mSet 1 (mMake "NodeTable" m_NodeTable___init__ mNil))
    (mRet (mCa tupleA (mCons (mLc (mSrc (mCall m_grow (mCons (mVar 1) (mCons (mVar 0) mNil)))) (.one 2) [2] mYes (mCall m_row_spans (mCons (mVar 1) (mCons (mBin ixA (mVar 2) (mC (.int 0))) (mCons (mC (.int 0)) mNil))))) mNil))))
open Classical
def spn (s : Nat) (ns : List Nd) : List A := (List.range ns.length).map fun i => A.tup [.int ((s + szNs (ns.take i) : Nat) : Int), .int ((s + szNs (ns.take (i + 1)) : Nat) : Int)]
theorem spn_len (s : Nat) (ns : List Nd) : (spn s ns).length = ns.length := by simp [spn]
theorem spn_get {s : Nat} {ns : List Nd} {i : Nat} (h : i < ns.length) : (spn s ns)[i]? = some (A.tup [.int ((s + szNs (ns.take i) : Nat) : Int), .int ((s + szNs (ns.take (i + 1)) : Nat) : Int)]) := by
  unfold spn
  rw [List.getElem?_map, List.getElem?_range h]
  rfl
theorem szNs_take1 {ns : List Nd} {i : Nat} {n : Nd} (h : ns[i]? = some n) : szNs (ns.take (i + 1)) = szNs (ns.take i) + szN n := by
  rw [List.take_add_one, h, Option.toList_some, szNs_app]
  simp [szNs]
theorem row_spans_wp {f ns : List Nd} {t r s : Nat} {st : Store} {Q : A → Store → Prop} (hT : Tab f t st) (hr : stL st r = some (ns.map (numA f))) (hm : ∀ n ∈ ns, n ∈ f) (hl : ns.length ≤ 100000) (k : ∀ st', Hold st st' → Q (.tup (spn s ns)) st') : (m_row_spans [.ref t, .ref r, .int (s : Nat)] st).wp Q := by
  simp only [m_row_spans]
  generalize hF : @mFor = F
  rw [wp_fn]
  refine ⟨rfl, ?_⟩
  simp only [List.map_cons, List.map_nil, List.cons_append, List.nil_append, List.replicate, Nat.reduceSub]
  have hz := stL_lt hT.z
  refine seq_cut (fun ρ st' => st' = st ++ [.lst []] ∧ ρ = [some (.ref t), some (.ref r), some (.int (s : Nat)), some (.ref st.length), none, none]) ?_ ?_
  · simp only [sp_set, wp_lst, wp_nil, List.set_cons_zero, List.set_cons_succ]
    exact ⟨by simp [sizeLine], by trivial, by trivial⟩
  rintro ρ st1 ⟨rfl, rfl⟩
  have hr1 : stL (st ++ [Ob.lst []]) r = some (ns.map (numA f)) := Grown.stL (.one _ _) hr
  have hp1 : stL (st ++ [Ob.lst []]) st.length = some [] := stL_new
  have h1 : Hold st (st ++ [Ob.lst []]) := .grown (.one _ _)
  generalize st ++ [Ob.lst []] = st1 at *
  refine seq_cut (fun ρ st' => ∃ v2 v4 v5 : Option A, Hold st st' ∧ stL st' st.length = some (spn s ns) ∧ ρ = [some (.ref t), some (.ref r), v2, some (.ref st.length), v4, v5]) ?_ ?_
  · subst hF
    simp only [sp_for, wp_src, wp_var, List.getElem?_cons_succ, List.getElem?_cons_zero, Option.some.injEq, ex_eq, w_srcL, hr1, Option.isSome_some]
    refine ⟨trivial, ?_⟩
    refine for_lst (fun i ρ st' => ∃ v4 v5 : Option A, Hold st st' ∧ stL st' st.length = some ((List.range i).map fun i => A.tup [.int ((s + szNs (ns.take i) : Nat) : Int), .int ((s + szNs (ns.take (i + 1)) : Nat) : Int)]) ∧ ρ = [some (.ref t), some (.ref r), some (.int ((s + szNs (ns.take i) : Nat) : Int)), some (.ref st.length), v4, v5]) hr1 ⟨none, none, h1, hp1, by simp [szNs]⟩ ?_ ?_ ?_
    · rintro i ρ st2 ⟨v4, v5, h2, p2, rfl⟩
      exact h2.stL hr
    · rintro i x ρ st2 hx ⟨v4, v5, h2, p2, rfl⟩
      rw [List.getElem?_map, Option.map_eq_some_iff] at hx
      obtain ⟨n, hn, rfl⟩ := hx
      have hi := (List.getElem?_eq_some_iff.mp hn).1
      have hat := at_idx (g := szA) (hm n (List.mem_of_getElem? hn))
      have T2 := hT.hold h2
      refine ⟨_, rfl, ?_⟩
      have hs := szNs_take1 hn
      have ei : ((s + szNs (ns.take i) : Nat) : Int) + ((szN n : Nat) : Int) = ((s + szNs (ns.take (i + 1)) : Nat) : Int) := by omega
      simp only [List.set_cons_succ, List.set_cons_zero, sp_seq, sp_set, sp_expr, wp_bm, wp_tup, wp_bin, wp_fld, wp_cons, wp_nil, wp_var, List.getElem?_cons_succ, List.getElem?_cons_zero, Option.some.injEq, ex_eq, insA_of T2.i, tab_siz, numA, w_ixL, T2.z, hat, szA, w_add, ei, isL_ref, p2, Option.isSome_some, true_and, w_append]
      refine ⟨by rw [size_eq]; simp, by rw [size_eq, List.length_map, List.length_range]; omega, _, _, h2.set (Nat.le_refl _), ?_, rfl⟩
      rw [stL_set_self p2, List.range_succ, List.map_append]
      rfl
    · rintro ρ st2 ⟨v4, v5, h2, p2, rfl⟩
      rw [List.length_map] at p2
      exact ⟨_, v4, v5, h2, p2, rfl⟩
  rintro ρ st2 ⟨v2, v4, v5, h2, p2, rfl⟩
  simp only [sp_ret, wp_ca, wp_cons, wp_nil, wp_var, List.getElem?_cons_succ, List.getElem?_cons_zero, Option.some.injEq, ex_eq, w_tupL, p2]
  exact k st2 h2
noncomputable def spnA (ns : List Nd) (i : Nat) : A := .tup (spn 0 (lv ns i))
theorem spans_of_wp {xs : List A} {st : Store} {Q : A → Store → Prop} (hx : ∀ x ∈ xs, El x) (hl : xs.length ≤ 2000) (k : ∀ j st', Hold st st' → (∀ i, i < j → lv (xs.map .leaf) i ≠ []) → lv (xs.map .leaf) j = [] → Q (.tup ((List.range j).map (spnA (xs.map .leaf)))) st') : (m_spans_of [.tup xs] st).wp Q := by
  simp only [m_spans_of]
  have IN := @init_wp
  have GW := @grow_wp
  have RS := @row_spans_wp
  generalize hI : @m_NodeTable___init__ = I at IN ⊢
  generalize hG : @m_grow = G at GW ⊢
  generalize hR : @m_row_spans = R at RS ⊢
  rw [wp_fn]
  refine ⟨rfl, ?_⟩
  simp only [List.map_cons, List.map_nil, List.cons_append, List.nil_append, List.replicate, Nat.reduceSub]
  refine seq_cut (fun ρ st1 => Hold st st1 ∧ Tab [] st.length st1 ∧ ρ = [some (.tup xs), some (.ref st.length), none]) ?_ ?_
  · simp only [sp_set, wp_make, wp_nil, List.set_cons_succ, List.set_cons_zero]
    refine IN fun st1 h1 T1 => ?_
    exact ⟨by trivial, h1, T1, by trivial⟩
  rintro ρ st1 ⟨h1, T1, rfl⟩
  have l1 := h1.len
  have hz1 := stL_lt T1.z
  have hlv := lv_ok hx hl
  generalize hns : xs.map Nd.leaf = ns at *
  simp only [sp_ret, wp_ca, wp_lc, wp_src, wp_call, wp_cons, wp_nil, wp_var, List.getElem?_cons_succ, List.getElem?_cons_zero, Option.some.injEq, ex_eq]
  refine GW T1 hx hl (by simp) fun q rs r j st3 S hj => ?_
  rw [hns] at S hj
  have hq := S.hq
  have hlq := stL_lt hq
  rw [w_srcL, hq]
  refine ⟨rfl, ?_⟩
  have hold3 : Hold st st3 := ⟨Nat.le_trans h1.len S.fr.len, fun i hi => by rw [S.fr.get i (by omega) (.inl (by omega)), h1.get i hi]⟩
  refine lc_lst (fun i st4 acc => Hold st3 st4 ∧ acc = (List.range i).map (spnA ns)) hq ⟨.refl _, rfl⟩ ?_ ?_ ?_
  · rintro i st4 acc ⟨h4, rfl⟩
    exact h4.stL hq
  · rintro i x st4 acc hx4 ⟨h4, rfl⟩
    rw [List.getElem?_map, Option.map_eq_some_iff] at hx4
    obtain ⟨i', hi', rfl⟩ := hx4
    have hij : i < j := by
      have := (List.getElem?_eq_some_iff.mp hi').1
      rwa [List.length_range] at this
    have ei : i' = i := by
      rw [List.getElem?_range hij] at hi'
      exact (Option.some.inj hi').symm
    subst ei
    obtain ⟨r1, r2, r3⟩ := S.hrs i' hij
    have hilt := (hlv i').small
    refine ⟨_, rfl, ?_⟩
    have i0 : ∀ a b c d : A, atI [a, b, c, d] 0 = some a := fun _ _ _ _ => rfl
    generalize hrv : rs.getD i' 0 = rv at *
    simp only [LvA, wipeA_cons, wipeA_nil, wp_yes, if_true, wp_call, wp_bin, wp_cons, wp_nil, wp_var, wp_c, List.set_cons_succ, List.set_cons_zero, List.getElem?_cons_succ, List.getElem?_cons_zero, Option.some.injEq, ex_eq, w_ixT, i0]
    refine RS (s := 0) (S.tb.hold h4) (h4.stL r3) (fun n hn => lv_in (Nat.le_of_lt hij) hn) (by omega) fun st5 h5 => ⟨by rw [size_eq, List.length_map, List.length_range]; have := few_levels (hlv i') hl (S.ne i' hij); omega, h4.trans h5, ?_⟩
    rw [List.range_succ, List.map_append]
    rfl
  · rintro st4 acc ⟨h4, rfl⟩
    rw [List.length_map, List.length_range, w_tupL]
    exact ⟨_, stL_new, k j _ ((hold3.trans h4).grow (.one _ _)) S.ne hj⟩
end Law
namespace Law
open PySem L2 ML
open Classical
noncomputable def snocG : List Gp → Nd → List Gp
  | [], n => [(n, 1)]
  | [g], n => if g.1 = n then [(n, g.2 + 1)] else [g, (n, 1)]
  | g :: h :: t, n => g :: snocG (h :: t) n
theorem grp_snoc (n : Nd) : ∀ xs : List Nd, grp (xs ++ [n]) = snocG (grp xs) n
  | [] => rfl
  | x :: r => by
    have ih := grp_snoc n r
    show grp (x :: (r ++ [n])) = _
    simp only [grp]
    rw [ih]
    cases e : grp r with
    | nil =>
      simp only [snocG]
      by_cases c : n = x
      · subst c
        simp
      · rw [if_neg c, if_neg (fun q => c q.symm)]
    | cons g gs =>
      cases gs with
      | nil =>
        simp only [snocG]
        by_cases c : g.1 = n
        · rw [if_pos c]
          simp only
          by_cases d : g.1 = x
          · have d2 : n = x := by rw [← c, d]
            rw [if_pos d, if_pos d2]
            simp only [snocG]
            rw [if_pos d2.symm, d2]
          · have d2 : ¬ n = x := fun q => d (by rw [c, q])
            rw [if_neg d, if_neg d2]
            simp only [snocG]
            rw [if_pos c]
        · rw [if_neg c]
          simp only
          by_cases d : g.1 = x
          · have d2 : ¬ x = n := fun q => c (by rw [d, q])
            rw [if_pos d, if_pos d]
            simp only [snocG]
            rw [if_neg d2]
          · rw [if_neg d, if_neg d]
            simp only [snocG]
            rw [if_neg c]
      | cons h t =>
        simp only [snocG]
        by_cases d : g.1 = x
        · rw [if_pos d, if_pos d]
          simp only [snocG]
        · rw [if_neg d, if_neg d]
          simp only [snocG]
theorem snocG_last (n : Nd) (g : Gp) : ∀ pre : List Gp, snocG (pre ++ [g]) n = if g.1 = n then pre ++ [(n, g.2 + 1)] else pre ++ [g, (n, 1)]
  | [] => by simp only [List.nil_append, snocG]
  | a :: r => by
    have ih := snocG_last n g r
    cases r with
    | nil =>
      simp only [List.nil_append, List.cons_append, snocG]
      split <;> rfl
    | cons b t =>
      simp only [List.cons_append, snocG] at ih ⊢
      rw [ih]
      split <;> rfl
end Law
namespace Law
open PySem L2 ML
open Classical
def slc {α : Type} : List Nat → List α → List (List α)
  | a :: b :: E, xs => (xs.take b).drop a :: slc (b :: E) xs
  | _, _ => []
theorem slc_app {α : Type} (m : Nat) (B : List Nat) (xs : List α) : ∀ A : List Nat, slc (A ++ m :: B) xs = slc (A ++ [m]) xs ++ slc (m :: B) xs
  | [] => by simp [slc]
  | [a] => by simp [slc]
  | a :: b :: A => by
    have := slc_app m B xs (b :: A)
    simp only [List.cons_append] at this
    simp only [List.cons_append, slc, this]
theorem slc_len {α : Type} (xs : List α) : ∀ E : List Nat, (slc E xs).length = E.length - 1
  | [] => rfl
  | [a] => rfl
  | a :: b :: E => by simp only [slc, List.length_cons, slc_len xs (b :: E)]; omega
theorem slc_get {α : Type} (xs : List α) : ∀ (E : List Nat) (i : Nat), i + 1 < E.length → (slc E xs)[i]? = some ((xs.take (E.getD (i + 1) 0)).drop (E.getD i 0))
  | [], i, h => by simp at h
  | [a], i, h => by simp at h
  | a :: b :: E, 0, h => by simp [slc]
  | a :: b :: E, i + 1, h => by
    have := slc_get xs (b :: E) i (by simpa using h)
    simp only [slc, List.getElem?_cons_succ, this]
    simp
theorem cuts_slc {α : Type} (ss : List Nat) (xs : List α) : cutsN ss xs = slc (ss ++ [xs.length]) xs := by
  refine List.ext_getElem? fun i => ?_
  by_cases h : i < ss.length
  · rw [cutsN_get h, slc_get _ _ _ (by simp; omega)]
    congr 2
    · rw [List.getD_eq_getElem?_getD, List.getD_eq_getElem?_getD, List.getElem?_append_left h]
    · congr 1
      rw [List.getD_eq_getElem?_getD, List.getD_eq_getElem?_getD]
      by_cases h2 : i + 1 < ss.length
      · rw [List.getElem?_append_left h2, List.getElem?_eq_getElem h2]
        rfl
      · have e : i + 1 = ss.length := by omega
        rw [e, List.getElem?_append_right (Nat.le_refl _), List.getElem?_eq_none (Nat.le_refl _)]
        simp
  · rw [List.getElem?_eq_none (by rw [cutsN_len]; omega), List.getElem?_eq_none (by rw [slc_len]; simp; omega)]
theorem asc_split (p q : Nat → Bool) (hp : ∀ a b, a < b → p a = false → p b = false) (hq : ∀ a b, a < b → q b = true → q a = true) : ∀ E : List Nat, E.Pairwise (· < ·) → ∃ A M B, E = A ++ (M ++ B) ∧ (∀ a ∈ A, p a = true) ∧ (∀ m ∈ M, p m = false ∧ q m = true) ∧ ∀ b ∈ B, p b = false ∧ q b = false
  | [], _ => ⟨[], [], [], rfl, by simp, by simp, by simp⟩
  | e :: E, h => by
    obtain ⟨h1, h2⟩ := List.pairwise_cons.mp h
    obtain ⟨A, M, B, e0, hA, hM, hB⟩ := asc_split p q hp hq E h2
    by_cases c : p e = true
    · exact ⟨e :: A, M, B, by rw [e0]; rfl, fun a ha => by
        rcases List.mem_cons.mp ha with z | z
        · rw [z]; exact c
        · exact hA a z, hM, hB⟩
    · have c' : p e = false := by simpa using c
      have nA : A = [] := by
        cases A with
        | nil => rfl
        | cons a A =>
          have := hp e a (h1 a (by rw [e0]; simp)) c'
          rw [hA a (by simp)] at this
          cases this
      subst nA
      by_cases d : q e = true
      · exact ⟨[], e :: M, B, by rw [e0]; rfl, by simp, fun m hm => by
          rcases List.mem_cons.mp hm with z | z
          · rw [z]; exact ⟨c', d⟩
          · exact hM m z, hB⟩
      · have d' : q e = false := by simpa using d
        have nM : M = [] := by
          cases M with
          | nil => rfl
          | cons a M =>
            have := hq e a (h1 a (by rw [e0]; simp)) (hM a (by simp)).2
            rw [d'] at this
            cases this
        subst nM
        exact ⟨[], [], e :: B, by rw [e0]; rfl, by simp, by simp, fun b hb => by
          rcases List.mem_cons.mp hb with z | z
          · rw [z]; exact ⟨c', d'⟩
          · exact hB b z⟩
theorem asc_extN : ∀ {xs ys : List Nat}, xs.Pairwise (· < ·) → ys.Pairwise (· < ·) → (∀ z, z ∈ xs ↔ z ∈ ys) → xs = ys
  | [], [], _, _, _ => rfl
  | [], y :: ys, _, _, h => by have := (h y).mpr (by simp); simp at this
  | x :: xs, [], _, _, h => by have := (h x).mp (by simp); simp at this
  | x :: xs, y :: ys, hx, hy, h => by
    obtain ⟨x1, x2⟩ := List.pairwise_cons.mp hx
    obtain ⟨y1, y2⟩ := List.pairwise_cons.mp hy
    have e : x = y := by
      rcases List.mem_cons.mp ((h x).mp (by simp)) with z | z
      · exact z
      · rcases List.mem_cons.mp ((h y).mpr (by simp)) with w | w
        · exact w.symm
        · have := x1 y w
          have := y1 x z
          omega
    subst e
    congr 1
    refine asc_extN x2 y2 fun z => ⟨fun q => ?_, fun q => ?_⟩
    · have := x1 z q
      rcases List.mem_cons.mp ((h z).mp (List.mem_cons_of_mem _ q)) with p | p
      · omega
      · exact p
    · have := y1 z q
      rcases List.mem_cons.mp ((h z).mpr (List.mem_cons_of_mem _ q)) with p | p
      · omega
      · exact p
theorem few_gaps : ∀ (l : List Nat) (lo hi : Nat), (∀ x ∈ l, lo ≤ x ∧ x < hi) → l.Pairwise (fun a b => a + 2 ≤ b) → 2 * l.length ≤ hi - lo + 1
  | [], _, _, _, _ => by simp
  | a :: l, lo, hi, h, hp => by
    obtain ⟨p1, p2⟩ := List.pairwise_cons.mp hp
    have h0 := h a (by simp)
    have ih := few_gaps l (a + 2) hi (fun x hx => ⟨p1 x hx, (h x (by simp [hx])).2⟩) p2
    simp only [List.length_cons]
    cases l with
    | nil => simp; omega
    | cons b l =>
      have := p1 b (by simp)
      have := h b (by simp)
      omega
theorem gap_of {α : Type} (xs : List α) : ∀ E : List Nat, E.Pairwise (· < ·) → (∀ e ∈ E, e ≤ xs.length) → (∀ p ∈ slc E xs, 2 ≤ p.length) → E.Pairwise (fun a b => a + 2 ≤ b)
  | [], _, _, _ => List.Pairwise.nil
  | [a], _, _, _ => by simp
  | a :: b :: E, h, hl, hs => by
    obtain ⟨h1, h2⟩ := List.pairwise_cons.mp h
    have ih := gap_of xs (b :: E) h2 (fun e he => hl e (by simp [he])) (fun p hp => hs p (by simp [slc, hp]))
    have h3 := hs ((xs.take b).drop a) (by simp [slc])
    rw [List.length_drop, List.length_take] at h3
    refine List.pairwise_cons.mpr ⟨fun c hc => ?_, ih⟩
    rcases List.mem_cons.mp hc with z | z
    · rw [z]; omega
    · have := (List.pairwise_cons.mp h2).1 c z
      omega
noncomputable def edg (xs : List Nd) : List Nat := startsL (colsZ xs) ++ [xs.length]
theorem prts_slc (xs : List Nd) : prts xs = slc (edg xs) xs := cuts_slc _ _
theorem edg_asc {xs : List Nd} (h : xs ≠ []) : (edg xs).Pairwise (· < ·) := by
  unfold edg
  refine List.pairwise_append.mpr ⟨starts_asc _, by simp, fun a ha b hb => ?_⟩
  rw [List.mem_singleton.mp hb]
  obtain ⟨i, hi⟩ := List.mem_iff_getElem?.mp ha
  obtain ⟨hl, e⟩ := List.getElem?_eq_some_iff.mp hi
  have := starts_lt hl
  rw [colsZ_len, e] at this
  exact this
theorem edg_le {xs : List Nd} (h : xs ≠ []) : ∀ e ∈ edg xs, e ≤ xs.length := fun e he => by
  unfold edg at he
  rcases List.mem_append.mp he with z | z
  · obtain ⟨i, hi⟩ := List.mem_iff_getElem?.mp z
    obtain ⟨hl, q⟩ := List.getElem?_eq_some_iff.mp hi
    have := starts_lt hl
    rw [colsZ_len, q] at this
    omega
  · rw [List.mem_singleton.mp z]
    exact Nat.le_refl _
theorem edg_zero {xs : List Nd} (h : xs ≠ []) : ∃ E, edg xs = 0 :: E := by
  unfold edg startsL
  rw [if_neg (fun e => h (by have := congrArg List.length e; rw [colsZ_len] at this; exact List.length_eq_zero_iff.mp this))]
  exact ⟨_, rfl⟩
theorem edg_mem {xs : List Nd} {j : Nat} (h2 : 2 ≤ j) (h3 : j + 1 < xs.length) : j ∈ edg xs ↔ isPk (colsZ xs) j := by
  unfold edg
  rw [List.mem_append, List.mem_singleton]
  constructor
  · rintro (z | z)
    · rcases starts_mem z with e | e
      · omega
      · exact e.2.2
    · omega
  · exact fun z => .inl (starts_of_pk h2 (by rw [colsZ_len]; exact h3) z)
structure AgrI (xs ys : List Nd) (L : Nat) : Prop where
  len : L + xs.length ≤ ys.length
  get : ∀ j, 1 ≤ j → j + 1 < xs.length → ys[L + j]? = xs[j]?
theorem AgrI.col {xs ys : List Nd} {L j : Nat} (h : AgrI xs ys L) (h6 : 6 ≤ j) (hj : j + 1 < xs.length) : (colsZ ys).getD (L + j) 0 = (colsZ xs).getD j 0 := by
  unfold colsZ
  rw [intsN_get, intsN_get]
  congr 1
  have := h.len
  refine col_loc (by omega) (by omega) (by omega) (by omega) fun t ht => ?_
  rw [show L + j - t = L + (j - t) by omega]
  exact h.get _ (by omega) (by omega)
theorem AgrI.edge {xs ys : List Nd} {L m : Nat} (h : AgrI xs ys L) (h7 : 7 ≤ m) (hm : m + 3 ≤ xs.length) : L + m ∈ edg ys ↔ m ∈ edg xs := by
  have := h.len
  rw [edg_mem (by omega) (by omega), edg_mem (by omega) (by omega)]
  unfold isPk
  rw [show L + m - 1 = L + (m - 1) by omega, show L + m + 1 = L + (m + 1) by omega, h.col (by omega) (by omega), h.col (by omega) (by omega), h.col (by omega) (by omega)]
theorem AgrI.slc {xs ys : List Nd} {L : Nat} (h : AgrI xs ys L) : ∀ M : List Nat, (∀ m ∈ M, 1 ≤ m ∧ m + 1 ≤ xs.length) → slc (M.map (L + ·)) ys = slc M xs
  | [], _ => rfl
  | [a], _ => rfl
  | a :: b :: M, hm => by
    have ih := h.slc (b :: M) fun m q => hm m (by simp at q ⊢; exact .inr q)
    simp only [List.map_cons] at ih
    simp only [List.map_cons, Law.slc, ih]
    congr 1
    have h1 := hm a (by simp)
    have h2 := hm b (by simp)
    refine List.ext_getElem? fun i => ?_
    rw [List.getElem?_drop, List.getElem?_drop, List.getElem?_take, List.getElem?_take]
    by_cases c : a + i < b
    · rw [if_pos (by omega), if_pos c, show L + a + i = L + (a + i) by omega]
      exact h.get _ (by omega) (by omega)
    · rw [if_neg (by omega), if_neg c]
theorem grp_right : ∀ (Q X : List Nd) {init : List Gp} {g : Gp}, grp X = init ++ [g] → ∃ (t : Nat) (B : List Gp), grp (X ++ Q) = init ++ (g.1, t) :: B ∧ B.length ≤ Q.length
  | [], X, init, g, h => ⟨g.2, [], by rw [List.append_nil, h], Nat.le_refl _⟩
  | q :: Q, X, init, g, h => by
    have e : grp (X ++ [q]) = _ := grp_snoc q X
    rw [h, snocG_last] at e
    rw [show X ++ q :: Q = (X ++ [q]) ++ Q by simp]
    by_cases c : g.1 = q
    · rw [if_pos c] at e
      obtain ⟨t, B, e2, hl⟩ := grp_right Q (X ++ [q]) e
      exact ⟨t, B, by rw [e2, c], by simp; omega⟩
    · rw [if_neg c, show init ++ [g, (q, 1)] = (init ++ [g]) ++ [(q, 1)] by simp] at e
      obtain ⟨t, B, e2, hl⟩ := grp_right Q (X ++ [q]) e
      exact ⟨g.2, (q, t) :: B, by rw [e2]; simp, by simp; omega⟩
theorem grp_lenB {X Q : List Nd} : (grp (X ++ Q)).length ≤ (grp X).length + Q.length := by
  by_cases hx : X = []
  · subst hx
    simp only [List.nil_append]
    have := grp_len Q
    omega
  have hn := grp_ne hx
  obtain ⟨init, g, e⟩ : ∃ init g, grp X = init ++ [g] := ⟨(grp X).dropLast, (grp X).getLast hn, (List.dropLast_concat_getLast _).symm⟩
  obtain ⟨t, B, e2, hl⟩ := grp_right Q X e
  rw [e2, e]
  simp
  omega
end Law
namespace Law
open PySem L2 ML
open Classical
def RsOk (N : Nat) : Nat → List (Nat × Nat) → Prop
  | _, [] => True
  | p, r :: rs => p ≤ r.1 ∧ r.1 ≤ r.2 + 1 ∧ r.2 ≤ N ∧ RsOk N (r.2 + 1) rs
theorem RsOk.lo {N : Nat} : ∀ {rs : List (Nat × Nat)} {p : Nat}, RsOk N p rs → ∀ r ∈ rs, p ≤ r.1
  | [], _, _, _, h => by cases h
  | r :: rs, p, ⟨h1, h2, h3, h4⟩, q, hq => by
    rcases List.mem_cons.mp hq with z | z
    · rw [z]; exact h1
    · have := h4.lo q z
      omega
end Law
namespace Law
open PySem L2 ML
open Classical
noncomputable def numK (f : List Nd) (n : Nd) : NestedKey := .num (idx f n : Nat)
theorem numK_inj {f : List Nd} {m n : Nd} (hm : m ∈ f) (hn : n ∈ f) (h : numK f m = numK f n) : m = n := by
  unfold numK at h
  simp only [NestedKey.num.injEq, Int.ofNat_inj] at h
  exact idx_inj hm hn h
theorem atK {f P : List Nd} {n : Nd} (hP : ∀ m ∈ P, m ∈ f) (hn : n ∈ f) : atD (numG (numK f) 0 P) (numK f n) = if n ∈ P then some (.int (idx P n : Nat)) else none := by
  rw [atD_num fun m hm e => numK_inj (hP m hm) hn e]
  simp
theorem fitK {f P : List Nd} {n : Nd} : fitD (numG (numK f) 0 P) (numK f n) = true := by
  unfold fitD
  rw [Bool.and_eq_true, Bool.and_eq_true]
  refine ⟨by simp [numK, NestedKey.depth], by simp [numK], ?_⟩
  rw [List.all_eq_true]
  intro kv hkv
  obtain ⟨m, _, e⟩ := numG_key hkv
  rw [e]
  rfl
theorem keyK (f : List Nd) (n : Nd) : keyOf (numA f n) = some (numK f n) := rfl
structure Plc (f P : List Nd) (t rp : Nat) (st : Store) : Prop where
  tb : Tab f t st
  c : Clo P
  s : ∀ m ∈ P, m ∈ f
  d : ML.stD st rp = some (numG (numK f) 0 P)
  r : rp < t ∨ t + 4 < rp
theorem Plc.hold {f P : List Nd} {t rp : Nat} {st st' : Store} (h : Plc f P t rp st) (k : Hold st st') : Plc f P t rp st' := ⟨h.tb.hold k, h.c, h.s, by
  have := h.d
  have hl := stD_lt h.d
  unfold ML.stD at this ⊢
  rw [k.get rp hl]
  exact this, h.r⟩
theorem Plc.put {f P : List Nd} {t rp : Nat} {st : Store} {nd : Nd} (h : Plc f P t rp st) (hn : nd ∈ f) (hp : nd ∉ P) (hk : ∀ c ∈ kids nd, c ∈ P) (hl : P.length < 1000000) :
    ∃ st', putS (.ref rp) (numA f nd) (.int (P.length : Nat)) st = some st' ∧ Fr2 rp rp st st' ∧ Plc f (P ++ [nd]) t rp st' := by
  have hat := atK h.s hn
  rw [if_neg hp] at hat
  have e := put_eq (v := .int (P.length : Nat)) h.d (keyK f nd) fitK (by rw [numG_len, size_eq]; omega)
  have e2 : putD (numG (numK f) 0 P) (numK f nd) (.int (P.length : Nat)) = numG (numK f) 0 (P ++ [nd]) := by
    unfold putD
    rw [hat, numG_app]
    simp
  rw [e2] at e
  have hlt := stD_lt h.d
  refine ⟨_, e, .set1, h.tb.set h.r, ?_, ?_, stD_set_self hlt, h.r⟩
  · have := addN_clo h.c hk
    unfold addN at this
    rwa [if_neg hp] at this
  · intro m hm
    rcases List.mem_append.mp hm with z | z
    · exact h.s m z
    · simp at z
      subst z
      exact hn
end Law
namespace Law
open PySem L2 ML
open Classical
structure Num (f : List Nd) (rn rf : Nat) (st : Store) : Prop where
  c : Clo f
  ok : ∀ m ∈ f, okN m
  d : stD st rn = some (numF f)
  l : stL st rf = some (f.map ndA)
  ne : rn ≠ rf
theorem Num.grown {f : List Nd} {rn rf : Nat} {st st' : Store} (h : Num f rn rf st) (g : Grown st st') : Num f rn rf st' := ⟨h.c, h.ok, Grown.stD g h.d, g.stL h.l, h.ne⟩
end Law
namespace Law
open PySem L2 ML
open Classical
def hgtN : Nd → Nat
  | .leaf _ => 0
  | .run b _ => hgtN b
  | .blk [] => 1
  | .blk (c :: _) => 1 + hgtN c
end Law
namespace Law
open PySem L2 ML
open Classical
theorem find_key {α : Type} {f : List Nd} {n : Nd} (hn : n ∈ f) {val : Nd × α → A} : ∀ {F : List (Nd × α)}, (∀ p ∈ F, p.1 ∈ f) → ((F.map fun p => (numK f p.1, val p)).find? fun kv => decide (kv.1 = numK f n)).map (·.2) = (F.find? fun p => decide (p.1 = n)).map val
  | [], _ => rfl
  | p :: F, h => by
    simp only [List.map_cons, List.find?_cons]
    by_cases e : p.1 = n
    · rw [decide_eq_true (show numK f p.1 = numK f n by rw [e]), decide_eq_true e]
      rfl
    · rw [decide_eq_false (fun z => e (numK_inj (h p (by simp)) hn z)), decide_eq_false e]
      exact find_key hn fun q hq => h q (by simp [hq])
theorem atM {α : Type} {f : List Nd} {n : Nd} {F : List (Nd × α)} {val : Nd × α → A} (h : ∀ p ∈ F, p.1 ∈ f) (hn : n ∈ f) : atD (F.map fun p => (numK f p.1, val p)) (numK f n) = (F.find? fun p => decide (p.1 = n)).map val := find_key hn h
theorem fitM {α : Type} {f : List Nd} {n : Nd} {F : List (Nd × α)} {val : Nd × α → A} : fitD (F.map fun p => (numK f p.1, val p)) (numK f n) = true := by
  unfold fitD
  rw [Bool.and_eq_true, Bool.and_eq_true]
  refine ⟨by simp [numK, NestedKey.depth], by simp [numK], ?_⟩
  rw [List.all_eq_true]
  intro kv hkv
  obtain ⟨p, _, e⟩ := List.mem_map.mp hkv
  rw [← e]
  rfl
def keysN {α : Type} (F : List (Nd × α)) : List Nd := F.map (·.1)
theorem find_none {α : Type} {n : Nd} {F : List (Nd × α)} : (F.find? fun p => decide (p.1 = n)) = none ↔ n ∉ keysN F := by
  rw [List.find?_eq_none]
  unfold keysN
  constructor
  · intro h z
    obtain ⟨p, hp, e⟩ := List.mem_map.mp z
    exact h p hp (decide_eq_true e)
  · intro h p hp e
    exact h (List.mem_map.mpr ⟨p, hp, by simpa using e⟩)
theorem putM {α : Type} {f : List Nd} {n : Nd} {F : List (Nd × α)} {val : Nd × α → A} {x : α} (h : ∀ p ∈ F, p.1 ∈ f) (hn : n ∈ f) (hk : n ∉ keysN F) : putD (F.map fun p => (numK f p.1, val p)) (numK f n) (val (n, x)) = (F ++ [(n, x)]).map fun p => (numK f p.1, val p) := by
  unfold putD
  rw [atM h hn, find_none.mpr hk]
  simp
theorem keys_len {α : Type} {F : List (Nd × α)} {f : List Nd} (hn : (keysN F).Nodup) (h : ∀ p ∈ F, p.1 ∈ f) : F.length ≤ f.length := by
  have := List.Nodup.length_le_of_subset (l₁ := keysN F) (l₂ := f) hn (fun n hm => by
    obtain ⟨p, hp, e⟩ := List.mem_map.mp hm
    rw [← e]
    exact h p hp)
  simpa [keysN] using this
end Law
namespace Law
open PySem L2 ML
open Classical
theorem keys_app {α : Type} {F G : List (Nd × α)} : keysN (F ++ G) = keysN F ++ keysN G := by simp [keysN]
def intV (p : Nd × Nat) : A := .int (p.2 : Nat)
structure PlS (T : List Nd) (P : List (Nd × Nat)) (rs rp : Nat) (st : Store) : Prop where
  d : ML.stD st rp = some (P.map fun p => (numK T p.1, intV p))
  s : stL st rs = some (T.map szA)
  i : ∀ p ∈ P, p.1 ∈ T
  n : (keysN P).Nodup
theorem PlS.ne {T P rs rp st} (h : PlS T P rs rp st) : rs ≠ rp := fun e => by
  have h1 := stL_eq h.s
  have h2 := stD_eq h.d
  rw [e, h2] at h1
  cases h1
theorem PlS.put {T P rs rp st} {nd : Nd} {a : Nat} (h : PlS T P rs rp st) (hT : T.length ≤ 1000000) (hn : nd ∈ T) (hk : nd ∉ keysN P) : ∃ st', putS (.ref rp) (numA T nd) (.int (a : Nat)) st = some st' ∧ Fr2 rp rp st st' ∧ PlS T (P ++ [(nd, a)]) rs rp st' := by
  have hs := size_eq
  have hlt := stD_lt h.d
  have hl := keys_len h.n h.i
  have e := put_eq (v := .int (a : Nat)) h.d (keyK T nd) fitM (by rw [List.length_map, hs]; omega)
  have e2 := putM (val := intV) (x := a) h.i hn hk
  rw [show A.int (a : Nat) = intV (nd, a) from rfl, e2] at e
  refine ⟨_, e, .set1, stD_set_self hlt, ?_, ?_, ?_⟩
  · rw [stL_set_ne' (Ne.symm h.ne)]
    exact h.s
  · intro p hp
    rcases List.mem_append.mp hp with z | z
    · exact h.i p z
    · simp at z
      subst z
      exact hn
  · rw [keys_app, List.nodup_append]
    refine ⟨h.n, by simp [keysN], fun x hx y hy => ?_⟩
    simp [keysN] at hy
    subst hy
    exact fun z => hk (z ▸ hx)
end Law
namespace Law
open PySem L2 ML
open Classical
abbrev BP := Nd × (Nat × Nat)
def cpV (p : BP) : A := .tup [.int (p.2.1 : Nat), .int (p.2.2 : Nat), .int ((p.2.2 + szN p.1 : Nat) : Int)]
end Law
namespace Law
open PySem L2 ML
open Classical
noncomputable def lkp (F : List BP) (n : Nd) : Option BP := F.find? fun p => decide (p.1 = n)
noncomputable def insI (F : List BP) (M : List Nd) (n : Nd) : A := match lkp F n with
  | some p => .tup [.str "copy", .int (p.2.1 : Nat), .int (p.2.2 : Nat), .int ((p.2.2 + szN p.1 : Nat) : Int)]
  | none => match n with
    | .leaf e => .tup [.str "literal", e]
    | .run b t => .tup [.str "repeat", .int (idx M b : Nat), .int (t : Nat)]
    | .blk cs => .tup [.str "concat", .tup (cs.map fun c => .int (idx M c : Nat))]
def MkC (F : List BP) (M : List Nd) : Prop := ∀ m ∈ M, m ∉ keysN F → ∀ c ∈ kids m, c ∈ M
theorem ins_stay {F : List BP} {M g : List Nd} {m : Nd} (hk : m ∉ keysN F → ∀ c ∈ kids m, c ∈ M) : insI F (M ++ g) m = insI F M m := by
  unfold insI
  cases e : lkp F m with
  | some p => rfl
  | none =>
    have hn : m ∉ keysN F := find_none.mp e
    cases m with
    | leaf x => rfl
    | run b t => simp only [idx_app (hk hn b (by simp [kids]))]
    | blk cs =>
      simp only
      congr 3
      simp only [List.cons.injEq, A.tup.injEq, and_true]
      exact List.map_congr_left fun c hc => by rw [idx_app (hk hn c (by simpa [kids] using hc))]
theorem rec_grow {F : List BP} {M : List Nd} {n : Nd} (h : MkC F M) (hk : n ∉ keysN F → ∀ c ∈ kids n, c ∈ M) : (M ++ [n]).map (insI F (M ++ [n])) = M.map (insI F M) ++ [insI F M n] := by
  rw [List.map_append, List.map_cons, List.map_nil, ins_stay hk]
  congr 1
  exact List.map_congr_left fun m hm => ins_stay (h m hm)
structure MkS (f : List Nd) (F : List BP) (T M : List Nd) (rn rf rm rr : Nat) (st : Store) : Prop where
  d : ML.stD st rm = some (numG (numK f) 0 M)
  l : stL st rr = some (M.map (insI F M))
  fo : ML.stD st rf = some (F.map fun p => (numK f p.1, cpV p))
  nu : stL st rn = some (T.map (numA f))
  s : ∀ m ∈ M, m ∈ f
  c : MkC F M
  u : M.Nodup
  ne : rm ≠ rf ∧ rr ≠ rn ∧ rm ≠ rr ∧ rm ≠ rn ∧ rr ≠ rf
structure MkE (f : List Nd) (F : List BP) (T : List Nd) : Prop where
  ct : Clo T
  st : ∀ m ∈ T, m ∈ f
  ok : ∀ m ∈ T, okN m
  fs : ∀ p ∈ F, p.1 ∈ f
  fl : f.length ≤ 900000
theorem nd_len {f M : List Nd} (hs : ∀ m ∈ M, m ∈ f) (hu : M.Nodup) : M.length ≤ f.length := List.Nodup.length_le_of_subset hu hs
structure MkA (f : List Nd) (F : List BP) (T M : List Nd) (nd : Nd) (rn rf rm rr : Nat) (st : Store) : Prop where
  d : ML.stD st rm = some (numG (numK f) 0 M)
  l : stL st rr = some (M.map (insI F M) ++ [insI F M nd])
  fo : ML.stD st rf = some (F.map fun p => (numK f p.1, cpV p))
  nu : stL st rn = some (T.map (numA f))
  s : ∀ m ∈ M, m ∈ f
  c : MkC F M
  u : M.Nodup
  ne : rm ≠ rf ∧ rr ≠ rn ∧ rm ≠ rr ∧ rm ≠ rn ∧ rr ≠ rf
theorem MkS.app {f F T M rn rf rm rr st} {nd : Nd} (S : MkS f F T M rn rf rm rr st) : MkA f F T M nd rn rf rm rr (st.set rr (.lst (M.map (insI F M) ++ [insI F M nd]))) := by
  obtain ⟨n1, n2, n3, n4, n5⟩ := S.ne
  refine ⟨?_, stL_set_self S.l, ?_, ?_, S.s, S.c, S.u, S.ne⟩
  · rw [stD_set_ne (Ne.symm n3)]; exact S.d
  · rw [stD_set_ne n5]; exact S.fo
  · rw [stL_set_ne' n2]; exact S.nu
theorem MkA.put {f F T M rn rf rm rr st} {nd : Nd} (S : MkA f F T M nd rn rf rm rr st) (E : MkE f F T) (hn : nd ∈ f) (hni : nd ∉ M) (hk : nd ∉ keysN F → ∀ c ∈ kids nd, c ∈ M) :
    ∃ st', putS (.ref rm) (numA f nd) (.int (M.length : Nat)) st = some st' ∧ Fr2 rm rm st st' ∧ MkS f F T (M ++ [nd]) rn rf rm rr st' := by
  have hs := size_eq
  have hl := nd_len S.s S.u
  have hat := atK S.s hn
  rw [if_neg hni] at hat
  have e := put_eq (v := .int (M.length : Nat)) S.d (keyK f nd) fitK (by have := E.fl; rw [numG_len, hs]; omega)
  have e2 : putD (numG (numK f) 0 M) (numK f nd) (.int (M.length : Nat)) = numG (numK f) 0 (M ++ [nd]) := by
    unfold putD
    rw [hat, numG_app]
    simp
  rw [e2] at e
  have hlt := stD_lt S.d
  obtain ⟨n1, n2, n3, n4, n5⟩ := S.ne
  refine ⟨_, e, .set1, stD_set_self hlt, ?_, ?_, ?_, ?_, ?_, ?_, S.ne⟩
  · rw [stL_set_ne' n3, rec_grow S.c hk]
    exact S.l
  · rw [stD_set_ne n1]; exact S.fo
  · rw [stL_set_ne' n4]; exact S.nu
  · intro m hm
    rcases List.mem_append.mp hm with z | z
    · exact S.s m z
    · simp at z
      subst z
      exact hn
  · intro m hm hk2 c hc
    rcases List.mem_append.mp hm with z | z
    · exact List.mem_append_left _ (S.c m z hk2 c hc)
    · simp at z
      subst z
      exact List.mem_append_left _ (hk hk2 c hc)
  · rw [List.nodup_append]
    refine ⟨S.u, by simp, fun x hx y hy e5 => ?_⟩
    simp at hy
    subst hy
    subst e5
    exact hni hx
theorem MkS.grown {f F T M rn rf rm rr st st'} (S : MkS f F T M rn rf rm rr st) (g : Grown st st') : MkS f F T M rn rf rm rr st' := ⟨Grown.stD g S.d, g.stL S.l, Grown.stD g S.fo, g.stL S.nu, S.s, S.c, S.u, S.ne⟩
end Law
namespace ML
open PySem PySem.Spec L2 PyProof.Rows
section
variable {P : Program} {w : World} {K : PySem.W.Frag} {mg : Str → Option Value} {base : Heap} {cls m qual : Str}
theorem CalM.cast {j k : Nat} {mf : MF} (e : j = k) (C : CalM P w K mg base cls m j mf) : CalM P w K mg base cls m k mf := e ▸ C
end
end ML
namespace Law
open PySem L2 ML
open Classical
def bpV (p : BP) : A := .tup [.int (p.2.1 : Nat), .int (p.2.2 : Nat)]
structure PnS (f : List Nd) (F : List BP) (t rp : Nat) (st : Store) : Prop where
  tb : Tab f t st
  d : ML.stD st rp = some (F.map fun p => (numK f p.1, bpV p))
  i : ∀ p ∈ F, p.1 ∈ f
  n : (keysN F).Nodup
  r : rp < t ∨ t + 4 < rp
theorem PnS.put {f F t rp st} {nd : Nd} {b a : Nat} (h : PnS f F t rp st) (hl : f.length ≤ 1000000) (hn : nd ∈ f) (hk : nd ∉ keysN F) : ∃ st', putS (.ref rp) (numA f nd) (.tup [.int (b : Nat), .int (a : Nat)]) st = some st' ∧ Fr2 rp rp st st' ∧ PnS f (F ++ [(nd, (b, a))]) t rp st' := by
  have hs := size_eq
  have hlt := stD_lt h.d
  have hlF := keys_len h.n h.i
  have e := put_eq (v := bpV (nd, (b, a))) h.d (keyK f nd) fitM (by rw [List.length_map, hs]; omega)
  rw [putM (val := bpV) (x := ((b, a) : Nat × Nat)) h.i hn hk] at e
  refine ⟨_, e, .set1, h.tb.set h.r, stD_set_self hlt, ?_, ?_, h.r⟩
  · intro p hp
    rcases List.mem_append.mp hp with z | z
    · exact h.i p z
    · simp at z
      subst z
      exact hn
  · rw [keys_app, List.nodup_append]
    refine ⟨h.n, by simp [keysN], fun x hx y hy => ?_⟩
    simp [keysN] at hy
    subst hy
    exact fun z => hk (z ▸ hx)
def rmFs (t rp rr ri : Nat) : List (Str × A) := [("table", .ref t), ("places", .ref rp), ("recipe", .ref rr), ("indices", .ref ri)]
@[simp] theorem rm_tab (t rp rr ri : Nat) : List.lookup ("table" : Str) (rmFs t rp rr ri) = some (.ref t) := rfl
@[simp] theorem rm_pla (t rp rr ri : Nat) : List.lookup ("places" : Str) (rmFs t rp rr ri) = some (.ref rp) := rfl
@[simp] theorem rm_rec (t rp rr ri : Nat) : List.lookup ("recipe" : Str) (rmFs t rp rr ri) = some (.ref rr) := rfl
@[simp] theorem rm_ind (t rp rr ri : Nat) : List.lookup ("indices" : Str) (rmFs t rp rr ri) = some (.ref ri) := rfl
@[simp] theorem rm_vis (t rp rr ri : Nat) : List.lookup ("visit" : Str) (rmFs t rp rr ri) = none := rfl
@[simp] theorem rm_ins (t rp rr ri : Nat) : List.lookup ("instruction_for" : Str) (rmFs t rp rr ri) = none := rfl
@[simp] theorem rm_vit (t rp rr ri : Nat) : List.lookup ("visit_tree" : Str) (rmFs t rp rr ri) = none := rfl
structure ReS (f : List Nd) (F : List BP) (M : List Nd) (t rp rm rr ri : Nat) (st : Store) : Prop where
  p : PnS f F t rp st
  i : st[rm]? = some (.oth (.ins "RecipeMaker" (rmFs t rp rr ri)))
  l : stL st rr = some (M.map (insI F M))
  d : ML.stD st ri = some (numG (numK f) 0 M)
  s : ∀ m ∈ M, m ∈ f
  c : MkC F M
  u : M.Nodup
  ne : (t + 4 < rr ∧ t + 4 < ri) ∧ rr ≠ rp ∧ ri ≠ rp ∧ rr ≠ rm ∧ ri ≠ rm ∧ rr ≠ ri
theorem PnS.set {f F t rp st} {r : Nat} {o : Ob} (h : PnS f F t rp st) (hr : t + 4 < r) (h2 : r ≠ rp) : PnS f F t rp (st.set r o) := ⟨h.tb.set (.inr hr), by rw [stD_set_ne h2]; exact h.d, h.i, h.n, h.r⟩
theorem PnS.grown {f F t rp st st'} (h : PnS f F t rp st) (g : Grown st st') : PnS f F t rp st' := ⟨h.tb.grown g, Grown.stD g h.d, h.i, h.n, h.r⟩
theorem ReS.grown {f F M t rp rm rr ri st st'} (h : ReS f F M t rp rm rr ri st) (g : Grown st st') : ReS f F M t rp rm rr ri st' := ⟨h.p.grown g, g.get h.i, g.stL h.l, Grown.stD g h.d, h.s, h.c, h.u, h.ne⟩
theorem ReS.put {f F M t rp rm rr ri st} {nd : Nd} (S : ReS f F M t rp rm rr ri st) (hfl : f.length ≤ 900000) (hn : nd ∈ f) (hni : nd ∉ M) (hk : nd ∉ keysN F → ∀ c ∈ kids nd, c ∈ M) :
    ∃ st1, putS (.ref ri) (numA f nd) (.int (M.length : Nat)) st = some st1 ∧ stL st1 rr = some (M.map (insI F M)) ∧ st1[rm]? = some (.oth (.ins "RecipeMaker" (rmFs t rp rr ri))) ∧ Fr2 rr ri st (st1.set rr (.lst (M.map (insI F M) ++ [insI F M nd]))) ∧ ReS f F (M ++ [nd]) t rp rm rr ri (st1.set rr (.lst (M.map (insI F M) ++ [insI F M nd]))) := by
  have hs := size_eq
  have hl := nd_len S.s S.u
  have hat := atK S.s hn
  rw [if_neg hni] at hat
  have e := put_eq (v := .int (M.length : Nat)) S.d (keyK f nd) fitK (by rw [numG_len, hs]; omega)
  have e2 : putD (numG (numK f) 0 M) (numK f nd) (.int (M.length : Nat)) = numG (numK f) 0 (M ++ [nd]) := by
    unfold putD
    rw [hat, numG_app]
    simp
  rw [e2] at e
  have hlt := stD_lt S.d
  obtain ⟨⟨n1, n2⟩, n3, n4, n5, n6, n7⟩ := S.ne
  have hrr : stL (st.set ri (.oth (.dct (numG (numK f) 0 (M ++ [nd]))))) rr = some (M.map (insI F M)) := by rw [stL_set_ne' (Ne.symm n7)]; exact S.l
  refine ⟨_, e, hrr, ?_, ⟨by simp, fun j hj h1 h2 => by rw [List.getElem?_set_ne (Ne.symm h1), List.getElem?_set_ne (Ne.symm h2)]⟩, (S.p.set n2 n4).set n1 n3, ?_, ?_, ?_, ?_, ?_, ?_, S.ne⟩
  · rw [List.getElem?_set_ne n6]; exact S.i
  · rw [List.getElem?_set_ne n5, List.getElem?_set_ne n6]; exact S.i
  · rw [stL_set_self hrr, rec_grow S.c hk]
  · rw [stD_set_ne n7]
    exact stD_set_self hlt
  · intro m hm
    rcases List.mem_append.mp hm with z | z
    · exact S.s m z
    · simp at z
      subst z
      exact hn
  · intro m hm hk2 c hc
    rcases List.mem_append.mp hm with z | z
    · exact List.mem_append_left _ (S.c m z hk2 c hc)
    · simp at z
      subst z
      exact List.mem_append_left _ (hk hk2 c hc)
  · rw [List.nodup_append]
    refine ⟨S.u, by simp, fun x hx y hy e5 => ?_⟩
    simp at hy
    subst hy
    subst e5
    exact hni hx
end Law
namespace Law
open PySem L2 ML
def bAt (Bs : List (List A)) (b : Int) : List A := Bs.getD b.toNat []
def BsL (Bs : List (List A)) (rs : List A) (st : Store) : Prop := rs.length = Bs.length ∧ ∀ (i : Nat) (x : A), rs[i]? = some x → ∃ r : Nat, x = A.ref r ∧ stL st r = Bs[i]?
theorem BsL.grown {Bs : List (List A)} {rs : List A} {st st' : Store} (h : BsL Bs rs st) (g : Grown st st') : BsL Bs rs st' := ⟨h.1, fun i x e => by
  obtain ⟨r, h1, h2⟩ := h.2 i x e
  have hi := (List.getElem?_eq_some_iff.mp e).1
  rw [h.1] at hi
  refine ⟨r, h1, ?_⟩
  rw [List.getElem?_eq_getElem hi] at h2 ⊢
  exact g.stL h2⟩
theorem BsL.at {Bs : List (List A)} {rs : List A} {st : Store} (h : BsL Bs rs st) {b : Int} (b0 : 0 ≤ b) (b1 : b < (Bs.length : Int)) : ∃ r : Nat, atI rs b = some (.ref r) ∧ stL st r = some (bAt Bs b) := by
  have hr := h.1
  have hlt : b.toNat < rs.length := by omega
  obtain ⟨r, hx, hs⟩ := h.2 b.toNat _ (List.getElem?_eq_getElem hlt)
  refine ⟨r, ?_, ?_⟩
  · rw [atI_nn b0, List.getElem?_eq_getElem hlt, hx]
  · rw [hs]
    unfold bAt
    rw [List.getD_eq_getElem?_getD, List.getElem?_eq_getElem (by omega)]
    rfl
def Refs1 (rs : List A) : Prop := ∀ (i r : Nat), rs[i]? = some (.ref r) → 1 < r
theorem BsL.kp {Bs : List (List A)} {rs : List A} {st st' : Store} (h : BsL Bs rs st) (h1 : Refs1 rs) (g : Kp st st') : BsL Bs rs st' := ⟨h.1, fun i x e => by
  obtain ⟨r, q1, q2⟩ := h.2 i x e
  have hi := (List.getElem?_eq_some_iff.mp e).1
  rw [h.1] at hi
  refine ⟨r, q1, ?_⟩
  subst q1
  have hr := h1 i r e
  rw [List.getElem?_eq_getElem hi] at q2 ⊢
  exact g.stL hr q2⟩
structure BaI (N : Nat) (Bs : List (List A)) (rs : List A) (rb : Nat) (st : Store) : Prop where
  b : BsL Bs rs st
  r1 : Refs1 rs
  l : stL st rb = some rs
  rb1 : 1 < rb
  n : Bs.length ≤ N
  m : ∀ B ∈ Bs, B.length ≤ 700 ∧ ∀ x ∈ B, El x
theorem BaI.kp {N : Nat} {Bs : List (List A)} {rs : List A} {rb : Nat} {st st' : Store} (h : BaI N Bs rs rb st) (g : Kp st st') : BaI N Bs rs rb st' := ⟨h.b.kp h.r1 g, h.r1, g.stL h.rb1 h.l, h.rb1, h.n, h.m⟩
theorem BaI.bl {N : Nat} {Bs : List (List A)} {rs : List A} {rb : Nat} {st : Store} (h : BaI N Bs rs rb st) (b : Int) : (bAt Bs b).length ≤ 700 ∧ ∀ x ∈ bAt Bs b, El x := by
  unfold bAt
  rw [List.getD_eq_getElem?_getD]
  cases e : Bs[b.toNat]? with
  | none => simp
  | some B => exact h.m B (List.mem_of_getElem? e)
theorem cut_to {xs : List A} {m : Int} (h0 : 0 ≤ m) : cutA xs none (some m) = xs.take m.toNat := by
  unfold cutA
  have n1 : ¬ m < 0 := by omega
  simp [HT.sIx, n1]
theorem cut_from {xs : List A} {m : Int} (h0 : 0 ≤ m) : cutA xs (some m) none = xs.drop m.toNat := by
  unfold cutA
  have n1 : ¬ m < 0 := by omega
  simp [HT.sIx, n1]
  rcases Nat.le_total m.toNat xs.length with h | h
  · rw [Nat.min_eq_left h, List.take_of_length_le (by simp)]
  · rw [Nat.min_eq_right h, List.drop_of_length_le (Nat.le_refl _), List.drop_of_length_le h]
    simp
end Law
namespace Law
open PySem L2 ML
open Classical
def hgA (n : Nd) : A := .int (hgtN n : Nat)
theorem drawQ {st : Store} {many : Int} {Q : A → Store → Prop} (t : TpOk st) (hm : many.natAbs < 2 ^ 200) (k : ∀ (n : Nat) st', (n : Int) < max many 1 → TpOk st' → Kp st st' → st'.length = st.length → Q (.int (n : Nat)) st') : (m_law_draw [.ref 1, .int many] st).wp Q :=
  draw_wp t hm fun n st' n0 n1 t' k' l' => by
    obtain ⟨m, rfl⟩ := Int.eq_ofNat_of_zero_le n0
    exact k m st' n1 t' k' l'
structure Bss (Bs : List (List A)) (rb : Nat) (rs : List A) (st : Store) : Prop where
  hb : stL st rb = some rs
  b1 : 1 < rb
  RB : BsL Bs rs st
  fB : Refs1 rs
  n : Bs.length ≤ 3
  l : ∀ B ∈ Bs, (∀ x ∈ B, El x) ∧ B.length ≤ 2000
theorem Bss.kp {Bs : List (List A)} {rb : Nat} {rs : List A} {st st' : Store} (h : Bss Bs rb rs st) (k : Kp st st') : Bss Bs rb rs st' := ⟨k.stL h.b1 h.hb, h.b1, h.RB.kp h.fB k, h.fB, h.n, h.l⟩
end Law
namespace Law
open PySem L2 ML
open Classical
noncomputable def stE (xs : List Nd) : List Nat := (edg xs).filter fun e => decide (e + 3 ≤ xs.length)
noncomputable def stB (xs : List Nd) : List (List Nd) := slc (stE xs) xs
noncomputable def stN (ns : List Nd) : List Nd := (stB (itms ns)).map Nd.blk
noncomputable def stS (xs : List Nd) : Nat := (stE xs).getLastD 0
theorem stE_mem {xs : List Nd} {e : Nat} : e ∈ stE xs ↔ e + 3 ≤ xs.length ∧ (e = 0 ∨ (2 ≤ e ∧ isPk (colsZ xs) e)) := by
  unfold stE
  rw [List.mem_filter, decide_eq_true_eq]
  constructor
  · rintro ⟨h1, h2⟩
    refine ⟨h2, ?_⟩
    unfold edg at h1
    rcases List.mem_append.mp h1 with z | z
    · rcases starts_mem z with q | q
      · exact .inl q
      · exact .inr ⟨q.1, q.2.2⟩
    · rw [List.mem_singleton.mp z] at h2
      omega
  · rintro ⟨h1, h2⟩
    refine ⟨?_, h1⟩
    rcases h2 with rfl | ⟨h2, h3⟩
    · obtain ⟨E, hE⟩ := edg_zero (xs := xs) (fun e => by rw [e, List.length_nil] at h1; omega)
      rw [hE]
      simp
    · exact (edg_mem h2 (by omega)).mpr h3
theorem stE_asc (xs : List Nd) : (stE xs).Pairwise (· < ·) := by
  unfold stE
  by_cases h : xs = []
  · subst h
    have : (edg ([] : List Nd)).filter (fun e => decide (e + 3 ≤ ([] : List Nd).length)) = [] := List.filter_eq_nil_iff.mpr fun a _ => by simp
    rw [this]
    exact List.Pairwise.nil
  · exact (edg_asc h).filter _
theorem stE_le {xs : List Nd} : ∀ e ∈ stE xs, e + 3 ≤ xs.length := fun e he => (stE_mem.mp he).1
theorem col_tk {xs ys : List Nd} {k j : Nat} (h : xs.take k = ys.take k) (hx : k ≤ xs.length) (hy : k ≤ ys.length) (hj : j < k) : (colsZ xs).getD j 0 = (colsZ ys).getD j 0 := by
  have e1 : (colN xs).getD j 0 = (colN (xs.take k)).getD j 0 := by
    have := col_pre (xs := xs.take k) (ys := xs.drop k) (i := j) (by rw [List.length_take]; omega)
    rwa [List.take_append_drop] at this
  have e2 : (colN ys).getD j 0 = (colN (ys.take k)).getD j 0 := by
    have := col_pre (xs := ys.take k) (ys := ys.drop k) (i := j) (by rw [List.length_take]; omega)
    rwa [List.take_append_drop] at this
  unfold colsZ
  rw [intsN_get, intsN_get, e1, e2, h]
theorem pk_tk {xs ys : List Nd} {k e : Nat} (h : xs.take k = ys.take k) (hx : k ≤ xs.length) (hy : k ≤ ys.length) (he : e + 1 < k) : isPk (colsZ xs) e ↔ isPk (colsZ ys) e := by
  unfold isPk
  rw [col_tk h hx hy (show e - 1 < k by omega), col_tk h hx hy (show e < k by omega), col_tk h hx hy he]
theorem slc_tk {α : Type} {xs ys : List α} {k : Nat} (h : xs.take k = ys.take k) : ∀ E : List Nat, (∀ e ∈ E, e ≤ k) → slc E xs = slc E ys
  | [], _ => rfl
  | [a], _ => rfl
  | a :: b :: E, hE => by
    have ih := slc_tk h (b :: E) fun e he => hE e (by simp at he ⊢; exact .inr he)
    simp only [slc, ih]
    congr 2
    have hb := hE b (by simp)
    have e1 : xs.take b = (xs.take k).take b := by rw [List.take_take, Nat.min_eq_left hb]
    have e2 : ys.take b = (ys.take k).take b := by rw [List.take_take, Nat.min_eq_left hb]
    rw [e1, e2, h]
theorem st_last {A : List Nd} {a b : Nd} : stE (A ++ [a]) = stE (A ++ [b]) ∧ stB (A ++ [a]) = stB (A ++ [b]) := by
  have htk : (A ++ [a]).take A.length = (A ++ [b]).take A.length := by rw [List.take_left' rfl, List.take_left' rfl]
  have la : (A ++ [a]).length = A.length + 1 := by simp
  have lb : (A ++ [b]).length = A.length + 1 := by simp
  have e : stE (A ++ [a]) = stE (A ++ [b]) := by
    refine asc_extN (stE_asc _) (stE_asc _) fun z => ?_
    rw [stE_mem, stE_mem, la, lb]
    refine and_congr_right fun hz => or_congr_right (and_congr_right fun _ => ?_)
    exact pk_tk htk (by omega) (by omega) (by omega)
  refine ⟨e, ?_⟩
  unfold stB
  rw [← e]
  refine slc_tk htk _ fun z hz => ?_
  have := stE_le z hz
  omega
theorem st_new {xs : List Nd} {x : Nd} : if 4 ≤ xs.length ∧ isPk (colsZ xs) (xs.length - 2)
    then stB (xs ++ [x]) = stB xs ++ [(xs.take (xs.length - 2)).drop (stS xs)] ∧ stS (xs ++ [x]) = xs.length - 2
    else stB (xs ++ [x]) = stB xs ∧ stS (xs ++ [x]) = stS xs := by
  have htk : (xs ++ [x]).take xs.length = xs.take xs.length := by rw [List.take_left' rfl, List.take_length]
  have la : (xs ++ [x]).length = xs.length + 1 := by simp
  have hpk : ∀ e, e + 1 < xs.length → (isPk (colsZ (xs ++ [x])) e ↔ isPk (colsZ xs) e) := fun e he => pk_tk htk (by omega) (Nat.le_refl _) he
  by_cases c : 4 ≤ xs.length ∧ isPk (colsZ xs) (xs.length - 2)
  · rw [if_pos c]
    have eE : stE (xs ++ [x]) = stE xs ++ [xs.length - 2] := by
      refine asc_extN (stE_asc _) ?_ fun z => ?_
      · refine List.pairwise_append.mpr ⟨stE_asc _, by simp, fun a ha b hb => ?_⟩
        rw [List.mem_singleton.mp hb]
        have := stE_le a ha
        omega
      · rw [List.mem_append, List.mem_singleton, stE_mem, stE_mem, la]
        constructor
        · rintro ⟨h1, h2⟩
          by_cases q : z = xs.length - 2
          · exact .inr q
          · refine .inl ⟨by omega, h2.imp_right fun ⟨h3, h4⟩ => ⟨h3, (hpk z (by omega)).mp h4⟩⟩
        · rintro (⟨h1, h2⟩ | rfl)
          · exact ⟨by omega, h2.imp_right fun ⟨h3, h4⟩ => ⟨h3, (hpk z (by omega)).mpr h4⟩⟩
          · exact ⟨by omega, .inr ⟨by omega, (hpk _ (by omega)).mpr c.2⟩⟩
    have hne : stE xs ≠ [] := fun e => by
      have : 0 ∈ stE xs := stE_mem.mpr ⟨by omega, .inl rfl⟩
      rw [e] at this
      cases this
    obtain ⟨Ei, l, hl⟩ : ∃ Ei l, stE xs = Ei ++ [l] := ⟨(stE xs).dropLast, (stE xs).getLast hne, (List.dropLast_concat_getLast _).symm⟩
    have hS : stS xs = l := by
      unfold stS
      rw [hl]
      simp
    refine ⟨?_, by unfold stS; rw [eE]; simp⟩
    have hsl : slc (stE xs ++ [xs.length - 2]) xs = slc (stE xs) xs ++ [(xs.take (xs.length - 2)).drop l] := by
      rw [hl, List.append_assoc]
      have := slc_app l [xs.length - 2] xs Ei
      rw [show Ei ++ ([l] ++ [xs.length - 2]) = Ei ++ l :: [xs.length - 2] from rfl, this]
      rfl
    have ht := slc_tk htk (stE xs ++ [xs.length - 2]) fun z hz => by
      rcases List.mem_append.mp hz with q | q
      · have := stE_le z q; omega
      · rw [List.mem_singleton.mp q]; omega
    unfold stB
    rw [eE, ht, hsl, hS]
  · rw [if_neg c]
    have eE : ∀ z, z ≠ 0 → (z ∈ stE (xs ++ [x]) ↔ z ∈ stE xs) := fun z hz => by
      rw [stE_mem, stE_mem, la]
      constructor
      · rintro ⟨h1, h2⟩
        rcases h2 with q | ⟨h3, h4⟩
        · exact absurd q hz
        have h5 := (hpk z (by omega)).mp h4
        refine ⟨?_, .inr ⟨h3, h5⟩⟩
        by_cases q : z = xs.length - 2
        · exact absurd ⟨by omega, by rw [← q]; exact h5⟩ c
        · omega
      · rintro ⟨h1, h2⟩
        rcases h2 with q | ⟨h3, h4⟩
        · exact absurd q hz
        · exact ⟨by omega, .inr ⟨h3, (hpk z (by omega)).mpr h4⟩⟩
    by_cases h2 : xs.length = 2
    · -- the first edge appears
      have e1 : stE xs = [] := by
        cases q : stE xs with
        | nil => rfl
        | cons a l =>
          have := stE_le (xs := xs) a (by rw [q]; simp)
          omega
      have e2 : stE (xs ++ [x]) = [0] := by
        refine asc_extN (stE_asc _) (by simp) fun z => ?_
        rw [stE_mem, la, List.mem_singleton]
        constructor
        · rintro ⟨q, _⟩; omega
        · rintro rfl
          exact ⟨by omega, .inl rfl⟩
      refine ⟨?_, ?_⟩
      · unfold stB
        rw [e1, e2]
        rfl
      · unfold stS
        rw [e1, e2]
        rfl
    · have e1 : stE (xs ++ [x]) = stE xs := by
        refine asc_extN (stE_asc _) (stE_asc _) fun z => ?_
        by_cases hz : z = 0
        · subst hz
          rw [stE_mem, stE_mem, la]
          constructor
          · rintro ⟨q, r⟩; exact ⟨by omega, .inl rfl⟩
          · rintro ⟨q, r⟩; exact ⟨by omega, .inl rfl⟩
        · exact eE z hz
      refine ⟨?_, by unfold stS; rw [e1]⟩
      unfold stB
      rw [e1]
      refine slc_tk htk _ fun z hz => ?_
      have := stE_le z hz
      omega
end Law
namespace Law
open PySem L2 ML
def m_trail_after : MF := mFn 4 2 (mSeq (mSet 2 (mLst (mCons (mVar 1) mNil)))
    (mSeq (mFor (mRng (mCons (mC (.int 4)) mNil)) (.one 3) (mIfS (mTru (mVar 0)) (mExpr (mBm appendA (mVar 2) (mCons (mCall m_mix (mCons (mBin ixA (mVar 0) (mVar 3)) (mCons (mBin ixA (mVar 2) (mVar 3)) mNil))) mNil))) (mExpr (mBm appendA (mVar 2) (mCons (mBin andA (mBin ixA (mVar 2) (mVar 3)) (mC (.int 1))) mNil)))))
    (mRet (mCa tupleA (mCons (mVar 2) mNil)))))
open Classical
noncomputable def trN (xs : List Nd) (i m : Nat) : List Nat := (List.range m).map fun k => (rnd (coinsT xs) k).getD i 0
noncomputable def trL (xs : List Nd) : List Nat := if xs = [] then [] else trN xs (xs.length - 1) 5
theorem trN_len (xs : List Nd) (i m : Nat) : (trN xs i m).length = m := by simp [trN]
theorem trN_get {xs : List Nd} {i m k : Nat} (h : k < m) : (trN xs i m).getD k 0 = (rnd (coinsT xs) k).getD i 0 := by
  unfold trN
  rw [List.getD_eq_getElem?_getD, List.getElem?_map, List.getElem?_range h]
  rfl
theorem tr_color {xs : List Nd} (h : xs ≠ []) : (trL xs).getD 4 0 = (colN xs).getD (xs.length - 1) 0 := by
  unfold trL
  rw [if_neg h, trN_get (by decide)]
  rfl
theorem tr_len {xs : List Nd} (h : xs ≠ []) : (trL xs).length = 5 := by
  unfold trL
  rw [if_neg h, trN_len]
theorem rnd_app {xs : List Nd} {y : Nd} {k i : Nat} (h : i < xs.length) : (rnd (coinsT (xs ++ [y])) k).getD i 0 = (rnd (coinsT xs) k).getD i 0 := by
  obtain ⟨zs, e⟩ := coinsT_app xs [y]
  rw [e]
  exact rnd_pre k (coinsT xs) zs i (by rw [coinsT_len]; exact h)
theorem coin_nat {xs : List Nd} (h : Row xs) {i : Nat} (hi : i < xs.length) : coinV (bef xs i) (cod xs i) = (((coinsT xs).getD i 0 : Nat) : Int) := by
  rw [coinsT_get hi]
  have := (coin_in h hi).1
  omega
theorem trail_wp {xs : List Nd} {y : Nd} {st : Store} {Q : A → Store → Prop} (h : Row (xs ++ [y])) (k : ∀ st', Grown st st' → Q (.tup (natsA (trL (xs ++ [y])))) st') : (m_trail_after [.tup (natsA (trL xs)), .int (((coinsT (xs ++ [y])).getD xs.length 0 : Nat) : Int)] st).wp Q := by
  simp only [m_trail_after]
  generalize hF : @mFor = F
  rw [wp_fn]
  refine ⟨rfl, ?_⟩
  have hs := size_eq
  simp only [List.map_cons, List.map_nil, List.cons_append, List.nil_append, List.replicate, Nat.reduceSub]
  have hap := coinsT_apart h
  have hln : (coinsT (xs ++ [y])).length = xs.length + 1 := by rw [coinsT_len]; simp
  generalize hc : some (A.int (((coinsT (xs ++ [y])).getD xs.length 0 : Nat) : Int)) = vc
  refine seq_cut (fun ρ st' => st' = st ++ [.lst (natsA (trN (xs ++ [y]) xs.length 1))] ∧ ρ = [some (.tup (natsA (trL xs))), vc, some (.ref st.length), none]) ?_ ?_
  · rw [← hc]
    simp only [sp_set, wp_lst, wp_cons, wp_nil, wp_var, List.getElem?_cons_succ, List.getElem?_cons_zero, Option.some.injEq, ex_eq, List.set_cons_zero, List.set_cons_succ]
    exact ⟨by simp [sizeLine], by rfl, by trivial⟩
  rintro ρ st1 ⟨rfl, rfl⟩
  have g1 : Grown st (st ++ [Ob.lst (natsA (trN (xs ++ [y]) xs.length 1))]) := .one _ _
  have l1 : stL (st ++ [Ob.lst (natsA (trN (xs ++ [y]) xs.length 1))]) st.length = some (natsA (trN (xs ++ [y]) xs.length 1)) := stL_new
  obtain ⟨r, hr⟩ : ∃ r, r = st.length := ⟨_, rfl⟩
  rw [← hr] at l1 ⊢
  refine seq_cut (fun ρ st' => ∃ v3, (∃ l, st' = st ++ [.lst l]) ∧ stL st' r = some (natsA (trN (xs ++ [y]) xs.length 5)) ∧ ρ = [some (.tup (natsA (trL xs))), vc, some (.ref r), v3]) ?_ ?_
  · rw [← hF]
    simp only [sp_for, wp_rng, wp_cons, wp_nil, wp_c, w_rng1]
    refine ⟨by decide, ?_⟩
    refine for_rng (n := 4) (fun i ρ st' => ∃ v3, (∃ l, st' = st ++ [.lst l]) ∧ stL st' r = some (natsA (trN (xs ++ [y]) xs.length (i + 1))) ∧ ρ = [some (.tup (natsA (trL xs))), vc, some (.ref r), v3]) ⟨none, ⟨_, rfl⟩, l1, rfl⟩ ?_ (fun ρ st' h => h)
    rintro i ρ st2 hi ⟨v3, ⟨l, rfl⟩, l2, rfl⟩
    refine ⟨_, rfl, ?_⟩
    simp only [List.set_cons_zero, List.set_cons_succ]
    have hrl : (rnd (coinsT (xs ++ [y])) i).length = xs.length + 1 := by rw [rnd_len, hln]
    have fin : ∀ z : Nat, z = (rnd (coinsT (xs ++ [y])) (i + 1)).getD xs.length 0 → (appendA (.ref r) [.int (z : Nat)] (st ++ [.lst l])).wp fun _ st4 => ∃ v3, (∃ l, st4 = st ++ [.lst l]) ∧ stL st4 r = some (natsA (trN (xs ++ [y]) xs.length (i + 1 + 1))) ∧ [some (A.tup (natsA (trL xs))), vc, some (A.ref r), some (A.int (0 + (i : Nat)))] = [some (.tup (natsA (trL xs))), vc, some (.ref r), v3] := fun z hz => by
      rw [w_append]
      refine ⟨_, l2, by rw [natsA_len, trN_len]; omega, _, ⟨natsA (trN (xs ++ [y]) xs.length (i + 1)) ++ [.int (z : Nat)], by rw [hr, List.set_append_right _ _ (Nat.le_refl _), Nat.sub_self]; rfl⟩, ?_, rfl⟩
      rw [stL_set_self l2, natsA_app1]
      congr 2
      unfold trN
      rw [List.range_succ (n := i + 1), List.map_append, List.map_singleton, hz]
    have get2 : atI (natsA (trN (xs ++ [y]) xs.length (i + 1))) (0 + ((i : Nat) : Int)) = some (.int (((rnd (coinsT (xs ++ [y])) i).getD xs.length 0 : Nat) : Int)) := by
      rw [nats_get (i := i) (by rw [trN_len]; omega) (by omega), trN_get (by omega)]
    by_cases hx : xs = []
    · subst hx
      have e0 : trL ([] : List Nd) = [] := by simp [trL]
      have e : ∀ n : Nat, Builtin.bitAnd (n : Int) 1 = ((n % 2 : Nat) : Int) := fun n => by
        have := Bits.bit_at (x := (n : Int)) 0
        simpa [Int.fdiv_eq_ediv_of_nonneg] using this
      rw [e0]
      rw [e0] at fin
      simp only [sp_ifs, wp_tru, wp_var, List.getElem?_cons_succ, List.getElem?_cons_zero, Option.some.injEq, ex_eq, w_truT, natsA_nil, List.isEmpty_nil, Bool.not_true, Bool.false_eq_true, if_false, sp_expr, wp_bm, wp_cons, wp_nil, wp_bin, wp_c, isL_ref, l2, Option.isSome_some, true_and, w_ixL, get2, w_and, e]
      refine fin _ ?_
      show _ = (roundL (rnd (coinsT ([] ++ [y])) i)).getD 0 0
      rw [round_zero (by rw [hrl]; omega)]
      rfl
    · have hn : 1 ≤ xs.length := List.length_pos_iff.mpr hx
      have hem : (natsA (trL xs)).isEmpty = false := by
        have := tr_len hx
        cases q : trL xs with
        | nil => rw [q] at this; simp at this
        | cons a l => rfl
      have get1 : atI (natsA (trL xs)) (0 + ((i : Nat) : Int)) = some (.int (((rnd (coinsT (xs ++ [y])) i).getD (xs.length - 1) 0 : Nat) : Int)) := by
        rw [nats_get (i := i) (by rw [tr_len hx]; omega) (by omega)]
        unfold trL
        rw [if_neg hx, trN_get (by omega), rnd_app (by omega)]
      have hne : (rnd (coinsT (xs ++ [y])) i).getD (xs.length - 1) 0 ≠ (rnd (coinsT (xs ++ [y])) i).getD xs.length 0 := by
        have := rnd_apart hap i (xs.length - 1) (by rw [hrl]; omega)
        rwa [show xs.length - 1 + 1 = xs.length by omega] at this
      simp only [sp_ifs, wp_tru, wp_var, List.getElem?_cons_succ, List.getElem?_cons_zero, Option.some.injEq, ex_eq, w_truT, hem, Bool.not_false, if_true, sp_expr, wp_bm, wp_cons, wp_nil, wp_call, wp_bin, wp_c, isL_ref, l2, Option.isSome_some, true_and, w_ixT, get1, w_ixL, get2]
      refine mixN_wp hne ?_
      refine fin _ ?_
      show _ = (roundL (rnd (coinsT (xs ++ [y])) i)).getD xs.length 0
      have := round_succ (ns := rnd (coinsT (xs ++ [y])) i) (i := xs.length - 1) (by rw [hrl]; omega)
      rw [show xs.length - 1 + 1 = xs.length by omega] at this
      exact this.symm
  rintro ρ st2 ⟨v3, ⟨l, rfl⟩, l2, rfl⟩
  simp only [sp_ret, wp_ca, wp_cons, wp_nil, wp_var, List.getElem?_cons_succ, List.getElem?_cons_zero, Option.some.injEq, ex_eq, w_tupL, l2]
  have e : trN (xs ++ [y]) xs.length 5 = trL (xs ++ [y]) := by
    unfold trL
    rw [if_neg (by simp), show (xs ++ [y]).length - 1 = xs.length by simp]
  rw [e]
  exact k _ (.one _ _)
end Law
namespace Law
open PySem L2 ML
def m_Layer_next_block : MF := mFn 3 1 (mSeq (mSet 1 (mBin subA (mBin addA (mCa lenA (mCons (mFld "Layer" "row" (mVar 0)) mNil)) (mC (.int 1))) (mC (.int 3))))
    (mSeq (mIfS (mOr (mGB (mBin ltA (mVar 1) (mC (.int 2)))) (mNot (mTru (mCall m_is_peak (mCons (mFld "Layer" "colors" (mVar 0)) (mCons (mVar 1) mNil)))))) (mRet (mC .non)) mNext)
    (mSeq (mSet 2 (mCa tupleA (mCons (mSl (mFld "Layer" "row" (mVar 0)) (mPart (mFld "Layer" "start" (mVar 0))) (mPart (mVar 1))) mNil)))
    (mSeq (mPutF "Layer" "start" (mVar 0) (mVar 1))
    (mRet (mTup (mCons (mC (.str "block")) (mCons (mVar 2) mNil))))))))
noncomputable def m_Layer_close_item : MF := mFn 4 2 (mSeq (mSet 2 (mMeth "NodeTable" "item_number" m_NodeTable_item_number (mVar 1) (mCons (mFld "Layer" "node" (mVar 0)) (mCons (mFld "Layer" "times" (mVar 0)) mNil))))
    (mSeq (mSet 3 (mTup mNil))
    (mSeq (mIfS (mTru (mFld "Layer" "row" (mVar 0))) (mSet 3 (mBin ixA (mFld "NodeTable" "codes" (mVar 1)) (mBin ixA (mFld "Layer" "row" (mVar 0)) (mUn negA (mC (.int 1)))))) mNext)
    (mSeq (mPutF "Layer" "trail" (mVar 0) (mCall m_trail_after (mCons (mFld "Layer" "trail" (mVar 0)) (mCons (mCall m_coin_after (mCons (mVar 3) (mCons (mBin ixA (mFld "NodeTable" "codes" (mVar 1)) (mVar 2)) mNil))) mNil))))
    (mSeq (mExpr (mBm appendA (mFld "Layer" "row" (mVar 0)) (mCons (mVar 2) mNil)))
    (mExpr (mBm appendA (mFld "Layer" "colors" (mVar 0)) (mCons (mBin ixA (mFld "Layer" "trail" (mVar 0)) (mUn negA (mC (.int 1)))) mNil))))))))
noncomputable def m_Layer_add_node : MF := mFn 3 3 (mSeq (mAugF "Layer" "count" iaddA (mVar 0) (mC (.int 1)))
    (mSeq (mIfS (mGB (mBin eqA (mVar 2) (mFld "Layer" "node" (mVar 0)))) (mSeq (mAugF "Layer" "times" iaddA (mVar 0) (mC (.int 1)))
    (mRet (mC .non))) mNext)
    (mSeq (mIfS (mGB (mBin notNA (mFld "Layer" "node" (mVar 0)) (mC .non))) (mExpr (mMeth "Layer" "close_item" m_Layer_close_item (mVar 0) (mCons (mVar 1) mNil))) mNext)
    (mSeq (mPutF "Layer" "node" (mVar 0) (mVar 2))
    (mSeq (mPutF "Layer" "times" (mVar 0) (mC (.int 1)))
    (mRet (mMeth "Layer" "next_block" m_Layer_next_block (mVar 0) mNil)))))))
open Classical
@[simp] theorem sp_augf {cls f : Str} {g : A → A → Store → R A} {mo ma : MX} {ρ : ML.Env} {st : Store} {N B C : ML.Env → Store → Prop} {Rt : A → Store → Prop} : (mAugF cls f g mo ma ρ st).wp N B C Rt ↔ (mo ρ st).wp fun x st1 => ∃ fs, insA cls x st1 = some fs ∧ ∃ v, fs.lookup f = some v ∧ (ma ρ st1).wp fun b st2 => (g v b st2).wp fun z st3 => ∃ st4, setIA cls f z x st3 = some st4 ∧ N ρ st4 := by
  unfold mAugF
  rw [wp_toS]
  refine iff_of_eq (congrArg _ (funext fun x => funext fun st1 => propext ?_))
  cases insA cls x st1 with
  | none => simp [SR.wp]
  | some fs =>
    simp only [Option.some.injEq, ex_eq]
    cases fs.lookup f with
    | none => simp [SR.wp]
    | some v =>
      simp only [Option.some.injEq, ex_eq]
      rw [wp_toS]
      refine iff_of_eq (congrArg _ (funext fun b => funext fun st2 => propext ?_))
      rw [wp_toS]
      refine iff_of_eq (congrArg _ (funext fun z => funext fun st3 => propext ?_))
      cases setIA cls f z x st3 with
      | none => simp [SR.wp]
      | some st4 => simp [SR.wp]
theorem item_number_wp {f : List Nd} {n : Nd} {q t : Nat} {st : Store} {Q : A → Store → Prop} (hT : Tab f t st) (hn : n ∈ f) (hq : 1 ≤ q) (ok : Okt (itmN (n, q))) (hl : f.length < 1000000) (k : ∀ st', FrT t st st' → Tab (addN f (itmN (n, q))) t st' → Q (numA (addN f (itmN (n, q))) (itmN (n, q))) st') : (m_NodeTable_item_number [.ref t, numA f n, .int (q : Nat)] st).wp Q := by
  simp only [m_NodeTable_item_number]
  generalize hM2 : @m_NodeTable_number_of = M2
  rw [wp_fn]
  refine ⟨rfl, ?_⟩
  simp only [List.map_cons, List.map_nil, List.cons_append, List.nil_append, List.replicate, Nat.reduceSub, sp_seq, sp_ifs, wp_gb, wp_bin, wp_var, wp_c, List.getElem?_cons_succ, List.getElem?_cons_zero, Option.some.injEq, ex_eq, w_eq, w_getB, decide_eq_true_eq, sp_ret, sp_next]
  by_cases c : (q : Int) = 1
  · have c' : q = 1 := by omega
    have ei : itmN (n, q) = n := by unfold itmN; rw [if_pos c']
    have ea : addN f n = f := by unfold addN; rw [if_pos hn]
    rw [if_pos c]
    rw [ei, ea] at k
    exact k st (.refl _ _) hT
  · have c' : ¬ q = 1 := by omega
    have ei : itmN (n, q) = .run n q := by unfold itmN; rw [if_neg c']
    rw [if_neg c]
    rw [ei] at k ok
    simp only [wp_meth, wp_cons, wp_nil, wp_var, wp_tup, wp_c, List.getElem?_cons_succ, List.getElem?_cons_zero, Option.some.injEq, ex_eq, insA_of hT.i, tab_m2, true_and]
    refine ⟨by rw [size_eq]; simp, ?_⟩
    have ee : A.tup [.str "run", numA f n, .int (q : Nat)] = entA f (.run n q) := rfl
    rw [ee]
    subst hM2
    exact number_of_wp hT ok (by simpa [kids] using hn) hl k
structure LF where
  count : Nat
  node : A
  times : Nat
  trail : List Nat
  start : Nat
  fin : Nat
def layFs (l : Nat) (F : LF) : List (Str × A) := [("count", .int (F.count : Nat)), ("node", F.node), ("times", .int (F.times : Nat)), ("row", .ref (l + 1)), ("colors", .ref (l + 2)), ("trail", .tup (natsA F.trail)), ("start", .int (F.start : Nat)), ("end", .int (F.fin : Nat))]
theorem lay_count (l : Nat) (F : LF) : List.lookup ("count" : Str) (layFs l F) = some (.int (F.count : Nat)) := rfl
theorem lay_node (l : Nat) (F : LF) : List.lookup ("node" : Str) (layFs l F) = some F.node := rfl
theorem lay_times (l : Nat) (F : LF) : List.lookup ("times" : Str) (layFs l F) = some (.int (F.times : Nat)) := rfl
theorem lay_row (l : Nat) (F : LF) : List.lookup ("row" : Str) (layFs l F) = some (.ref (l + 1)) := rfl
theorem lay_colors (l : Nat) (F : LF) : List.lookup ("colors" : Str) (layFs l F) = some (.ref (l + 2)) := rfl
theorem lay_trail (l : Nat) (F : LF) : List.lookup ("trail" : Str) (layFs l F) = some (.tup (natsA F.trail)) := rfl
theorem lay_start (l : Nat) (F : LF) : List.lookup ("start" : Str) (layFs l F) = some (.int (F.start : Nat)) := rfl
theorem lay_end (l : Nat) (F : LF) : List.lookup ("end" : Str) (layFs l F) = some (.int (F.fin : Nat)) := rfl
theorem lay_m1 (l : Nat) (F : LF) : List.lookup ("close_item" : Str) (layFs l F) = none := rfl
theorem lay_m2 (l : Nat) (F : LF) : List.lookup ("next_block" : Str) (layFs l F) = none := rfl
theorem lay_m3 (l : Nat) (F : LF) : List.lookup ("add_node" : Str) (layFs l F) = none := rfl
theorem put_count (l n : Nat) (F : LF) : putFA "count" (.int (n : Nat)) (layFs l F) = layFs l { F with count := n } := rfl
theorem put_node (l : Nat) (a : A) (F : LF) : putFA "node" a (layFs l F) = layFs l { F with node := a } := rfl
theorem put_times (l n : Nat) (F : LF) : putFA "times" (.int (n : Nat)) (layFs l F) = layFs l { F with times := n } := rfl
theorem put_trail (l : Nat) (ns : List Nat) (F : LF) : putFA "trail" (.tup (natsA ns)) (layFs l F) = layFs l { F with trail := ns } := rfl
theorem put_start (l n : Nat) (F : LF) : putFA "start" (.int (n : Nat)) (layFs l F) = layFs l { F with start := n } := rfl
theorem put_end (l n : Nat) (F : LF) : putFA "end" (.int (n : Nat)) (layFs l F) = layFs l { F with fin := n } := rfl
theorem lay_len (l : Nat) (F : LF) : (layFs l F).length < 1000 := by show 8 < 1000; decide
structure LyS (f : List Nd) (l : Nat) (xs : List Nd) (F : LF) (st : Store) : Prop where
  i : st[l]? = some (.oth (.ins "Layer" (layFs l F)))
  r : stL st (l + 1) = some (xs.map (numA f))
  c : stL st (l + 2) = some (natsA (colN xs))
  m : ∀ n ∈ xs, n ∈ f
theorem LyS.put {f : List Nd} {l : Nat} {xs : List Nd} {F G : LF} {st : Store} (h : LyS f l xs F st) : LyS f l xs G (st.set l (.oth (.ins "Layer" (layFs l G)))) := by
  have hl := (List.getElem?_eq_some_iff.mp h.i).1
  exact ⟨List.getElem?_set_self hl, by rw [stL_set_ne' (by omega)]; exact h.r, by rw [stL_set_ne' (by omega)]; exact h.c, h.m⟩
structure Fr8 (t l : Nat) (st st' : Store) : Prop where
  len : st.length ≤ st'.length
  get : ∀ i, i < st.length → (i ≤ t ∨ t + 4 < i) → (i < l ∨ l + 2 < i) → st'[i]? = st[i]?
theorem Fr8.refl (t l : Nat) (st : Store) : Fr8 t l st st := ⟨Nat.le_refl _, fun _ _ _ _ => rfl⟩
theorem Fr8.trans {t l : Nat} {a b c : Store} (h : Fr8 t l a b) (k : Fr8 t l b c) : Fr8 t l a c := ⟨Nat.le_trans h.len k.len, fun i h1 h2 h3 => by rw [k.get i (Nat.lt_of_lt_of_le h1 h.len) h2 h3, h.get i h1 h2 h3]⟩
theorem Fr8.grown {t l : Nat} {a b : Store} (g : Grown a b) : Fr8 t l a b := by
  obtain ⟨x, rfl⟩ := g
  exact ⟨by simp, fun i h _ _ => List.getElem?_append_left h⟩
theorem Fr8.frt {t l : Nat} {a b : Store} (h : FrT t a b) : Fr8 t l a b := ⟨h.len, fun i h1 h2 _ => h.get i h1 h2⟩
theorem Fr8.set {t l r : Nat} {a : Store} {o : Ob} (h1 : l ≤ r) (h2 : r ≤ l + 2) : Fr8 t l a (a.set r o) := ⟨by simp, fun i _ _ h => List.getElem?_set_ne (by omega)⟩
theorem LyS.frt {f g : List Nd} {l t : Nat} {xs : List Nd} {F : LF} {st st' : Store} (h : LyS f l xs F st) (k : FrT t st st') (ht : t + 4 < l) : LyS (f ++ g) l xs F st' := by
  have hl := (List.getElem?_eq_some_iff.mp h.i).1
  refine ⟨by rw [k.get l hl (by omega)]; exact h.i, ?_, k.stL (by omega) h.c, fun n hn => List.mem_append_left _ (h.m n hn)⟩
  rw [k.stL (by omega) h.r]
  congr 1
  exact List.map_congr_left fun n hn => (num_app' (h.m n hn)).symm
theorem LyS.grown {f : List Nd} {l : Nat} {xs : List Nd} {F : LF} {st st' : Store} (h : LyS f l xs F st) (g : Grown st st') : LyS f l xs F st' := ⟨g.get h.i, g.stL h.r, g.stL h.c, h.m⟩
theorem Tab.lay {f : List Nd} {t l r : Nat} {st : Store} {o : Ob} (h : Tab f t st) (ht : t + 4 < l) (hr : l ≤ r) : Tab f t (st.set r o) := h.set (.inr (by omega))
theorem peakL_wp {cs : List Int} {r : Nat} {j : Nat} {st : Store} {Q : A → Store → Prop} (hr : stL st r = some (cs.map .int)) (h : j + 1 < cs.length) (h1 : 1 ≤ j) (k : Q (.bl (decide (isPk cs j))) st) : (m_is_peak [.ref r, .int (j : Nat)] st).wp Q := by
  have a1 := ints_get (cs := cs) (j := j - 1) (i := (j : Int) - 1) (by omega) (by omega)
  have a2 := ints_get (cs := cs) (j := j) (i := (j : Int)) (by omega) (by omega)
  have a3 := ints_get (cs := cs) (j := j + 1) (i := (j : Int) + 1) (by omega) (by omega)
  simp only [m_is_peak, wp_fn]
  refine ⟨rfl, ?_⟩
  simp only [List.map_cons, List.map_nil, List.cons_append, List.nil_append, sp_ret, wp_andV, wp_bin, wp_var, wp_c, List.getElem?_cons_succ, List.getElem?_cons_zero, Option.some.injEq, ex_eq, w_ixL, hr, w_sub, w_add, a1, a2, a3, w_lt, w_gt, w_getB]
  split
  · rename_i h1
    have : decide (cs.getD (j + 1) 0 < cs.getD j 0) = decide (isPk cs j) := by
      have h1' : cs.getD (j - 1) 0 < cs.getD j 0 := by simpa using h1
      by_cases q : cs.getD (j + 1) 0 < cs.getD j 0
      · rw [decide_eq_true q, decide_eq_true ⟨h1', q⟩]
      · rw [decide_eq_false q, decide_eq_false fun z => q z.2]
    rw [this]
    exact k
  · rename_i h1
    have h1' : ¬ cs.getD (j - 1) 0 < cs.getD j 0 := by simpa using h1
    rw [decide_eq_false fun z => h1' z.1] at k
    exact k
theorem next_block_wp {f : List Nd} {t l : Nat} {xs : List Nd} {F : LF} {st : Store} {Q : A → Store → Prop} (hT : Tab f t st) (ht : t + 4 < l) (h : LyS f l xs F st) (hx : xs.length ≤ 5000)
    (k0 : ¬ (4 ≤ xs.length ∧ isPk (colsZ xs) (xs.length - 2)) → Q .non st)
    (k1 : 4 ≤ xs.length ∧ isPk (colsZ xs) (xs.length - 2) → ∀ st', Tab f t st' → LyS f l xs { F with start := xs.length - 2 } st' → Fr8 t l st st' → Q (entA f (.blk ((xs.take (xs.length - 2)).drop F.start))) st') : (m_Layer_next_block [.ref l] st).wp Q := by
  simp only [m_Layer_next_block]
  have PK := @peakL_wp
  generalize m_is_peak = pk at PK ⊢
  rw [wp_fn]
  refine ⟨rfl, ?_⟩
  have hsz := size_eq
  simp only [List.map_cons, List.map_nil, List.cons_append, List.nil_append, List.replicate, Nat.reduceSub]
  refine seq_cut (fun ρ st' => st' = st ∧ ρ = [some (.ref l), some (.int (((xs.length : Nat) : Int) + 1 - 3)), none]) ?_ ?_
  · simp only [sp_set, wp_bin, wp_ca, wp_fld, wp_cons, wp_nil, wp_c, wp_var, List.getElem?_cons_succ, List.getElem?_cons_zero, Option.some.injEq, ex_eq, insA_of h.i, lay_row, w_lenL, h.r, List.length_map, w_add, w_sub, List.set_cons_zero, List.set_cons_succ]
    exact ⟨by trivial, by trivial⟩
  rintro ρ st1 ⟨rfl, rfl⟩
  have hcl : (colsZ xs).length = xs.length := colsZ_len xs
  have hcc : stL st1 (l + 2) = some ((colsZ xs).map A.int) := by
    rw [h.c]
    exact congrArg some (natsA_ints _)
  by_cases c4 : 4 ≤ xs.length
  · have e2 : ((xs.length : Nat) : Int) + 1 - 3 = ((xs.length - 2 : Nat) : Int) := by omega
    have d1 : decide (((xs.length - 2 : Nat) : Int) < 2) = false := decide_eq_false (by omega)
    rw [e2]
    refine seq_cutR (fun ρ st' => st' = st1 ∧ isPk (colsZ xs) (xs.length - 2) ∧ ρ = [some (.ref l), some (.int ((xs.length - 2 : Nat) : Int)), none]) ?_ ?_
    · simp only [sp_ifs, wp_or, wp_not, wp_tru, wp_call, wp_fld, wp_gb, wp_bin, wp_cons, wp_nil, wp_c, wp_var, List.getElem?_cons_succ, List.getElem?_cons_zero, Option.some.injEq, ex_eq, w_lt, d1, w_getB, Bool.false_eq_true, if_false, insA_of h.i, lay_colors]
      refine PK hcc (by omega) (by omega) ?_
      simp only [w_truB]
      by_cases cp : isPk (colsZ xs) (xs.length - 2)
      · rw [decide_eq_true cp]
        simp only [Bool.not_true, Bool.false_eq_true, if_false, sp_next]
        exact ⟨by trivial, cp, by trivial⟩
      · rw [decide_eq_false cp]
        simp only [Bool.not_false, if_true, sp_ret, wp_c]
        exact k0 fun q => cp q.2
    rintro ρ st2 ⟨rfl, cp, rfl⟩
    have hcut : cutA (xs.map (numA f)) (some ((F.start : Nat) : Int)) (some ((xs.length - 2 : Nat) : Int)) = ((xs.take (xs.length - 2)).drop F.start).map (numA f) := by
      rw [cut_mid (by omega) (by omega), Int.toNat_natCast, Int.toNat_natCast, ← List.map_take, ← List.map_drop]
    refine seq_cut (fun ρ st' => (∃ o, st' = st2 ++ [o]) ∧ ρ = [some (.ref l), some (.int ((xs.length - 2 : Nat) : Int)), some (.tup (((xs.take (xs.length - 2)).drop F.start).map (numA f)))]) ?_ ?_
    · simp only [sp_set, wp_ca, wp_sl, wp_part, wp_fld, wp_cons, wp_nil, wp_var, List.getElem?_cons_succ, List.getElem?_cons_zero, Option.some.injEq, ex_eq, insA_of h.i, lay_row, lay_start, w_getI, w_slL, h.r, hcut, w_tupL, stL_new, List.set_cons_zero, List.set_cons_succ]
      exact ⟨⟨_, rfl⟩, by trivial⟩
    rintro ρ st3 ⟨⟨o, rfl⟩, rfl⟩
    have g : Grown st2 (st2 ++ [o]) := .one _ _
    have h3 := h.grown g
    simp only [sp_seq, sp_putf, wp_var, List.getElem?_cons_succ, List.getElem?_cons_zero, Option.some.injEq, ex_eq, setIA_eq h3.i (lay_len l F), put_start, sp_ret, wp_tup, wp_cons, wp_nil, wp_c]
    refine ⟨by simp [size_eq], ?_⟩
    have e : A.tup [.str "block", .tup (((xs.take (xs.length - 2)).drop F.start).map (numA f))] = entA f (.blk ((xs.take (xs.length - 2)).drop F.start)) := rfl
    rw [e]
    exact k1 ⟨c4, cp⟩ _ ((hT.grown g).lay ht (Nat.le_refl _)) h3.put ((Fr8.grown g).trans (Fr8.set (Nat.le_refl _) (by omega)))
  · have d1 : decide (((xs.length : Nat) : Int) + 1 - 3 < 2) = true := decide_eq_true (by omega)
    simp only [sp_seq, sp_ifs, wp_or, wp_gb, wp_bin, wp_c, wp_var, List.getElem?_cons_succ, List.getElem?_cons_zero, Option.some.injEq, ex_eq, w_lt, d1, w_getB, if_true, sp_ret]
    exact k0 fun q => c4 q.1
theorem lastI {α : Type} {xs : List α} {a : α} (g : α → A) : atI ((xs ++ [a]).map g) (-1) = some (g a) := by
  rw [List.map_append, List.map_singleton]
  unfold atI
  have : L2.ixN (xs.map g ++ [g a]).length (-1) = some xs.length := by
    unfold L2.ixN
    rw [if_neg (by decide), List.length_append, List.length_singleton, List.length_map, if_pos (by omega)]
    congr 1
    omega
  rw [this]
  simp
theorem close_item_wp {f : List Nd} {t l : Nat} {xs : List Nd} {F : LF} {n : Nd} {q : Nat} {st : Store} {Q : A → Store → Prop} (hT : Tab f t st) (ht : t + 4 < l) (h : LyS f l xs F st) (hn : n ∈ f) (hq : 1 ≤ q) (en : F.node = numA f n) (eq : F.times = q) (etr : F.trail = trL xs)
    (ok : Okt (itmN (n, q))) (hR : Row (xs ++ [itmN (n, q)])) (hf : f.length < 900000) (hx : xs.length ≤ 5000)
    (k : ∀ st', Tab (addN f (itmN (n, q))) t st' → LyS (addN f (itmN (n, q))) l (xs ++ [itmN (n, q)]) { F with trail := trL (xs ++ [itmN (n, q)]) } st' → Fr8 t l st st' → Q .non st') : (m_Layer_close_item [.ref l, .ref t] st).wp Q := by
  simp only [m_Layer_close_item]
  have IW := @item_number_wp f n q t
  have TW := @trail_wp
  have CW := @coin_wp
  generalize m_NodeTable_item_number = mi at IW ⊢
  generalize m_trail_after = mt at TW ⊢
  generalize m_coin_after = mc at CW ⊢
  rw [wp_fn]
  refine ⟨rfl, ?_⟩
  have hsz := size_eq
  simp only [List.map_cons, List.map_nil, List.cons_append, List.nil_append, List.replicate, Nat.reduceSub]
  generalize hy : itmN (n, q) = y at *
  obtain ⟨g, eg, hyf, _⟩ := addN_pre f y
  refine seq_cut (fun ρ st' => Tab (addN f y) t st' ∧ LyS (addN f y) l xs F st' ∧ Fr8 t l st st' ∧ ρ = [some (.ref l), some (.ref t), some (numA (addN f y) y), none]) ?_ ?_
  · simp only [sp_set, wp_meth, wp_fld, wp_cons, wp_nil, wp_var, List.getElem?_cons_succ, List.getElem?_cons_zero, Option.some.injEq, ex_eq, insA_of hT.i, tab_m3, true_and, insA_of h.i, lay_node, lay_times, en, eq, List.set_cons_zero, List.set_cons_succ]
    refine IW hT hn hq ok (by omega) fun st' f' T' => ⟨T', ?_, Fr8.frt f', rfl⟩
    rw [eg]
    exact h.frt f' ht
  generalize addN f y = f2 at *
  rintro ρ st1 ⟨T1, L1, F1, rfl⟩
  refine seq_cut (fun ρ st' => st' = st1 ∧ ρ = [some (.ref l), some (.ref t), some (numA f2 y), some (.tup [])]) ?_ ?_
  · simp only [sp_set, wp_tup, wp_nil, List.set_cons_zero, List.set_cons_succ]
    exact ⟨by simp [size_eq], by trivial, by trivial⟩
  rintro ρ st2 ⟨rfl, rfl⟩
  refine seq_cut (fun ρ st' => st' = st2 ∧ ρ = [some (.ref l), some (.ref t), some (numA f2 y), some (.tup ((bef (xs ++ [y]) xs.length).map A.int))]) ?_ ?_
  · simp only [sp_ifs, wp_tru, wp_fld, wp_var, List.getElem?_cons_succ, List.getElem?_cons_zero, Option.some.injEq, ex_eq, insA_of L1.i, lay_row, w_truL, L1.r, List.isEmpty_map]
    by_cases hxe : xs = []
    · subst hxe
      simp only [List.isEmpty_nil, Bool.not_true, Bool.false_eq_true, if_false, sp_next]
      exact ⟨by trivial, by simp [bef]⟩
    · obtain ⟨xi, xl, rfl⟩ : ∃ xi xl, xs = xi ++ [xl] := ⟨xs.dropLast, xs.getLast hxe, (List.dropLast_concat_getLast _).symm⟩
      have hem : (xi ++ [xl]).isEmpty = false := by cases xi <;> rfl
      have hxf : xl ∈ f2 := L1.m xl (by simp)
      have hb : bef (xi ++ [xl] ++ [y]) (xi ++ [xl]).length = codeN xl := by
        rw [show (xi ++ [xl]).length = xi.length + 1 by simp]
        simp [bef]
      simp only [hem, Bool.not_false, if_true, sp_set, wp_bin, wp_un, wp_fld, wp_c, wp_var, List.getElem?_cons_succ, List.getElem?_cons_zero, Option.some.injEq, ex_eq, insA_of L1.i, insA_of T1.i, tab_cod, lay_row, w_neg, w_ixL, L1.r, lastI, T1.k, numA, at_idx (g := codA) hxf, List.set_cons_zero, List.set_cons_succ, hb]
      exact ⟨by trivial, by trivial⟩
  rintro ρ st3 ⟨rfl, rfl⟩
  have hget : (xs ++ [y])[xs.length]? = some y := by simp
  have hit := hR.it y (by simp)
  have hcoin : coinV (bef (xs ++ [y]) xs.length) (codeN y) = (((coinsT (xs ++ [y])).getD xs.length 0 : Nat) : Int) := by
    rw [← coin_nat hR (by simp), cod_some hget]
  have hcod : atI (f2.map codA) (idx f2 y : Nat) = some (codA y) := at_idx (g := codA) hyf
  refine seq_cut (fun ρ st' => Tab f2 t st' ∧ LyS f2 l xs { F with trail := trL (xs ++ [y]) } st' ∧ Fr8 t l st st' ∧ ρ = [some (.ref l), some (.ref t), some (numA f2 y), some (.tup ((bef (xs ++ [y]) xs.length).map A.int))]) ?_ ?_
  · simp only [sp_putf, wp_call, wp_fld, wp_bin, wp_cons, wp_nil, wp_var, List.getElem?_cons_succ, List.getElem?_cons_zero, Option.some.injEq, ex_eq, insA_of L1.i, insA_of T1.i, tab_cod, lay_trail, etr, numA, w_ixL, T1.k, hcod]
    refine CW (row_bef hR hget) (nd_ne ok.ok) (Nat.le_trans hit.len (by omega)) ?_
    rw [hcoin]
    refine TW hR fun st4 g4 => ?_
    have L4 := L1.grown g4
    simp only [setIA_eq L4.i (lay_len l F), Option.some.injEq, ex_eq, put_trail]
    exact ⟨(T1.grown g4).lay ht (Nat.le_refl _), L4.put, F1.trans ((Fr8.grown g4).trans (Fr8.set (Nat.le_refl _) (by omega))), by trivial⟩
  clear T1 L1 F1 st3
  rintro ρ st3 ⟨T1, L1, F1, rfl⟩
  refine seq_cut (fun ρ st' => st' = st3.set (l + 1) (.lst ((xs ++ [y]).map (numA f2))) ∧ ρ = [some (.ref l), some (.ref t), some (numA f2 y), some (.tup ((bef (xs ++ [y]) xs.length).map A.int))]) ?_ ?_
  · simp only [sp_expr, wp_bm, wp_fld, wp_cons, wp_nil, wp_var, List.getElem?_cons_succ, List.getElem?_cons_zero, Option.some.injEq, ex_eq, insA_of L1.i, lay_row, isL_ref, L1.r, Option.isSome_some, true_and, w_append]
    refine ⟨by rw [List.length_map]; omega, ?_, by trivial⟩
    rw [List.map_append, List.map_singleton]
  rintro ρ st4 ⟨rfl, rfl⟩
  have hi4 : (st3.set (l + 1) (.lst ((xs ++ [y]).map (numA f2))))[l]? = some (.oth (.ins "Layer" (layFs l { F with trail := trL (xs ++ [y]) }))) := by rw [List.getElem?_set_ne (by omega)]; exact L1.i
  have hc4 : stL (st3.set (l + 1) (.lst ((xs ++ [y]).map (numA f2)))) (l + 2) = some (natsA (colN xs)) := by rw [stL_set_ne (by omega)]; exact L1.c
  have htl : atI (natsA (trL (xs ++ [y]))) (-1) = some (.int ((((colN (xs ++ [y])).getD xs.length 0 : Nat)) : Int)) := by
    have h5 := tr_len (xs := xs ++ [y]) (by simp)
    have hcol := tr_color (xs := xs ++ [y]) (by simp)
    rw [show (xs ++ [y]).length - 1 = xs.length by simp] at hcol
    rw [← hcol]
    unfold atI
    have : L2.ixN (natsA (trL (xs ++ [y]))).length (-1) = some 4 := by
      rw [natsA_len, h5]
      rfl
    rw [this]
    exact natsA_get (by omega)
  simp only [sp_expr, wp_bm, wp_bin, wp_un, wp_fld, wp_cons, wp_nil, wp_c, wp_var, List.getElem?_cons_succ, List.getElem?_cons_zero, Option.some.injEq, ex_eq, insA_of hi4, lay_colors, lay_trail, isL_ref, hc4, Option.isSome_some, true_and, w_neg, w_ixT, htl, w_append]
  have hcl : (colN xs).length = xs.length := col_len xs
  refine ⟨by rw [natsA_len, hcl]; omega, ?_⟩
  have hcn : natsA (colN xs) ++ [A.int (((colN (xs ++ [y])).getD xs.length 0 : Nat) : Int)] = natsA (colN (xs ++ [y])) := by
    rw [natsA_app1]
    congr 1
    have h1 : (colN (xs ++ [y])).take xs.length = colN xs := col_take xs [y]
    have h2 : (colN (xs ++ [y])).length = xs.length + 1 := by rw [col_len]; simp
    rw [← h1]
    have h3 : (colN (xs ++ [y]))[xs.length]? = some ((colN (xs ++ [y])).getD xs.length 0) := by
      rw [List.getD_eq_getElem?_getD, List.getElem?_eq_getElem (by omega)]
      rfl
    have h4 : (colN (xs ++ [y])).take (xs.length + 1) = (colN (xs ++ [y])).take xs.length ++ [(colN (xs ++ [y])).getD xs.length 0] := by
      rw [List.take_add_one, h3]
      rfl
    rw [← h4, List.take_of_length_le (by omega)]
  rw [hcn]
  refine k _ ((T1.lay ht (by omega)).lay ht (by omega)) ⟨?_, ?_, ?_, fun m hm => ?_⟩ (F1.trans ((Fr8.set (by omega) (by omega)).trans (Fr8.set (by omega) (by omega))))
  · rw [List.getElem?_set_ne (by omega)]
    exact hi4
  · rw [stL_set_ne (by omega)]
    exact stL_set_self L1.r
  · exact stL_set_self hc4
  · rcases List.mem_append.mp hm with z | z
    · exact L1.m m z
    · rw [List.mem_singleton.mp z]
      exact hyf
end Law
namespace Law
open PySem L2 ML
open Classical
noncomputable def clo (ns : List Nd) : List Nd := ((grp ns).dropLast).map itmN
noncomputable def ndOf (f ns : List Nd) : A := match (grp ns).getLast? with
  | none => .non
  | some g => numA f g.1
noncomputable def tmOf (ns : List Nd) : Nat := match (grp ns).getLast? with
  | none => 0
  | some g => g.2
noncomputable def lfOf (f ns : List Nd) (fin : Nat) : LF := ⟨ns.length, ndOf f ns, tmOf ns, trL (clo ns), stS (itms ns), fin⟩
theorem lf_count (f ns : List Nd) (fin : Nat) : (lfOf f ns fin).count = ns.length := by simp only [lfOf]
theorem lf_node (f ns : List Nd) (fin : Nat) : (lfOf f ns fin).node = ndOf f ns := by simp only [lfOf]
theorem lf_times (f ns : List Nd) (fin : Nat) : (lfOf f ns fin).times = tmOf ns := by simp only [lfOf]
theorem lf_trail (f ns : List Nd) (fin : Nat) : (lfOf f ns fin).trail = trL (clo ns) := by simp only [lfOf]
theorem lf_start (f ns : List Nd) (fin : Nat) : (lfOf f ns fin).start = stS (itms ns) := by simp only [lfOf]
theorem lf_fin (f ns : List Nd) (fin : Nat) : (lfOf f ns fin).fin = fin := by simp only [lfOf]
structure LayOk (f : List Nd) (l : Nat) (ns : List Nd) (fin : Nat) (st : Store) : Prop where
  s : LyS f l (clo ns) (lfOf f ns fin) st
  m : ∀ n ∈ ns, n ∈ f
theorem grp_last {ns pre : List Nd} {g : Gp} {p : List Gp} (e : grp ns = p ++ [g]) : clo ns = p.map itmN ∧ itms ns = p.map itmN ++ [itmN g] ∧ (grp ns).getLast? = some g ∧ g.1 ∈ ns ∧ 1 ≤ g.2 := by
  obtain ⟨h1, h2⟩ := grp_mem (ns := ns) (g := g) (by rw [e]; simp)
  refine ⟨?_, ?_, ?_, h1, h2⟩
  · unfold clo
    rw [e]
    simp
  · unfold itms
    rw [e]
    simp
  · rw [e]
    simp
theorem grp_parts {ns : List Nd} (h : ns ≠ []) : ∃ p g, grp ns = p ++ [g] := by
  have hn := grp_ne h
  exact ⟨(grp ns).dropLast, (grp ns).getLast hn, (List.dropLast_concat_getLast _).symm⟩
theorem add_same {f ns : List Nd} {x : Nd} {p : List Gp} {g : Gp} {fin : Nat} (e : grp ns = p ++ [g]) (hx : g.1 = x) : clo (ns ++ [x]) = clo ns ∧ stN (ns ++ [x]) = stN ns ∧ lfOf f (ns ++ [x]) fin = { lfOf f ns fin with count := ns.length + 1, times := g.2 + 1 } := by
  have e2 : grp (ns ++ [x]) = p ++ [(x, g.2 + 1)] := by rw [grp_snoc, e, snocG_last, if_pos hx]
  subst hx
  obtain ⟨a1, a2, a3, a4, a5⟩ := grp_last (pre := []) e
  obtain ⟨b1, b2, b3, b4, b5⟩ := grp_last (pre := []) e2
  have hst := st_last (A := p.map itmN) (a := itmN (g.1, g.2 + 1)) (b := itmN g)
  refine ⟨by rw [a1, b1], ?_, ?_⟩
  · unfold stN
    rw [a2, b2, hst.2]
  · unfold lfOf ndOf tmOf
    rw [a3, b3, a1, b1, a2, b2]
    unfold stS
    rw [hst.1]
    simp
theorem itmN_one (x : Nd) : itmN (x, 1) = x := rfl
theorem add_other {f ns : List Nd} {x : Nd} {p : List Gp} {g : Gp} {fin : Nat} (e : grp ns = p ++ [g]) (hx : ¬ g.1 = x) : clo (ns ++ [x]) = itms ns ∧ itms (ns ++ [x]) = itms ns ++ [x] ∧ ndOf f (ns ++ [x]) = numA f x ∧ tmOf (ns ++ [x]) = 1 := by
  have e2 : grp (ns ++ [x]) = (p ++ [g]) ++ [(x, 1)] := by rw [grp_snoc, e, snocG_last, if_neg hx]; simp
  obtain ⟨b1, b2, b3, b4, b5⟩ := grp_last (pre := []) e2
  have hi : itms ns = (p ++ [g]).map itmN := by
    unfold itms
    rw [e]
  refine ⟨by rw [b1, hi], by rw [b2, hi, itmN_one], ?_, ?_⟩
  · unfold ndOf
    rw [b3]
  · unfold tmOf
    rw [b3]
theorem add_first {f : List Nd} {x : Nd} {fin : Nat} : clo [x] = [] ∧ itms [x] = [x] ∧ stN [x] = [] ∧ lfOf f [x] fin = ⟨1, numA f x, 1, trL [], 0, fin⟩ := by
  have e : grp [x] = [(x, 1)] := rfl
  have h0 : stE [x] = [] := by
    cases q : stE [x] with
    | nil => rfl
    | cons a l =>
      have := stE_le (xs := [x]) a (by rw [q]; simp)
      simp at this
  have hi : itms [x] = [x] := rfl
  refine ⟨rfl, hi, ?_, ?_⟩
  · unfold stN stB
    rw [hi, h0]
    rfl
  · unfold lfOf
    have hs : stS (itms [x]) = 0 := by
      unfold stS
      rw [hi, h0]
      rfl
    rw [hs]
    rfl
theorem lf_nil {f : List Nd} {fin : Nat} : lfOf f [] fin = ⟨0, .non, 0, trL [], 0, fin⟩ := by
  have h0 : stE [] = [] := by
    cases q : stE ([] : List Nd) with
    | nil => rfl
    | cons a l =>
      have := stE_le (xs := []) a (by rw [q]; simp)
      simp at this
  unfold lfOf
  have hs : stS (itms []) = 0 := by
    unfold stS
    rw [itms_nil, h0]
    rfl
  rw [hs]
  rfl
theorem add_node_wp {f ns : List Nd} {t l m j fin : Nat} {x : Nd} {st : Store} {Q : A → Store → Prop} (hT : Tab f t st) (ht : t + 4 < l) (h : LayOk f l ns fin st) (hx : x ∈ f) (hlv : LvOk m j (ns ++ [x])) (hm : m ≤ 2000) (hj : j ≤ 11) (hf : f.length < 800000)
    (k0 : stN (ns ++ [x]) = stN ns → ∀ f' st', (∃ g, f' = f ++ g ∧ g.length ≤ 1) → Tab f' t st' → LayOk f' l (ns ++ [x]) fin st' → Fr8 t l st st' → Q .non st')
    (k1 : ∀ p, stN (ns ++ [x]) = stN ns ++ [.blk p] → ∀ f' st', (∃ g, f' = f ++ g ∧ g.length ≤ 1) → (∀ c ∈ p, c ∈ f') → Tab f' t st' → LayOk f' l (ns ++ [x]) fin st' → Fr8 t l st st' → Q (entA f' (.blk p)) st') : (m_Layer_add_node [.ref l, .ref t, numA f x] st).wp Q := by
  simp only [m_Layer_add_node]
  have CW := @close_item_wp
  have NB := @next_block_wp
  generalize m_Layer_close_item = mc at CW ⊢
  generalize m_Layer_next_block = mn at NB ⊢
  rw [wp_fn]
  refine ⟨rfl, ?_⟩
  have hsz := size_eq
  simp only [List.map_cons, List.map_nil, List.cons_append, List.nil_append, List.replicate, Nat.reduceSub]
  have hR := hlv.row hm hj
  have hO := hlv.itmsOkt hm hj
  have hsm := hlv.small
  have hil := itms_len (ns ++ [x])
  have tail : ∀ (f' : List Nd) (xs : List Nd) (G : LF) (st : Store), Tab f' t st → LyS f' l xs G st → xs.length ≤ 5000 →
      (¬ (4 ≤ xs.length ∧ isPk (colsZ xs) (xs.length - 2)) → ∀ st', Tab f' t st' → LyS f' l xs { G with node := numA f x, times := 1 } st' → Fr8 t l st st' → Q .non st') →
      (4 ≤ xs.length ∧ isPk (colsZ xs) (xs.length - 2) → ∀ st', Tab f' t st' → LyS f' l xs { G with node := numA f x, times := 1, start := xs.length - 2 } st' → Fr8 t l st st' → Q (entA f' (.blk ((xs.take (xs.length - 2)).drop G.start))) st') →
      ((mSeq (mPutF "Layer" "node" (mVar 0) (mVar 2)) (mSeq (mPutF "Layer" "times" (mVar 0) (mC (.int 1))) (mRet (mMeth "Layer" "next_block" mn (mVar 0) mNil)))) [some (.ref l), some (.ref t), some (numA f x)] st).wp (fun _ st => Q .non st) NoS NoS Q := fun f' xs G st hT h hxs q0 q1 => by
    have h1 := h.put (G := { G with node := numA f x })
    have h2 := h1.put (G := { G with node := numA f x, times := 1 })
    have t2 := (hT.lay (o := .oth (.ins "Layer" (layFs l { G with node := numA f x }))) ht (Nat.le_refl _)).lay (o := .oth (.ins "Layer" (layFs l { G with node := numA f x, times := 1 }))) ht (Nat.le_refl _)
    have f2 : Fr8 t l st ((st.set l (.oth (.ins "Layer" (layFs l { G with node := numA f x })))).set l (.oth (.ins "Layer" (layFs l { G with node := numA f x, times := 1 })))) := (Fr8.set (Nat.le_refl _) (by omega)).trans (Fr8.set (Nat.le_refl _) (by omega))
    have ep : putFA "times" (.int 1) (layFs l { G with node := numA f x }) = layFs l { G with node := numA f x, times := 1 } := rfl
    simp only [sp_seq, sp_putf, wp_var, wp_c, List.getElem?_cons_succ, List.getElem?_cons_zero, Option.some.injEq, ex_eq, setIA_eq h.i (lay_len l _), put_node, setIA_eq h1.i (lay_len l _), ep, sp_ret, wp_meth, wp_cons, wp_nil, insA_of h2.i, lay_m2, true_and]
    exact NB t2 ht h2 hxs (fun c => q0 c _ t2 h2 f2) fun c st' T' L' F' => q1 c st' T' L' (f2.trans F')
  -- the count
  refine seq_cut (fun ρ st' => LyS f l (clo ns) { lfOf f ns fin with count := ns.length + 1 } st' ∧ Tab f t st' ∧ Fr8 t l st st' ∧ ρ = [some (.ref l), some (.ref t), some (numA f x)]) ?_ ?_
  · simp only [sp_augf, wp_var, wp_c, List.getElem?_cons_succ, List.getElem?_cons_zero, Option.some.injEq, ex_eq, insA_of h.s.i, lay_count]
    have e : iaddA (.int ((lfOf f ns fin).count : Nat)) (.int 1) st = .ok (.int (((ns.length + 1 : Nat)) : Int)) st := by
      show R.ok _ st = _
      congr 2
    rw [e, wp_ok, setIA_eq h.s.i (lay_len l _)]
    simp only [Option.some.injEq, ex_eq, put_count]
    exact ⟨h.s.put, hT.lay ht (Nat.le_refl _), Fr8.set (Nat.le_refl _) (by omega), by trivial⟩
  rintro ρ st1 ⟨L1, T1, F1, rfl⟩
  by_cases hns : ns = []
  · subst hns
    obtain ⟨c1, c2, c3, c4⟩ := add_first (f := f) (x := x) (fin := fin)
    have hc0 : clo [] = [] := rfl
    rw [hc0, lf_nil] at L1
    refine seq_cutR (fun ρ st' => st' = st1 ∧ ρ = [some (.ref l), some (.ref t), some (numA f x)]) ?_ ?_
    · simp only [sp_ifs, wp_gb, wp_bin, wp_fld, wp_var, List.getElem?_cons_succ, List.getElem?_cons_zero, Option.some.injEq, ex_eq, insA_of L1.i, lay_node]
      refine w_eqC ((int_cmp _).mono (by omega)) ⟨rfl, rfl, by simp [depA]⟩ ?_
      rw [decide_eq_false (by unfold numA; intro q; cases q)]
      simp only [w_getB, Bool.false_eq_true, if_false, sp_next]
      exact ⟨by trivial, by trivial⟩
    rintro ρ st2 ⟨rfl, rfl⟩
    refine seq_cut (fun ρ st' => st' = st2 ∧ ρ = [some (.ref l), some (.ref t), some (numA f x)]) ?_ ?_
    · simp only [sp_ifs, wp_gb, wp_bin, wp_fld, wp_var, wp_c, List.getElem?_cons_succ, List.getElem?_cons_zero, Option.some.injEq, ex_eq, insA_of L1.i, lay_node, w_notN, isNonA, Bool.not_true, w_getB, Bool.false_eq_true, if_false, sp_next]
      exact ⟨by trivial, by trivial⟩
    rintro ρ st3 ⟨rfl, rfl⟩
    refine tail f [] _ st3 T1 L1 (by simp) (fun _ st' T' L' F' => ?_) (fun c => by simp at c)
    refine k0 (by rw [List.nil_append, c3]; rfl) f st' ⟨[], by simp, by simp⟩ T' ⟨?_, fun n hn => ?_⟩ (F1.trans F')
    · rw [List.nil_append, c1, c4]
      exact L'
    · have hn' : n ∈ [x] := by simpa using hn
      rw [List.mem_singleton.mp hn']
      exact hx
  obtain ⟨p, g, e⟩ := grp_parts hns
  obtain ⟨a1, a2, a3, a4, a5⟩ := grp_last (pre := []) e
  have hnd : ndOf f ns = numA f g.1 := by unfold ndOf; rw [a3]
  have htm : tmOf ns = g.2 := by unfold tmOf; rw [a3]
  have hgf := h.m g.1 a4
  have hni : (lfOf f ns fin).node = numA f g.1 := by rw [lf_node]; exact hnd
  by_cases hg : g.1 = x
  · obtain ⟨c1, c2, c3⟩ := add_same (f := f) (fin := fin) e hg
    have hfin : ∀ st', LyS f l (clo ns) { lfOf f ns fin with count := ns.length + 1, times := g.2 + 1 } st' → LayOk f l (ns ++ [x]) fin st' := fun st' L => ⟨by rw [c1, c3]; exact L, fun n hn => by
      rcases List.mem_append.mp hn with z | z
      · exact h.m n z
      · rw [List.mem_singleton.mp z]; exact hx⟩
    simp only [sp_seq, sp_ifs, wp_gb, wp_bin, wp_fld, wp_var, List.getElem?_cons_succ, List.getElem?_cons_zero, Option.some.injEq, ex_eq, insA_of L1.i, lay_node, hni]
    refine w_eqC ((int_cmp _).mono (by omega)) ((int_cmp _).mono (by omega)) ?_
    rw [decide_eq_true (show numA f x = numA f g.1 by rw [hg])]
    have e1 : iaddA (.int ((lfOf f ns fin).times : Nat)) (.int 1) st1 = .ok (.int (((g.2 + 1 : Nat)) : Int)) st1 := by
      show R.ok _ st1 = _
      have : (lfOf f ns fin).times = g.2 := by rw [lf_times]; exact htm
      rw [this]
      congr 2
    simp only [w_getB, if_true, sp_seq, sp_augf, wp_var, wp_c, List.getElem?_cons_succ, List.getElem?_cons_zero, Option.some.injEq, ex_eq, insA_of L1.i, lay_times, e1, wp_ok, setIA_eq L1.i (lay_len l _), put_times, sp_ret]
    exact k0 c2 f _ ⟨[], by simp, by simp⟩ (T1.lay ht (Nat.le_refl _)) (hfin _ L1.put) (F1.trans (Fr8.set (Nat.le_refl _) (by omega)))
  · obtain ⟨c1, c2, c3, c4⟩ := add_other (f := f) (fin := fin) e hg
    obtain ⟨G0, hG0⟩ : ∃ G0, lfOf f ns fin = G0 := ⟨_, rfl⟩
    have gt : G0.times = g.2 := by rw [← hG0, lf_times]; exact htm
    have gr : G0.trail = trL (clo ns) := by rw [← hG0, lf_trail]
    have gs : G0.start = stS (itms ns) := by rw [← hG0, lf_start]
    have gf : G0.fin = fin := by rw [← hG0, lf_fin]
    rw [hG0] at L1 hni
    clear hG0
    obtain ⟨c0, n0, t0, r0, s0, f0⟩ := G0
    simp only at hni gt gr gs gf L1
    subst hni gt gr gs gf
    have hne : numA f x ≠ numA f g.1 := fun q => hg (idx_inj hgf hx (by unfold numA at q; injection q with q; omega))
    have hsn := st_new (xs := itms ns) (x := x)
    rw [← c2] at hsn
    have hRi : Row (itms ns) := by
      have := hR.take (itms ns).length
      rwa [c2, List.take_left' rfl] at this
    refine seq_cut (fun ρ st' => st' = st1 ∧ ρ = [some (.ref l), some (.ref t), some (numA f x)]) ?_ ?_
    · simp only [sp_ifs, wp_gb, wp_bin, wp_fld, wp_var, List.getElem?_cons_succ, List.getElem?_cons_zero, Option.some.injEq, ex_eq, insA_of L1.i, lay_node]
      refine w_eqC ((int_cmp _).mono (by omega)) ((int_cmp _).mono (by omega)) ?_
      rw [decide_eq_false hne]
      simp only [w_getB, Bool.false_eq_true, if_false, sp_next]
      exact ⟨by trivial, by trivial⟩
    rintro ρ st2 ⟨rfl, rfl⟩
    have hig : itmN (g.1, g.2) = itmN g := rfl
    refine seq_cut (fun ρ st' => Tab (addN f (itmN g)) t st' ∧ LyS (addN f (itmN g)) l (itms ns) ⟨ns.length + 1, numA f g.1, g.2, trL (itms ns), stS (itms ns), f0⟩ st' ∧ Fr8 t l st st' ∧ ρ = [some (.ref l), some (.ref t), some (numA f x)]) ?_ ?_
    · have hnn : isNonA (numA f g.1) = false := rfl
      simp only [sp_ifs, wp_gb, wp_bin, wp_fld, wp_var, wp_c, List.getElem?_cons_succ, List.getElem?_cons_zero, Option.some.injEq, ex_eq, insA_of L1.i, lay_node, w_notN, hnn, Bool.not_false, w_getB, if_true, sp_expr, wp_meth, wp_cons, wp_nil, lay_m1, true_and]
      refine CW (n := g.1) (q := g.2) T1 ht L1 hgf a5 rfl rfl rfl (by rw [hig]; exact hO _ (by rw [c2, a2]; simp)) (by rw [hig, a1, ← a2]; exact hRi) (by omega) (by rw [a1, List.length_map]; have := congrArg List.length a2; simp only [List.length_append, List.length_map, List.length_singleton] at this; have := congrArg List.length c2; simp only [List.length_append, List.length_singleton] at this; omega) fun st' T' L' F' => ?_
      rw [hig, a1, ← a2] at L'
      rw [hig] at T'
      simp only at L'
      exact ⟨T', L', F1.trans F', by trivial⟩
    rintro ρ st3 ⟨T3, L3, F3, rfl⟩
    obtain ⟨g2, eg2, _, hg2l⟩ := addN_pre f (itmN g)
    have hxn : numA (addN f (itmN g)) x = numA f x := by rw [eg2, num_app' hx]
    have hfr : ∀ (S : Nat) st', LyS (addN f (itmN g)) l (itms ns) ⟨ns.length + 1, numA f x, 1, trL (itms ns), S, f0⟩ st' → stS (itms (ns ++ [x])) = S → LayOk (addN f (itmN g)) l (ns ++ [x]) f0 st' := fun S st' L hS => by
      refine ⟨?_, fun n hn => ?_⟩
      · obtain ⟨_, _, d3, d4⟩ := add_other (f := addN f (itmN g)) (fin := f0) e hg
        have el : lfOf (addN f (itmN g)) (ns ++ [x]) f0 = ⟨ns.length + 1, numA f x, 1, trL (itms ns), S, f0⟩ := by
          unfold lfOf
          rw [d3, d4, c1, hS, hxn, List.length_append, List.length_singleton]
        rw [c1, el]
        exact L
      · rw [eg2]
        rcases List.mem_append.mp hn with z | z
        · exact List.mem_append_left _ (h.m n z)
        · rw [List.mem_singleton.mp z]; exact List.mem_append_left _ hx
    have hil2 : (itms ns).length ≤ 5000 := by
      have := congrArg List.length c2
      simp only [List.length_append, List.length_singleton] at this
      omega
    refine tail _ _ _ st3 T3 L3 hil2 (fun c st' T' L' F' => ?_) (fun c st' T' L' F' => ?_)
    · rw [if_neg c] at hsn
      simp only at L'
      refine k0 (by unfold stN; rw [hsn.1]) _ st' ⟨g2, eg2, hg2l⟩ T' (hfr _ st' L' hsn.2) (F3.trans F')
    · rw [if_pos c] at hsn
      simp only at L' ⊢
      refine k1 ((((itms ns).take ((itms ns).length - 2)).drop (stS (itms ns)))) (by unfold stN; rw [hsn.1, List.map_append, List.map_singleton]) _ st' ⟨g2, eg2, hg2l⟩ (fun q hq => L3.m q (List.mem_of_mem_take (List.mem_of_mem_drop hq))) T' (hfr _ st' L' hsn.2) (F3.trans F')
end Law
namespace Law
open PySem L2 ML
def m_Layer___init__ : MF := mFn 1 1 (mSeq (mPutF "Layer" "count" (mVar 0) (mC (.int 0)))
    (mSeq (mPutF "Layer" "node" (mVar 0) (mC .non))
    (mSeq (mPutF "Layer" "times" (mVar 0) (mC (.int 0)))
    (mSeq (mPutF "Layer" "row" (mVar 0) (mLst mNil))
    (mSeq (mPutF "Layer" "colors" (mVar 0) (mLst mNil))
    (mSeq (mPutF "Layer" "trail" (mVar 0) (mTup mNil))
    (mSeq (mPutF "Layer" "start" (mVar 0) (mC (.int 0)))
    (mPutF "Layer" "end" (mVar 0) (mC (.int 0))))))))))
open Classical
theorem filt_midB {E A M B : List Nat} {r : Nat → Bool} (e : E = A ++ (M ++ B)) (hA : ∀ a ∈ A, r a = true) (hM : ∀ m ∈ M, r m = false) (hB : ∀ b ∈ B, r b = false) : E.filter r = A := by
  have f0 : ∀ l : List Nat, (∀ a ∈ l, r a = false) → l.filter r = [] := fun l h => List.filter_eq_nil_iff.mpr fun a ha => by rw [h a ha]; exact Bool.false_ne_true
  rw [e, List.filter_append, List.filter_append, f0 M hM, f0 B hB, List.filter_eq_self.mpr hA]
  simp
theorem LvOk.left {m j : Nat} {a b : List Nd} (h : LvOk m j (a ++ b)) : LvOk m j a := by
  refine ⟨fun n hn => h.ok n (List.mem_append_left _ hn), ?_, ?_⟩
  · have := h.sz
    rw [szNs_app] at this
    omega
  · have := h.len
    rw [List.length_append] at this
    exact Nat.le_trans (Nat.mul_le_mul_right _ (Nat.le_add_right _ _)) this
theorem st_pre (ns : List Nd) : ∃ more, nxt ns = stN ns ++ more := by
  by_cases h1 : 1 < (itms ns).length
  · have hy : itms ns ≠ [] := fun e => by rw [e, List.length_nil] at h1; omega
    obtain ⟨A, M, B, e0, hA, hM, hB⟩ := asc_split (fun e => decide (e + 3 ≤ (itms ns).length)) (fun _ => true) (fun a b hab ha => by simp at ha ⊢; omega) (fun a b hab ha => rfl) _ (edg_asc hy)
    have eA : stE (itms ns) = A := filt_midB e0 hA (fun m hm => (hM m hm).1) (fun b hb => (hB b hb).1)
    have hp : ∃ more, prts (itms ns) = stB (itms ns) ++ more := by
      unfold stB
      rw [prts_slc, e0, eA]
      cases A with
      | nil => exact ⟨_, by rw [List.nil_append]; rfl⟩
      | cons a A' =>
        obtain ⟨Ai, al, hal⟩ : ∃ Ai al, a :: A' = Ai ++ [al] := ⟨(a :: A').dropLast, (a :: A').getLast (by simp), (List.dropLast_concat_getLast _).symm⟩
        rw [hal, List.append_assoc]
        exact ⟨_, slc_app al (M ++ B) (itms ns) Ai⟩
    obtain ⟨more, e⟩ := hp
    refine ⟨more.map Nd.blk, ?_⟩
    unfold nxt upN stN
    rw [if_pos h1, e, List.map_append]
  · have h0 : stE (itms ns) = [] := by
      cases q : stE (itms ns) with
      | nil => rfl
      | cons a l =>
        have := stE_le (xs := itms ns) a (by rw [q]; simp)
        omega
    have hs : stN ns = [] := by
      unfold stN stB
      rw [h0]
      rfl
    exact ⟨nxt ns, by rw [hs, List.nil_append]⟩
theorem st_ok {m j : Nat} {ns : List Nd} (h : LvOk m j ns) (hm : m ≤ 2000) (hj : j ≤ 11) : LvOk m (j + 1) (stN ns) := by
  obtain ⟨more, e⟩ := st_pre ns
  have := h.next hm hj
  rw [e] at this
  exact this.left
noncomputable def stL' (ns : List Nd) : Nat → List Nd
  | 0 => ns
  | j + 1 => stN (stL' ns j)
theorem stL_ok {xs : List A} (hx : ∀ x ∈ xs, El x) (hl : xs.length ≤ 2000) : ∀ j, LvOk xs.length j (stL' (xs.map .leaf) j)
  | 0 => leaves_ok hx
  | j + 1 => by
    have ih := stL_ok hx hl j
    by_cases e : stL' (xs.map .leaf) j = []
    · have hs : stN [] = [] := by
        obtain ⟨more, q⟩ := st_pre []
        rw [nxt_nil] at q
        exact (List.append_eq_nil_iff.mp q.symm).1
      show LvOk _ _ (stN (stL' (xs.map .leaf) j))
      rw [e, hs]
      exact ⟨by simp, by simp [szNs], by simp⟩
    · exact st_ok ih hl (by have := few_levels ih hl e; omega)
theorem put_at {f : Str} {v : A} {fs : List (Str × A)} {ex : List Ob} {st : Store} (h : fs.length < 1000) : setIA "Layer" f v (.ref st.length) (st ++ (.oth (.ins "Layer" fs) :: ex)) = some (st ++ (.oth (.ins "Layer" (putFA f v fs)) :: ex)) := by
  have h0 : (st ++ (Ob.oth (.ins "Layer" fs) :: ex))[st.length]? = some (.oth (.ins "Layer" fs)) := by
    rw [List.getElem?_append_right (Nat.le_refl _), Nat.sub_self]
    rfl
  rw [setIA_eq h0 h, List.set_append_right _ _ (Nat.le_refl _), Nat.sub_self]
  rfl
theorem layer_init_wp {f : List Nd} {st : Store} {Q : A → Store → Prop} (k : ∀ st', Grown st st' → st'.length = st.length + 3 → LayOk f st.length [] 0 st' → Q .non st') : (m_Layer___init__ [.ref st.length] (st ++ [.oth (.ins "Layer" [])])).wp Q := by
  simp only [m_Layer___init__]
  rw [wp_fn]
  refine ⟨rfl, ?_⟩
  simp only [List.map_cons, List.map_nil, List.cons_append, List.nil_append, List.replicate, Nat.reduceSub]
  have step : ∀ (g : Str) (v : A) (fs : List (Str × A)) (ex : List Ob) (c : MX) (N B C : ML.Env → Store → Prop) (Rt : A → Store → Prop), fs.length < 1000 → ((c [some (.ref st.length)] (st ++ (.oth (.ins "Layer" fs) :: ex))).wp fun w st1 => w = v ∧ st1 = st ++ (.oth (.ins "Layer" fs) :: ex)) → N [some (.ref st.length)] (st ++ (.oth (.ins "Layer" (putFA g v fs)) :: ex)) → (mPutF "Layer" g (mVar 0) c [some (.ref st.length)] (st ++ (.oth (.ins "Layer" fs) :: ex))).wp N B C Rt := fun g v fs ex c N B C Rt hfs hc hN => by
    rw [sp_putf]
    refine hc.imp fun w st1 ⟨e1, e2⟩ => ?_
    subst e1 e2
    simp only [wp_var, List.getElem?_cons_zero, Option.some.injEq, ex_eq, put_at hfs]
    exact hN
  have stepL : ∀ (g : Str) (fs : List (Str × A)) (ex : List Ob) (N B C : ML.Env → Store → Prop) (Rt : A → Store → Prop), fs.length < 1000 → N [some (.ref st.length)] (st ++ (.oth (.ins "Layer" (putFA g (.ref (st.length + (1 + ex.length))) fs)) :: (ex ++ [.lst []]))) → (mPutF "Layer" g (mVar 0) (mLst mNil) [some (.ref st.length)] (st ++ (.oth (.ins "Layer" fs) :: ex))).wp N B C Rt := fun g fs ex N B C Rt hfs hN => by
    rw [sp_putf]
    simp only [wp_lst, wp_nil]
    refine ⟨by simp [sizeLine], ?_⟩
    have e1 : (st ++ (Ob.oth (.ins "Layer" fs) :: ex)).length = st.length + (1 + ex.length) := by simp; omega
    have e2 : (st ++ (Ob.oth (.ins "Layer" fs) :: ex)) ++ [Ob.lst []] = st ++ (.oth (.ins "Layer" fs) :: (ex ++ [.lst []])) := by simp
    simp only [wp_var, List.getElem?_cons_zero, Option.some.injEq, ex_eq, e1, e2, put_at hfs]
    exact hN
  have cst : ∀ (v : A) (S : Store), ((mC v) [some (.ref st.length)] S).wp fun w st1 => w = v ∧ st1 = S := fun v S => by
    rw [wp_c]
    exact ⟨rfl, rfl⟩
  have tpl : ∀ (S : Store), ((mTup mNil) [some (.ref st.length)] S).wp fun w st1 => w = .tup [] ∧ st1 = S := fun S => by
    rw [wp_tup, wp_nil]
    exact ⟨by simp [size_eq], rfl, rfl⟩
  rw [sp_seq]
  refine step _ (.int 0) _ _ _ _ _ _ _ (by decide) (cst _ _) ?_
  rw [sp_seq]
  refine step _ .non _ _ _ _ _ _ _ (by decide) (cst _ _) ?_
  rw [sp_seq]
  refine step _ (.int 0) _ _ _ _ _ _ _ (by decide) (cst _ _) ?_
  rw [sp_seq]
  refine stepL _ _ _ _ _ _ _ (by decide) ?_
  rw [sp_seq]
  refine stepL _ _ _ _ _ _ _ (by show 4 < 1000; decide) ?_
  rw [sp_seq]
  refine step _ (.tup []) _ _ _ _ _ _ _ (by show 5 < 1000; decide) (tpl _) ?_
  rw [sp_seq]
  refine step _ (.int 0) _ _ _ _ _ _ _ (by show 6 < 1000; decide) (cst _ _) ?_
  refine step _ (.int 0) _ _ _ _ _ _ _ (by show 7 < 1000; decide) (cst _ _) ?_
  have fin : ∀ S : Store, S = st ++ [.oth (.ins "Layer" (layFs st.length ⟨0, .non, 0, [], 0, 0⟩)), .lst [], .lst []] → Q .non S := fun S e => by
    subst e
    refine k _ ⟨_, rfl⟩ (by simp) ⟨⟨?_, ?_, ?_, fun n hn => by cases hn⟩, fun n hn => by cases hn⟩
    · rw [lf_nil, List.getElem?_append_right (Nat.le_refl _), Nat.sub_self]
      rfl
    · refine stL_of ?_
      rw [List.getElem?_append_right (by omega), show st.length + 1 - st.length = 1 by omega]
      rfl
    · refine stL_of ?_
      rw [List.getElem?_append_right (by omega), show st.length + 2 - st.length = 2 by omega]
      rfl
  exact fin _ rfl
end Law
namespace Law
open PySem L2 ML
noncomputable def m_Growth_add_element : MF := mFn 8 2 (mSeq (mSet 2 (mLst mNil))
    (mSeq (mSet 3 (mMeth "NodeTable" "number_of" m_NodeTable_number_of (mFld "Growth" "table" (mVar 0)) (mCons (mTup (mCons (mC (.str "leaf")) (mCons (mVar 1) mNil))) mNil)))
    (mSeq (mSet 4 (mC (.int 0)))
    (mSeq (mWhile (mGB (mBin notNA (mVar 3) (mC .non))) (mSeq (mIfS (mGB (mBin eqA (mVar 4) (mCa lenA (mCons (mFld "Growth" "layers" (mVar 0)) mNil)))) (mExpr (mBm appendA (mFld "Growth" "layers" (mVar 0)) (mCons (mMake "Layer" m_Layer___init__ mNil) mNil))) mNext)
    (mSeq (mSet 5 (mBin ixA (mFld "Growth" "layers" (mVar 0)) (mVar 4)))
    (mSeq (mSet 6 (mMeth "Layer" "add_node" m_Layer_add_node (mVar 5) (mCons (mFld "Growth" "table" (mVar 0)) (mCons (mVar 3) mNil))))
    (mSeq (mSet 3 (mC .non))
    (mSeq (mAug 4 iaddA (mC (.int 1)))
    (mIfS (mGB (mBin notNA (mVar 6) (mC .non))) (mSeq (mSet 3 (mMeth "NodeTable" "number_of" m_NodeTable_number_of (mFld "Growth" "table" (mVar 0)) (mCons (mVar 6) mNil)))
    (mSeq (mSet 7 (mFld "Layer" "end" (mVar 5)))
    (mSeq (mPutF "Layer" "end" (mVar 5) (mBin addA (mVar 7) (mBin ixA (mFld "NodeTable" "sizes" (mFld "Growth" "table" (mVar 0))) (mVar 3))))
    (mExpr (mBm appendA (mVar 2) (mCons (mTup (mCons (mVar 4) (mCons (mVar 7) (mCons (mFld "Layer" "end" (mVar 5)) mNil)))) mNil)))))) mNext)))))))
    (mRet (mVar 2))))))
open Classical
theorem LayOk.move {f g : List Nd} {l : Nat} {ns : List Nd} {fin : Nat} {st st' : Store} (h : LayOk f l ns fin st) (hg : ∀ i, l ≤ i → i ≤ l + 2 → st'[i]? = st[i]?) : LayOk (f ++ g) l ns fin st' := by
  have hcl : ∀ n ∈ clo ns, n ∈ f := h.s.m
  have hlf : lfOf (f ++ g) ns fin = lfOf f ns fin := by
    have : ndOf (f ++ g) ns = ndOf f ns := by
      unfold ndOf
      cases e : (grp ns).getLast? with
      | none => rfl
      | some q =>
        have hm : q ∈ grp ns := List.mem_of_getLast? e
        exact num_app' (h.m _ (grp_mem hm).1)
    unfold lfOf
    rw [this]
  refine ⟨⟨by rw [hlf, hg l (Nat.le_refl _) (by omega)]; exact h.s.i, ?_, ?_, fun n hn => List.mem_append_left _ (hcl n hn)⟩, fun n hn => List.mem_append_left _ (h.m n hn)⟩
  · refine stL_of ?_
    rw [hg (l + 1) (by omega) (by omega), stL_eq h.s.r]
    have : (clo ns).map (numA f) = (clo ns).map (numA (f ++ g)) := List.map_congr_left fun n hn => (num_app' (hcl n hn)).symm
    rw [this]
  · refine stL_of ?_
    rw [hg (l + 2) (by omega) (by omega)]
    exact stL_eq h.s.c
def groFs (t r : Nat) : List (Str × A) := [("table", .ref t), ("layers", .ref r)]
theorem gro_t (t r : Nat) : List.lookup ("table" : Str) (groFs t r) = some (.ref t) := rfl
theorem gro_l (t r : Nat) : List.lookup ("layers" : Str) (groFs t r) = some (.ref r) := rfl
structure GrS (f : List Nd) (gA t r : Nat) (ls : List Nat) (R : Nat → List Nd) (st : Store) : Prop where
  i : st[gA]? = some (.oth (.ins "Growth" (groFs t r)))
  T : Tab f t st
  h : stL st r = some (ls.map A.ref)
  L : ∀ j l, ls[j]? = some l → ∃ fin, LayOk f l (R j) fin st
  e : ∀ j, ls.length ≤ j → R j = []
  og : gA < t
  ot : t + 4 < r
  ol : ∀ (j l : Nat), ls[j]? = some l → r < l
  os : ∀ (i j a b : Nat), i < j → ls[i]? = some a → ls[j]? = some b → a + 2 < b
  lt : ∀ (j l : Nat), ls[j]? = some l → l + 2 < st.length
theorem GrS.far {f g : List Nd} {gA t r : Nat} {ls : List Nat} {R : Nat → List Nd} {st st' : Store} (h : GrS f gA t r ls R st) (T : Tab (f ++ g) t st') (hl : st.length ≤ st'.length) (hg : ∀ i, i < st.length → (i ≤ t ∨ t + 4 < i) → (i ≤ r ∨ ∃ (j l : Nat), ls[j]? = some l ∧ l ≤ i ∧ i ≤ l + 2) → st'[i]? = st[i]?) : GrS (f ++ g) gA t r ls R st' := by
  have hgA := (List.getElem?_eq_some_iff.mp h.i).1
  have hr := stL_lt h.h
  have og := h.og
  have ot := h.ot
  refine ⟨by rw [hg gA hgA (by omega) (.inl (by omega))]; exact h.i, T, stL_of (by rw [hg r hr (by omega) (.inl (Nat.le_refl _))]; exact stL_eq h.h), fun j l hj => ?_, h.e, h.og, h.ot, h.ol, h.os, fun j l hj => Nat.lt_of_lt_of_le (h.lt j l hj) hl⟩
  obtain ⟨fin, L⟩ := h.L j l hj
  have h1 := h.ol j l hj
  have h2 := h.lt j l hj
  exact ⟨fin, L.move fun i a b => hg i (by omega) (by omega) (.inr ⟨j, l, hj, a, b⟩)⟩
theorem same_up {a b : List Nd} {j : Nat} (h : stL' a j = stL' b j) : ∀ i, stL' a (j + i) = stL' b (j + i)
  | 0 => h
  | i + 1 => by
    show stN (stL' a (j + i)) = stN (stL' b (j + i))
    rw [same_up h i]
noncomputable def mixR (O N : List Nd) (j k : Nat) : List Nd := if k < j then stL' N k else stL' O k
structure AeS (st0 : Store) (F0 : Nat) (f : List Nd) (gA t r q : Nat) (ls : List Nat) (O N : List Nd) (j : Nat) (x : Option Nd) (st : Store) : Prop where
  g : GrS f gA t r ls (mixR O N j) st
  hq : ∃ fs, stL st q = some fs ∧ fs.length ≤ j
  qr : r < q
  ql : ∀ (i l : Nat), ls[i]? = some l → q < l ∨ l + 2 < q
  fl : f.length ≤ F0 + 1 + 3 * j
  lj : j ≤ 20
  no : x = none → ∀ k, mixR O N j k = stL' N k
  jl : x ≠ none → j ≤ ls.length
  so : ∀ y, x = some y → y ∈ f ∧ stL' N j = stL' O j ++ [y]
  fr : ∀ i, i < gA → st[i]? = st0[i]?
noncomputable def xA (f : List Nd) (x : Option Nd) : A := match x with
  | none => .non
  | some y => numA f y
theorem mix_up {O N : List Nd} {j : Nat} : (fun k => if k = j then stL' N k else mixR O N j k) = mixR O N (j + 1) := by
  funext k
  unfold mixR
  by_cases h : k = j
  · rw [if_pos h, if_pos (by omega)]
  · rw [if_neg h]
    by_cases h2 : k < j
    · rw [if_pos h2, if_pos (by omega)]
    · rw [if_neg h2, if_neg (by omega)]
def lvl (ρ : ML.Env) : Nat := match ρ[4]? with
  | some (some (A.int j)) => 30 - j.toNat
  | _ => 0
theorem lf_def (f ns : List Nd) (a : Nat) : lfOf f ns a = ⟨ns.length, ndOf f ns, tmOf ns, trL (clo ns), stS (itms ns), a⟩ := by rw [lfOf]
theorem lf_setfin (f ns : List Nd) (a b : Nat) : ({ lfOf f ns a with fin := b } : LF) = lfOf f ns b := by
  simp only [lf_count, lf_node, lf_times, lf_trail, lf_start, lf_def f ns b]
theorem GrS.step {f g : List Nd} {gA t r l j fin : Nat} {ls : List Nat} {R R' : Nat → List Nd} {st st' : Store} (h : GrS f gA t r ls R st) (hj : ls[j]? = some l) (T : Tab (f ++ g) t st') (L : LayOk (f ++ g) l (R' j) fin st') (F : Fr8 t l st st') (hR : ∀ i, i ≠ j → R' i = R i) : GrS (f ++ g) gA t r ls R' st' := by
  have hgA := (List.getElem?_eq_some_iff.mp h.i).1
  have hr := stL_lt h.h
  have og := h.og
  have ot := h.ot
  have hjl := (List.getElem?_eq_some_iff.mp hj).1
  have hrl := h.ol j l hj
  refine ⟨by rw [F.get gA hgA (by omega) (by omega)]; exact h.i, T, stL_of (by rw [F.get r hr (by omega) (by omega)]; exact stL_eq h.h), fun i l' hi => ?_, fun i hi => by rw [hR i (by omega)]; exact h.e i hi, h.og, h.ot, h.ol, h.os, fun i l' hi => Nat.lt_of_lt_of_le (h.lt i l' hi) F.len⟩
  by_cases c : i = j
  · subst c
    rw [hj] at hi
    cases hi
    exact ⟨fin, L⟩
  · obtain ⟨fin', L'⟩ := h.L i l' hi
    have h1 := h.ol i l' hi
    have h2 := h.lt i l' hi
    have hd : l' + 2 < l ∨ l + 2 < l' := by
      rcases Nat.lt_or_gt_of_ne c with q | q
      · exact .inl (h.os i j l' l q hi hj)
      · exact .inr (h.os j i l l' q hj hi)
    rw [hR i c]
    exact ⟨fin', L'.move fun u a b => F.get u (by omega) (by omega) (by omega)⟩
theorem add_element_wp {xs : List A} {a : A} {f : List Nd} {gA t r : Nat} {ls : List Nat} {st : Store} {Q : A → Store → Prop} (hx : ∀ y ∈ xs ++ [a], El y) (hl : (xs ++ [a]).length ≤ 2000) (h : GrS f gA t r ls (stL' (xs.map .leaf)) st) (hf : f.length ≤ 600000) (hne : ∀ i, i < ls.length → stL' (xs.map .leaf) i ≠ [])
    (k : ∀ f' ls' st' v, GrS f' gA t r ls' (stL' ((xs ++ [a]).map .leaf)) st' → f'.length ≤ f.length + 100 → (∀ i, i < gA → st'[i]? = st[i]?) → (∀ i, i < ls'.length → stL' ((xs ++ [a]).map .leaf) i ≠ []) → Q v st') : (m_Growth_add_element [.ref gA, a] st).wp Q := by
  simp only [m_Growth_add_element]
  have NO := @number_of_wp
  have IN := @layer_init_wp
  have AN := @add_node_wp
  generalize m_NodeTable_number_of = mno at NO ⊢
  generalize m_Layer___init__ = min_ at IN ⊢
  generalize m_Layer_add_node = man at AN ⊢
  generalize hW : @mWhile = W
  rw [wp_fn]
  refine ⟨rfl, ?_⟩
  have hsz := size_eq
  simp only [List.map_cons, List.map_nil, List.cons_append, List.nil_append, List.replicate, Nat.reduceSub]
  have hO : stL' (xs.map .leaf) 0 = xs.map Nd.leaf := rfl
  have hN0 : (xs ++ [a]).map Nd.leaf = xs.map Nd.leaf ++ [.leaf a] := by simp
  have hok := stL_ok hx hl
  generalize hOd : xs.map Nd.leaf = O at *
  generalize hNd : (xs ++ [a]).map Nd.leaf = N at *
  refine seq_cut (fun ρ st' => st' = st ++ [.lst []] ∧ ρ = [some (.ref gA), some a, some (.ref st.length), none, none, none, none, none]) ?_ ?_
  · simp only [sp_set, wp_lst, wp_nil, List.set_cons_zero, List.set_cons_succ]
    exact ⟨by simp [sizeLine], by first | exact rfl | exact trivial, by first | exact rfl | exact trivial⟩
  rintro ρ st1 ⟨rfl, rfl⟩
  have g1 : Grown st (st ++ [Ob.lst []]) := .one _ _
  have hgA := (List.getElem?_eq_some_iff.mp h.i).1
  have hrl := stL_lt h.h
  have q0 : stL (st ++ [Ob.lst []]) st.length = some [] := stL_new
  have T1 := h.T.grown g1
  have i1 := g1.get h.i
  have hln : (st ++ [Ob.lst []]).length = st.length + 1 := by simp
  have get1 : ∀ i, i < st.length → (st ++ [Ob.lst []])[i]? = st[i]? := fun i hi => List.getElem?_append_left hi
  refine seq_cut (fun ρ st' => ∃ f', AeS st f.length f' gA t r st.length ls O N 0 (some (.leaf a)) st' ∧ ρ = [some (.ref gA), some a, some (.ref st.length), some (numA f' (.leaf a)), none, none, none, none]) ?_ ?_
  · simp only [sp_set, wp_meth, wp_fld, wp_tup, wp_cons, wp_nil, wp_c, wp_var, List.getElem?_cons_succ, List.getElem?_cons_zero, Option.some.injEq, ex_eq, insA_of i1, gro_t, insA_of T1.i, tab_m2, true_and, List.set_cons_zero, List.set_cons_succ]
    refine ⟨by simp [size_eq], ?_⟩
    have ea : A.tup [.str "leaf", a] = entA f (.leaf a) := rfl
    rw [ea]
    have hEl : El a := hx a (by simp)
    have hOkt : Okt (.leaf a) := (hok 0).okt hl (by omega) _ (by show Nd.leaf a ∈ N; rw [hN0]; simp)
    refine NO T1 hOkt (by simp [kids]) (by omega) fun st' f' T' => ?_
    obtain ⟨g, eg, hm, hgl⟩ := addN_pre f (.leaf a)
    refine ⟨_, ⟨?_, ⟨[], f'.stL (by have := h.ot; omega) q0, Nat.le_refl _⟩, hrl, fun i l hi => .inr (h.lt i l hi), by rw [eg, List.length_append]; omega, by omega, (fun q => by cases q), fun _ => Nat.zero_le _, fun y hy => ?_, fun i hi => by rw [f'.get i (by omega) (by have := h.og; omega), get1 i (by omega)]⟩, rfl⟩
    · have hm0 : mixR O N 0 = stL' O := by
        funext k
        unfold mixR
        rw [if_neg (Nat.not_lt_zero _)]
      rw [hm0, eg]
      rw [eg] at T'
      refine h.far T' (by have := f'.len; omega) fun i hi h1 h2 => ?_
      rw [f'.get i (by omega) h1, get1 i hi]
    · cases hy
      refine ⟨hm, ?_⟩
      show N = O ++ [Nd.leaf a]
      exact hN0
  clear T1 i1 q0 g1 get1 hln
  rintro ρ st1 ⟨f1, S1, rfl⟩
  refine seq_cut (fun ρ st' => AeS st f.length f1 gA t r st.length ls O N 0 (some (.leaf a)) st' ∧ ρ = [some (.ref gA), some a, some (.ref st.length), some (numA f1 (.leaf a)), some (.int ((0 : Nat) : Int)), none, none, none]) ?_ ?_
  · simp only [sp_set, wp_c, List.set_cons_zero, List.set_cons_succ]
    exact ⟨S1, by trivial⟩
  clear S1
  rintro ρ st1 ⟨S1, rfl⟩
  refine seq_cut (fun ρ st' => ∃ (f' : List Nd) (ls' : List Nat) (j : Nat) (v3 v5 v6 v7 : Option A), AeS st f.length f' gA t r st.length ls' O N j none st' ∧ (∀ i, i < ls'.length → mixR O N j i ≠ []) ∧ ρ = [some (.ref gA), some a, some (.ref st.length), v3, some (.int ((j : Nat) : Int)), v5, v6, v7]) ?_ ?_
  · rw [← hW]
    refine while_wp (fun ρ st' => ∃ (f' : List Nd) (ls' : List Nat) (j : Nat) (x : Option Nd) (v5 v6 v7 : Option A), AeS st f.length f' gA t r st.length ls' O N j x st' ∧ (∀ i, i < ls'.length → mixR O N j i ≠ []) ∧ ρ = [some (.ref gA), some a, some (.ref st.length), some (xA f' x), some (.int ((j : Nat) : Int)), v5, v6, v7]) (fun ρ _ => lvl ρ) ?_ ⟨f1, ls, 0, some (.leaf a), none, none, none, S1, (fun i hi => by unfold mixR; rw [if_neg (Nat.not_lt_zero _)]; exact hne i hi), rfl⟩
    clear S1
    rintro ρ st2 ⟨f2, ls2, j, x, v5, v6, v7, S, hnm, rfl⟩
    simp only [wp_gb, wp_bin, wp_var, wp_c, List.getElem?_cons_succ, List.getElem?_cons_zero, Option.some.injEq, ex_eq, w_notN, w_getB]
    cases x with
    | none =>
      have : isNonA (xA f2 none) = true := rfl
      rw [this]
      simp only [Bool.not_true, Bool.false_eq_true, if_false]
      exact ⟨f2, ls2, j, _, _, _, _, S, hnm, rfl⟩
    | some y =>
      have hnn : isNonA (xA f2 (some y)) = false := rfl
      rw [hnn]
      simp only [Bool.not_false, if_true]
      have hxa : xA f2 (some y) = numA f2 y := rfl
      rw [hxa]
      obtain ⟨yf, yN⟩ := S.so y rfl
      have hNj := hok j
      have hNne : stL' N j ≠ [] := by rw [yN]; simp
      have hj10 := few_levels hNj hl hNne
      have hRj : mixR O N j j = stL' O j := by unfold mixR; rw [if_neg (Nat.lt_irrefl _)]
      -- the layer
      refine seq_cut (fun ρ st' => ∃ ls' l, AeS st f.length f2 gA t r st.length ls' O N j (some y) st' ∧ ls'[j]? = some l ∧ (∀ i, i < ls'.length → i ≠ j → mixR O N j i ≠ []) ∧ ρ = [some (.ref gA), some a, some (.ref st.length), some (numA f2 y), some (.int ((j : Nat) : Int)), v5, v6, v7]) ?_ ?_
      · simp only [sp_ifs, wp_gb, wp_bin, wp_ca, wp_fld, wp_cons, wp_nil, wp_var, List.getElem?_cons_succ, List.getElem?_cons_zero, Option.some.injEq, ex_eq, insA_of S.g.i, gro_l, w_lenL, S.g.h, List.length_map, w_eq, w_getB]
        have hjl := S.jl (by simp)
        by_cases c : j = ls2.length
        · rw [decide_eq_true (show ((j : Nat) : Int) = ((ls2.length : Nat) : Int) by rw [c])]
          simp only [if_true, sp_expr, wp_bm, wp_fld, wp_make, wp_cons, wp_nil, wp_var, List.getElem?_cons_succ, List.getElem?_cons_zero, Option.some.injEq, ex_eq, insA_of S.g.i, gro_l, isL_ref, S.g.h, Option.isSome_some, true_and]
          refine IN (f := f2) fun st4 g4 l4 L4 => ?_
          have h4 := g4.stL S.g.h
          rw [w_append]
          have hr4 := stL_lt S.g.h
          obtain ⟨fs, q1, q2⟩ := S.hq
          have hql := stL_lt q1
          have hqr := S.qr
          have get4 : ∀ i, i < st2.length → i ≠ r → (st4.set r (.lst (ls2.map A.ref ++ [.ref st2.length])))[i]? = st2[i]? := fun i hi hne => by
            rw [List.getElem?_set_ne (Ne.symm hne)]
            obtain ⟨z, hz⟩ := g4
            rw [hz, List.getElem?_append_left hi]
          have sp : ∀ (i l : Nat), (ls2 ++ [st2.length])[i]? = some l → (i < ls2.length ∧ ls2[i]? = some l) ∨ (i = ls2.length ∧ l = st2.length) := fun i l hi => by
            by_cases q : i < ls2.length
            · rw [List.getElem?_append_left q] at hi
              exact .inl ⟨q, hi⟩
            · have h1 := (List.getElem?_eq_some_iff.mp hi).1
              simp at h1
              have h2 : i = ls2.length := by omega
              rw [h2, List.getElem?_append_right (Nat.le_refl _), Nat.sub_self] at hi
              simp at hi
              exact .inr ⟨h2, hi.symm⟩
          refine ⟨by trivial, ls2.map A.ref, h4, by rw [List.length_map]; omega, ls2 ++ [st2.length], st2.length, ⟨⟨?_, ?_, ?_, fun i l hi => ?_, fun i hi => S.g.e i (by simp at hi; omega), S.g.og, S.g.ot, fun i l hi => ?_, fun i i' a b hii ha hb => ?_, fun i l hi => ?_⟩, ⟨fs, ?_, q2⟩, hqr, fun i l hi => ?_, S.fl, S.lj, (fun q => by cases q), fun _ => by simp; omega, S.so, fun i hi => by rw [get4 i (by have := (List.getElem?_eq_some_iff.mp S.g.i).1; omega) (by have := S.g.og; have := S.g.ot; omega)]; exact S.fr i hi⟩, by rw [c]; simp, (fun i hi hij => hnm i (by simp at hi; omega)), by trivial⟩
          · rw [get4 gA ((List.getElem?_eq_some_iff.mp S.g.i).1) (by have := S.g.og; have := S.g.ot; omega)]
            exact S.g.i
          · exact (S.g.T.grown g4).set (.inr S.g.ot)
          · rw [stL_set_self h4, List.map_append]
            rfl
          · rcases sp i l hi with ⟨h1, h2⟩ | ⟨h1, h2⟩
            · obtain ⟨fin, L⟩ := S.g.L i l h2
              have a1 := S.g.ol i l h2
              have a2 := S.g.lt i l h2
              have := L.move (g := []) (st' := st4.set r (.lst (ls2.map A.ref ++ [.ref st2.length]))) fun u b1 b2 => get4 u (by omega) (by omega)
              rw [List.append_nil] at this
              exact ⟨fin, this⟩
            · subst h2
              have := L4.move (g := []) (st' := st4.set r (.lst (ls2.map A.ref ++ [.ref st2.length]))) fun u b1 b2 => List.getElem?_set_ne (by omega)
              rw [List.append_nil] at this
              rw [S.g.e i (by omega)]
              exact ⟨0, this⟩
          · rcases sp i l hi with ⟨h1, h2⟩ | ⟨h1, h2⟩
            · exact S.g.ol i l h2
            · omega
          · rcases sp i a ha with ⟨h1, h2⟩ | ⟨h1, h2⟩
            · rcases sp i' b hb with ⟨h3, h5⟩ | ⟨h3, h5⟩
              · exact S.g.os i i' a b hii h2 h5
              · rw [h5]
                exact S.g.lt i a h2
            · rcases sp i' b hb with ⟨h3, h5⟩ | ⟨h3, h5⟩ <;> omega
          · rw [List.length_set, l4]
            rcases sp i l hi with ⟨h1, h2⟩ | ⟨h1, h2⟩
            · have := S.g.lt i l h2
              omega
            · omega
          · rw [stL_set_ne (by omega)]
            exact g4.stL q1
          · rcases sp i l hi with ⟨h1, h2⟩ | ⟨h1, h2⟩
            · exact S.ql i l h2
            · omega
        · rw [decide_eq_false (show ¬ ((j : Nat) : Int) = ((ls2.length : Nat) : Int) by omega)]
          simp only [Bool.false_eq_true, if_false, sp_next]
          exact ⟨ls2, ls2[j]'(by omega), S, List.getElem?_eq_getElem (by omega), (fun i hi _ => hnm i hi), by trivial⟩
      clear S hnm
      rintro ρ st3 ⟨ls3, l, S, hlj, hnm, rfl⟩
      have hTl : t + 4 < l := by have := S.g.ot; have := S.g.ol j l hlj; omega
      have hat : atI (ls3.map A.ref) ((j : Nat) : Int) = some (.ref l) := by
        rw [atI_nn (by omega), Int.toNat_natCast, List.getElem?_map, hlj]
        rfl
      refine seq_cut (fun ρ st' => st' = st3 ∧ ρ = [some (.ref gA), some a, some (.ref st.length), some (numA f2 y), some (.int ((j : Nat) : Int)), some (.ref l), v6, v7]) ?_ ?_
      · simp only [sp_set, wp_bin, wp_fld, wp_var, List.getElem?_cons_succ, List.getElem?_cons_zero, Option.some.injEq, ex_eq, insA_of S.g.i, gro_l, w_ixL, S.g.h, hat, List.set_cons_zero, List.set_cons_succ]
        exact ⟨by trivial, by trivial⟩
      rintro ρ st4 ⟨rfl, rfl⟩
      obtain ⟨fin, Lj⟩ := S.g.L j l hlj
      rw [hRj] at Lj
      have hfl := S.fl
      refine seq_cut (fun ρ st' => ∃ (o : Option (List Nd)) (g : List Nd), g.length ≤ 1 ∧ Tab (f2 ++ g) t st' ∧ LayOk (f2 ++ g) l (stL' N j) fin st' ∧ Fr8 t l st4 st' ∧ (o = none → stL' N (j + 1) = stL' O (j + 1)) ∧ (∀ p, o = some p → stL' N (j + 1) = stL' O (j + 1) ++ [.blk p] ∧ ∀ c ∈ p, c ∈ f2 ++ g) ∧ ρ = [some (.ref gA), some a, some (.ref st.length), some (numA f2 y), some (.int ((j : Nat) : Int)), some (.ref l), some (match o with | none => .non | some p => entA (f2 ++ g) (.blk p)), v7]) ?_ ?_
      · have iL := Lj.s.i
        simp only [sp_set, wp_meth, wp_fld, wp_cons, wp_nil, wp_var, List.getElem?_cons_succ, List.getElem?_cons_zero, Option.some.injEq, ex_eq, insA_of S.g.i, gro_t, insA_of iL, lay_m3, true_and, List.set_cons_zero, List.set_cons_succ]
        refine AN S.g.T hTl Lj yf (by rw [← yN]; exact hNj) hl (by omega) (by omega) (fun hs f' st' ⟨g, eg, hg⟩ T' L' F' => ?_) (fun p hs f' st' ⟨g, eg, hg⟩ hp T' L' F' => ?_)
        · rw [← yN] at L' hs
          rw [eg] at T' L'
          exact ⟨none, g, hg, T', L', F', fun _ => hs, (fun p q => by cases q), rfl⟩
        · rw [← yN] at L' hs
          rw [eg] at T' L' hp ⊢
          exact ⟨some p, g, hg, T', L', F', (fun q => by cases q), (fun p' q => by cases q; exact ⟨hs, hp⟩), rfl⟩
      rintro ρ st5 ⟨o, g, hg, T5, L5, F5, ho0, ho1, rfl⟩
      have hmix : ∀ i, i ≠ j → mixR O N (j + 1) i = mixR O N j i := fun i hi => by
        have := congrFun (mix_up (O := O) (N := N) (j := j)) i
        simp only [if_neg hi] at this
        exact this.symm
      have hnm2 : ∀ i, i < ls3.length → mixR O N (j + 1) i ≠ [] := fun i hi => by
        by_cases c : i = j
        · subst c
          unfold mixR
          rw [if_pos (Nat.lt_succ_self i)]
          exact hNne
        · rw [hmix i c]
          exact hnm i hi c
      have hmj : mixR O N (j + 1) j = stL' N j := by unfold mixR; rw [if_pos (Nat.lt_succ_self j)]
      have G5 : GrS (f2 ++ g) gA t r ls3 (mixR O N (j + 1)) st5 := S.g.step hlj T5 (by rw [hmj]; exact L5) F5 hmix
      obtain ⟨fs, hq1, hq2⟩ := S.hq
      have hqr := S.qr
      have hql := S.ql
      have hot := S.g.ot
      have hqlt := stL_lt hq1
      have hq5 : stL st5 st.length = some fs := stL_of (by rw [F5.get _ hqlt (by omega) (by have := hql j l hlj; omega)]; exact stL_eq hq1)
      have hjl3 := (List.getElem?_eq_some_iff.mp hlj).1
      have hfr5 : ∀ i, i < gA → st5[i]? = st[i]? := fun i hi => by
        have h1 := (List.getElem?_eq_some_iff.mp S.g.i).1
        have h2 := S.g.og
        rw [F5.get i (by omega) (by omega) (by omega)]
        exact S.fr i hi
      have hog := S.g.og
      clear S T5 F5 hq1
      refine seq_cut (fun ρ st' => st' = st5 ∧ ρ = [some (.ref gA), some a, some (.ref st.length), some .non, some (.int ((j : Nat) : Int)), some (.ref l), some (match o with | none => .non | some p => entA (f2 ++ g) (.blk p)), v7]) ?_ ?_
      · simp only [sp_set, wp_c, List.set_cons_zero, List.set_cons_succ]
        exact ⟨by trivial, by trivial⟩
      rintro ρ st6 ⟨rfl, rfl⟩
      refine seq_cut (fun ρ st' => st' = st6 ∧ ρ = [some (.ref gA), some a, some (.ref st.length), some .non, some (.int ((j + 1 : Nat) : Int)), some (.ref l), some (match o with | none => .non | some p => entA (f2 ++ g) (.blk p)), v7]) ?_ ?_
      · have ei : iaddA (.int ((j : Nat) : Int)) (.int 1) st6 = .ok (.int ((j + 1 : Nat) : Int)) st6 := rfl
        simp only [sp_aug, wp_c, List.getElem?_cons_succ, List.getElem?_cons_zero, Option.some.injEq, ex_eq, ei, wp_ok, List.set_cons_zero, List.set_cons_succ]
        exact ⟨by trivial, by trivial⟩
      rintro ρ st7 ⟨rfl, rfl⟩
      have hmu : ∀ (v3 v5 v6 v7 w3 w5 w6 w7 : Option A) (u : Nat), u = j + 1 → lvl [some (.ref gA), some a, some (.ref st.length), v3, some (.int ((u : Nat) : Int)), v5, v6, v7] < lvl [some (.ref gA), some a, some (.ref st.length), w3, some (.int ((j : Nat) : Int)), w5, w6, w7] := fun v3 v5 v6 v7 w3 w5 w6 w7 u hu => by
        show 30 - ((u : Nat) : Int).toNat < 30 - ((j : Nat) : Int).toNat
        omega
      cases o with
      | none =>
        have hd := ho0 rfl
        simp only [sp_ifs, wp_gb, wp_bin, wp_var, wp_c, List.getElem?_cons_succ, List.getElem?_cons_zero, Option.some.injEq, ex_eq, w_notN, isNonA, Bool.not_true, w_getB, Bool.false_eq_true, if_false, sp_next]
        refine ⟨⟨f2 ++ g, ls3, j + 1, none, _, _, _, ⟨G5, ⟨fs, hq5, by omega⟩, hqr, hql, by rw [List.length_append]; omega, by omega, fun _ i => ?_, fun q => absurd rfl q, (fun y q => by cases q), hfr5⟩, hnm2, rfl⟩, hmu _ _ _ _ _ _ _ _ _ rfl⟩
        unfold mixR
        by_cases c : i < j + 1
        · rw [if_pos c]
        · rw [if_neg c]
          have := same_up hd (i - (j + 1))
          rw [show j + 1 + (i - (j + 1)) = i by omega] at this
          exact this.symm
      | some p =>
        obtain ⟨hN1, hp⟩ := ho1 p rfl
        have hOkt : Okt (.blk p) := (hok (j + 1)).okt hl (by omega) _ (by rw [hN1]; simp)
        obtain ⟨g2, eg2, hgm, hg2⟩ := addN_pre (f2 ++ g) (.blk p)
        have hen : isNonA (entA (f2 ++ g) (.blk p)) = false := rfl
        have iG := G5.i
        have iT := G5.T.i
        simp only [sp_ifs, wp_gb, wp_bin, wp_var, wp_c, List.getElem?_cons_succ, List.getElem?_cons_zero, Option.some.injEq, ex_eq, w_notN, hen, Bool.not_false, w_getB, if_true]
        refine seq_cut (fun ρ st' => Tab ((f2 ++ g) ++ g2) t st' ∧ FrT t st7 st' ∧ ρ = [some (.ref gA), some a, some (.ref st.length), some (numA ((f2 ++ g) ++ g2) (.blk p)), some (.int ((j + 1 : Nat) : Int)), some (.ref l), some (entA (f2 ++ g) (.blk p)), v7]) ?_ ?_
        · simp only [sp_set, wp_meth, wp_fld, wp_cons, wp_nil, wp_var, List.getElem?_cons_succ, List.getElem?_cons_zero, Option.some.injEq, ex_eq, insA_of iG, gro_t, insA_of iT, tab_m2, true_and, List.set_cons_zero, List.set_cons_succ]
          refine NO G5.T hOkt (by simpa [kids] using hp) (by rw [List.length_append]; omega) fun st' f' T' => ?_
          rw [eg2] at T' ⊢
          exact ⟨T', f', rfl⟩
        rintro ρ st8 ⟨T8, f8, rfl⟩
        rw [eg2] at hgm
        have G8 : GrS ((f2 ++ g) ++ g2) gA t r ls3 (mixR O N (j + 1)) st8 := G5.far T8 f8.len fun i hi h1 _ => f8.get i hi h1
        have L8 : LayOk ((f2 ++ g) ++ g2) l (stL' N j) fin st8 := L5.move fun i a b => f8.get i (by have := G5.lt j l hlj; omega) (by omega)
        have q8 : stL st8 st.length = some fs := f8.stL (by omega) hq5
        have hfr8 : ∀ i, i < gA → st8[i]? = st[i]? := fun i hi => by
          have h1 := (List.getElem?_eq_some_iff.mp G5.i).1
          rw [f8.get i (by omega) (by omega)]
          exact hfr5 i hi
        clear iG iT G5 L5 hq5 f8
        have hsz8 : atI (((f2 ++ g) ++ g2).map szA) (idx ((f2 ++ g) ++ g2) (.blk p) : Nat) = some (szA (.blk p)) := at_idx (g := szA) hgm
        refine seq_cut (fun ρ st' => st' = st8 ∧ ρ = [some (.ref gA), some a, some (.ref st.length), some (numA ((f2 ++ g) ++ g2) (.blk p)), some (.int ((j + 1 : Nat) : Int)), some (.ref l), some (entA (f2 ++ g) (.blk p)), some (.int ((fin : Nat) : Int))]) ?_ ?_
        · have il := L8.s.i
          simp only [sp_set, wp_fld, wp_var, List.getElem?_cons_succ, List.getElem?_cons_zero, Option.some.injEq, ex_eq, insA_of il, lay_end, lf_fin, List.set_cons_zero, List.set_cons_succ]
          exact ⟨by trivial, by trivial⟩
        rintro ρ st9 ⟨rfl, rfl⟩
        refine seq_cut (fun ρ st' => LayOk ((f2 ++ g) ++ g2) l (stL' N j) (fin + szN (.blk p)) st' ∧ (∃ o, st' = st9.set l o) ∧ ρ = [some (.ref gA), some a, some (.ref st.length), some (numA ((f2 ++ g) ++ g2) (.blk p)), some (.int ((j + 1 : Nat) : Int)), some (.ref l), some (entA (f2 ++ g) (.blk p)), some (.int ((fin : Nat) : Int))]) ?_ ?_
        · have il := L8.s.i
          have iG8 := G8.i
          have iT8 := G8.T.i
          have esum : addA (.int ((fin : Nat) : Int)) (szA (.blk p)) st9 = .ok (.int ((fin + szN (.blk p) : Nat) : Int)) st9 := rfl
          simp only [sp_putf, wp_bin, wp_fld, wp_var, List.getElem?_cons_succ, List.getElem?_cons_zero, Option.some.injEq, ex_eq, insA_of iG8, gro_t, insA_of iT8, tab_siz, numA, w_ixL, G8.T.z, hsz8, esum, wp_ok, setIA_eq il (lay_len l _), put_end]
          refine ⟨⟨?_, L8.m⟩, ⟨_, rfl⟩, by trivial⟩
          have := L8.s.put (G := { lfOf ((f2 ++ g) ++ g2) (stL' N j) fin with fin := fin + szN (.blk p) })
          rw [lf_setfin] at this ⊢
          exact this
        rintro ρ st10 ⟨L10, ⟨ob, rfl⟩, rfl⟩
        have ilt := (List.getElem?_eq_some_iff.mp L8.s.i).1
        have G10 : GrS ((f2 ++ g) ++ g2) gA t r ls3 (mixR O N (j + 1)) (st9.set l ob) := by
          have := G8.step (g := []) (R' := mixR O N (j + 1)) (st' := st9.set l ob) hlj (by rw [List.append_nil]; exact G8.T.set (.inr hTl)) (by rw [List.append_nil, hmj]; exact L10) (Fr8.set (Nat.le_refl _) (by omega)) (fun i _ => rfl)
          rwa [List.append_nil] at this
        have hlq := hql j l hlj
        have q10 : stL (st9.set l ob) st.length = some fs := by rw [stL_set_ne' (by omega)]; exact q8
        have hfr10 : ∀ i, i < gA → (st9.set l ob)[i]? = st[i]? := fun i hi => by
          rw [List.getElem?_set_ne (by omega)]
          exact hfr8 i hi
        generalize st9.set l ob = st10 at *
        have il10 := L10.s.i
        simp only [sp_expr, wp_bm, wp_tup, wp_fld, wp_cons, wp_nil, wp_var, List.getElem?_cons_succ, List.getElem?_cons_zero, Option.some.injEq, ex_eq, isL_ref, q10, Option.isSome_some, true_and, insA_of il10, lay_end]
        refine ⟨by simp [size_eq], ?_⟩
        rw [w_append]
        refine ⟨fs, q10, by omega, ⟨(f2 ++ g) ++ g2, ls3, j + 1, some (.blk p), _, _, _, ⟨?_, ⟨_, stL_set_self q10, by rw [List.length_append]; simp; omega⟩, hqr, hql, by simp only [List.length_append]; omega, by omega, (fun q => by cases q), fun _ => by omega, fun y' hy' => ?_, fun i hi => by rw [List.getElem?_set_ne (by omega)]; exact hfr10 i hi⟩, hnm2, rfl⟩, hmu _ _ _ _ _ _ _ _ _ rfl⟩
        · have := G10.far (g := []) (st' := st10.set st.length (.lst (fs ++ [A.tup [.int ((j + 1 : Nat) : Int), .int ((fin : Nat) : Int), .int (((lfOf ((f2 ++ g) ++ g2) (stL' N j) (fin + szN (.blk p))).fin : Nat) : Int)]]))) (by rw [List.append_nil]; exact G10.T.set (.inr (by omega))) (by rw [List.length_set]; exact Nat.le_refl _) fun i _ _ h2 => by
            refine List.getElem?_set_ne ?_
            rcases h2 with h2 | ⟨i', l', h3, h4, h5⟩
            · omega
            · have := hql i' l' h3
              omega
          rwa [List.append_nil] at this
        · cases hy'
          exact ⟨hgm, hN1⟩
  rintro ρ st2 ⟨f2, ls2, j, v3, v5, v6, v7, S, hnm, rfl⟩
  simp only [sp_ret, wp_var, List.getElem?_cons_succ, List.getElem?_cons_zero, Option.some.injEq, ex_eq]
  have e : mixR O N j = stL' N := funext fun i => S.no rfl i
  have hg := S.g
  rw [e] at hg
  exact k f2 ls2 st2 _ hg (by have := S.fl; have := S.lj; omega) S.fr fun i hi => by rw [← S.no rfl i]; exact hnm i hi
end Law
namespace Law
open PySem L2 ML
def m_Growth_settled_counts : MF := mFn 2 1 (mRet (mCa tupleA (mCons (mLc (mSrc (mFld "Growth" "layers" (mVar 0))) (.one 1) [1] mYes (mFld "Layer" "count" (mVar 1))) mNil)))
def m_Growth___init__ : MF := mFn 1 1 (mSeq (mPutF "Growth" "table" (mVar 0) (mMake "NodeTable" m_NodeTable___init__ mNil))
    (mPutF "Growth" "layers" (mVar 0) (mLst mNil)))
noncomputable def m_settled_of : MF := mFn 3 1 (mSeq (mSet 1 (mMake "Growth" m_Growth___init__ mNil))
    (mSeq (mFor (mSrc (mVar 0)) (.one 2) (mExpr (mMeth "Growth" "add_element" m_Growth_add_element (mVar 1) (mCons (mVar 2) mNil))))
    (mRet (mMeth "Growth" "settled_counts" m_Growth_settled_counts (mVar 1) mNil))))
open Classical
theorem stL_nil : ∀ j, stL' [] j = []
  | 0 => rfl
  | j + 1 => by
    show stN (stL' [] j) = []
    rw [stL_nil j]
    obtain ⟨more, q⟩ := st_pre []
    rw [nxt_nil] at q
    exact (List.append_eq_nil_iff.mp q.symm).1
theorem growth_init_wp {st : Store} {Q : A → Store → Prop} (k : ∀ r st', Hold st st' → GrS [] st.length (st.length + 1) r [] (stL' []) st' → Q .non st') : (m_Growth___init__ [.ref st.length] (st ++ [.oth (.ins "Growth" [])])).wp Q := by
  simp only [m_Growth___init__]
  have IN := @init_wp
  generalize m_NodeTable___init__ = mi at IN ⊢
  rw [wp_fn]
  refine ⟨rfl, ?_⟩
  simp only [List.map_cons, List.map_nil, List.cons_append, List.nil_append, List.replicate, Nat.reduceSub]
  have hl : (st ++ [Ob.oth (.ins "Growth" [])]).length = st.length + 1 := by simp
  have h0 : (st ++ [Ob.oth (.ins "Growth" [])])[st.length]? = some (.oth (.ins "Growth" [])) := by
    rw [List.getElem?_append_right (Nat.le_refl _), Nat.sub_self]
    rfl
  simp only [sp_seq, sp_putf, wp_make, wp_cons, wp_nil, wp_var, List.getElem?_cons_succ, List.getElem?_cons_zero, Option.some.injEq, ex_eq]
  refine IN fun st1 H1 T1 => ?_
  rw [hl] at T1 ⊢
  have hl1 := H1.len
  rw [hl] at hl1
  have i1 : st1[st.length]? = some (.oth (.ins "Growth" [])) := by rw [H1.get _ (by omega)]; exact h0
  have hz := stL_lt T1.z
  simp only [true_and, wp_var, List.getElem?_cons_succ, List.getElem?_cons_zero, Option.some.injEq, ex_eq, setIA_eq i1 (by decide)]
  have i2 : (st1.set st.length (.oth (.ins "Growth" (putFA "table" (.ref (st.length + 1)) []))))[st.length]? = some (.oth (.ins "Growth" (putFA "table" (.ref (st.length + 1)) []))) := List.getElem?_set_self (by omega)
  have T2 : Tab [] (st.length + 1) (st1.set st.length (.oth (.ins "Growth" (putFA "table" (.ref (st.length + 1)) [])))) := T1.set (.inl (by omega))
  have l2 : (st1.set st.length (.oth (.ins "Growth" (putFA "table" (.ref (st.length + 1)) [])))).length = st1.length := List.length_set ..
  have o2 : ∀ i, i < st.length → (st1.set st.length (.oth (.ins "Growth" (putFA "table" (.ref (st.length + 1)) []))))[i]? = st[i]? := fun i hi => by
    rw [List.getElem?_set_ne (by omega), H1.get i (by omega), List.getElem?_append_left hi]
  generalize st1.set st.length (.oth (.ins "Growth" (putFA "table" (.ref (st.length + 1)) []))) = st2 at *
  have g3 : Grown st2 (st2 ++ [Ob.lst []]) := .one _ _
  have i3 := g3.get i2
  simp only [wp_lst, wp_nil, wp_var, List.getElem?_cons_succ, List.getElem?_cons_zero, Option.some.injEq, ex_eq, setIA_eq i3 (by show 1 < 1000; decide)]
  refine ⟨by simp [sizeLine], ?_⟩
  refine k st2.length _ ⟨by rw [List.length_set, List.length_append]; omega, fun i hi => ?_⟩ ⟨?_, ?_, ?_, fun j l hj => by simp at hj, fun j _ => stL_nil j, by omega, by omega, fun j l hj => by simp at hj, fun i j a b _ ha => by simp at ha, fun j l hj => by simp at hj⟩
  · rw [List.getElem?_set_ne (by omega), List.getElem?_append_left (by omega)]
    exact o2 i hi
  · rw [List.getElem?_set_self (by rw [List.length_append]; omega)]
    rfl
  · exact (T2.grown g3).set (.inl (by omega))
  · rw [stL_set_ne' (by omega), stL_new]
    rfl
theorem settled_of_wp {xs : List A} {st : Store} {Q : A → Store → Prop} (hx : ∀ y ∈ xs, El y) (hl : xs.length ≤ 2000) (k : ∀ n st', Hold st st' → (∀ i, i < n → stL' (xs.map .leaf) i ≠ []) → stL' (xs.map .leaf) n = [] → Q (.tup ((List.range n).map fun i => A.int ((stL' (xs.map .leaf) i).length : Nat))) st') : (m_settled_of [.tup xs] st).wp Q := by
  simp only [m_settled_of]
  have GI := @growth_init_wp
  have AE := @add_element_wp
  generalize m_Growth___init__ = gi at GI ⊢
  generalize m_Growth_add_element = ae at AE ⊢
  generalize hF : @mFor = F
  rw [wp_fn]
  refine ⟨rfl, ?_⟩
  have hsz := size_eq
  simp only [List.map_cons, List.map_nil, List.cons_append, List.nil_append, List.replicate, Nat.reduceSub]
  refine seq_cut (fun ρ st' => ∃ r, GrS [] st.length (st.length + 1) r [] (stL' []) st' ∧ (∀ i, i < st.length → st'[i]? = st[i]?) ∧ ρ = [some (.tup xs), some (.ref st.length), none]) ?_ ?_
  · simp only [sp_set, wp_make, wp_cons, wp_nil, List.set_cons_zero, List.set_cons_succ]
    exact GI fun r st' H G => ⟨rfl, r, G, H.get, by trivial⟩
  rintro ρ st1 ⟨r, G, hh, rfl⟩
  refine seq_cut (fun ρ st' => ∃ (f : List Nd) (ls : List Nat) (v2 : Option A), GrS f st.length (st.length + 1) r ls (stL' (xs.map .leaf)) st' ∧ (∀ i, i < ls.length → stL' (xs.map .leaf) i ≠ []) ∧ (∀ i, i < st.length → st'[i]? = st[i]?) ∧ ρ = [some (.tup xs), some (.ref st.length), v2]) ?_ ?_
  · rw [← hF]
    simp only [sp_for, wp_src, wp_var, List.getElem?_cons_succ, List.getElem?_cons_zero, Option.some.injEq, ex_eq, w_srcT]
    refine for_vals (fun i ρ st' => ∃ (f : List Nd) (ls : List Nat) (v2 : Option A), GrS f st.length (st.length + 1) r ls (stL' ((xs.take i).map .leaf)) st' ∧ (∀ j, j < ls.length → stL' ((xs.take i).map .leaf) j ≠ []) ∧ f.length ≤ 100 * i ∧ (∀ i, i < st.length → st'[i]? = st[i]?) ∧ ρ = [some (.tup xs), some (.ref st.length), v2]) ⟨[], [], none, G, (fun i hi => absurd hi (Nat.not_lt_zero _)), by simp, hh, rfl⟩ ?_ ?_
    · rintro i x ρ st2 hxi ⟨f, ls, v2, G2, hne, hf, hh2, rfl⟩
      refine ⟨_, rfl, ?_⟩
      have hi := (List.getElem?_eq_some_iff.mp hxi).1
      have et : xs.take (i + 1) = xs.take i ++ [x] := by rw [List.take_add_one, hxi]; rfl
      have hx2 : ∀ y ∈ xs.take i ++ [x], El y := fun y hy => by
        rw [← et] at hy
        exact hx y (List.mem_of_mem_take hy)
      have hl2 : (xs.take i ++ [x]).length ≤ 2000 := by rw [← et, List.length_take]; omega
      have iG := G2.i
      have hm : (groFs (st.length + 1) r).lookup ("add_element" : Str) = none := rfl
      simp only [sp_expr, wp_meth, wp_cons, wp_nil, wp_var, List.set_cons_zero, List.set_cons_succ, List.getElem?_cons_succ, List.getElem?_cons_zero, Option.some.injEq, ex_eq, insA_of iG, hm, true_and]
      refine AE hx2 hl2 G2 (by omega) hne fun f' ls' st' v G' hf' hh' hne' => ?_
      rw [← et] at G' hne'
      exact ⟨f', ls', _, G', hne', by omega, fun i hi => by rw [hh' i hi]; exact hh2 i hi, rfl⟩
    · rintro ρ st2 ⟨f, ls, v2, G2, hne, hf, hh2, rfl⟩
      rw [List.take_length] at G2 hne
      exact ⟨f, ls, v2, G2, hne, hh2, rfl⟩
  rintro ρ st2 ⟨f, ls, v2, G2, hne, hh2, rfl⟩
  have iG := G2.i
  have hm : (groFs (st.length + 1) r).lookup ("settled_counts" : Str) = none := rfl
  simp only [sp_ret, wp_meth, wp_nil, wp_var, List.getElem?_cons_succ, List.getElem?_cons_zero, Option.some.injEq, ex_eq, insA_of iG, hm, true_and, m_Growth_settled_counts]
  rw [wp_fn]
  refine ⟨rfl, ?_⟩
  simp only [List.map_cons, List.map_nil, List.cons_append, List.nil_append, List.replicate, Nat.reduceSub, sp_ret, wp_ca, wp_lc, wp_src, wp_fld, wp_cons, wp_nil, wp_var, List.getElem?_cons_succ, List.getElem?_cons_zero, Option.some.injEq, ex_eq, insA_of iG, gro_l, w_srcL, G2.h, Option.isSome_some, wipeA_cons, wipeA_nil, List.set_cons_zero, List.set_cons_succ]
  refine ⟨trivial, ?_⟩
  have hn0 : stL' (xs.map .leaf) ls.length = [] := G2.e _ (Nat.le_refl _)
  have hl50 : ls.length ≤ 12 := by
    by_cases c : ls.length = 0
    · omega
    · have := few_levels (stL_ok hx hl (ls.length - 1)) hl (hne _ (by omega))
      omega
  refine lc_lst (fun i st4 acc => st4 = st2 ∧ acc = (List.range i).map fun i => A.int ((stL' (xs.map .leaf) i).length : Nat)) G2.h ⟨rfl, rfl⟩ ?_ ?_ ?_
  · rintro i st4 acc ⟨rfl, rfl⟩
    exact G2.h
  · rintro i x st4 acc hxi ⟨rfl, rfl⟩
    refine ⟨_, rfl, ?_⟩
    rw [List.getElem?_map, Option.map_eq_some_iff] at hxi
    obtain ⟨l, hli, rfl⟩ := hxi
    have hi := (List.getElem?_eq_some_iff.mp hli).1
    obtain ⟨fin, L⟩ := G2.L i l hli
    have il := L.s.i
    simp only [wp_yes, if_true, wp_fld, wp_var, List.set_cons_zero, List.set_cons_succ, List.getElem?_cons_succ, List.getElem?_cons_zero, Option.some.injEq, ex_eq, insA_of il, lay_count, lf_count]
    refine ⟨by rw [size_eq, List.length_map, List.length_range]; omega, by trivial, ?_⟩
    rw [List.range_succ, List.map_append, List.map_singleton]
  · rintro st4 acc ⟨rfl, rfl⟩
    rw [w_tupL, stL_new]
    refine ⟨_, rfl, ?_⟩
    rw [List.length_map]
    have hgl := (List.getElem?_eq_some_iff.mp G2.i).1
    exact k ls.length _ ⟨by rw [List.length_append]; omega, fun i hi => by rw [List.getElem?_append_left (by omega)]; exact hh2 i hi⟩ hne hn0
end Law
namespace Law
open PySem L2 ML
open Classical
structure GrE (f : List Nd) (gA t r : Nat) (ls : List Nat) (R : Nat → List Nd) (E : Nat → Nat) (st : Store) : Prop where
  i : st[gA]? = some (.oth (.ins "Growth" (groFs t r)))
  T : Tab f t st
  h : stL st r = some (ls.map A.ref)
  L : ∀ j l, ls[j]? = some l → LayOk f l (R j) (E j) st
  e : ∀ j, ls.length ≤ j → R j = [] ∧ E j = 0
  og : gA < t
  ot : t + 4 < r
  ol : ∀ (j l : Nat), ls[j]? = some l → r < l
  os : ∀ (i j a b : Nat), i < j → ls[i]? = some a → ls[j]? = some b → a + 2 < b
  lt : ∀ (j l : Nat), ls[j]? = some l → l + 2 < st.length
theorem GrE.far {f g : List Nd} {gA t r : Nat} {ls : List Nat} {R : Nat → List Nd} {E : Nat → Nat} {st st' : Store} (h : GrE f gA t r ls R E st) (T : Tab (f ++ g) t st') (hl : st.length ≤ st'.length) (hg : ∀ i, i < st.length → (i ≤ t ∨ t + 4 < i) → (i ≤ r ∨ ∃ (j l : Nat), ls[j]? = some l ∧ l ≤ i ∧ i ≤ l + 2) → st'[i]? = st[i]?) : GrE (f ++ g) gA t r ls R E st' := by
  have hgA := (List.getElem?_eq_some_iff.mp h.i).1
  have hr := stL_lt h.h
  have og := h.og
  have ot := h.ot
  refine ⟨by rw [hg gA hgA (by omega) (.inl (by omega))]; exact h.i, T, stL_of (by rw [hg r hr (by omega) (.inl (Nat.le_refl _))]; exact stL_eq h.h), fun j l hj => ?_, h.e, h.og, h.ot, h.ol, h.os, fun j l hj => Nat.lt_of_lt_of_le (h.lt j l hj) hl⟩
  have L := h.L j l hj
  have h1 := h.ol j l hj
  have h2 := h.lt j l hj
  exact L.move fun i a b => hg i (by omega) (by omega) (.inr ⟨j, l, hj, a, b⟩)
noncomputable def mixE (O N : List Nd) (j k : Nat) : Nat := if k < j then szNs (stL' N (k + 1)) else szNs (stL' O (k + 1))
noncomputable def triE (O N : List Nd) (i : Nat) : A := .tup [.int ((i + 1 : Nat) : Int), .int ((szNs (stL' O (i + 1)) : Nat) : Int), .int ((szNs (stL' N (i + 1)) : Nat) : Int)]
structure AeE (st0 : Store) (F0 : Nat) (f : List Nd) (gA t r q : Nat) (ls : List Nat) (O N : List Nd) (j : Nat) (x : Option Nd) (st : Store) : Prop where
  g : GrE f gA t r ls (mixR O N j) (mixE O N j) st
  hq : ∃ c, stL st q = some ((List.range c).map (triE O N)) ∧ c ≤ j ∧ (x ≠ none → c = j) ∧ (x = none → c + 1 = j ∧ stL' N j = stL' O j) ∧ ∀ i, i < c → stL' N (i + 1) ≠ stL' O (i + 1)
  qr : r < q
  ql : ∀ (i l : Nat), ls[i]? = some l → q < l ∨ l + 2 < q
  fl : f.length ≤ F0 + 1 + 3 * j
  lj : j ≤ 20
  no : x = none → ∀ k, mixR O N j k = stL' N k
  jl : x ≠ none → j ≤ ls.length
  so : ∀ y, x = some y → y ∈ f ∧ stL' N j = stL' O j ++ [y]
  fr : ∀ i, i < gA → st[i]? = st0[i]?
theorem GrE.step {f g : List Nd} {gA t r l j : Nat} {ls : List Nat} {R R' : Nat → List Nd} {E E' : Nat → Nat} {st st' : Store} (h : GrE f gA t r ls R E st) (hj : ls[j]? = some l) (T : Tab (f ++ g) t st') (L : LayOk (f ++ g) l (R' j) (E' j) st') (F : Fr8 t l st st') (hR : ∀ i, i ≠ j → R' i = R i ∧ E' i = E i) : GrE (f ++ g) gA t r ls R' E' st' := by
  have hgA := (List.getElem?_eq_some_iff.mp h.i).1
  have hr := stL_lt h.h
  have og := h.og
  have ot := h.ot
  have hjl := (List.getElem?_eq_some_iff.mp hj).1
  have hrl := h.ol j l hj
  refine ⟨by rw [F.get gA hgA (by omega) (by omega)]; exact h.i, T, stL_of (by rw [F.get r hr (by omega) (by omega)]; exact stL_eq h.h), fun i l' hi => ?_, fun i hi => by rw [(hR i (by omega)).1, (hR i (by omega)).2]; exact h.e i hi, h.og, h.ot, h.ol, h.os, fun i l' hi => Nat.lt_of_lt_of_le (h.lt i l' hi) F.len⟩
  by_cases c : i = j
  · subst c
    rw [hj] at hi
    cases hi
    exact L
  · have L' := h.L i l' hi
    have h1 := h.ol i l' hi
    have h2 := h.lt i l' hi
    have hd : l' + 2 < l ∨ l + 2 < l' := by
      rcases Nat.lt_or_gt_of_ne c with q | q
      · exact .inl (h.os i j l' l q hi hj)
      · exact .inr (h.os j i l l' q hj hi)
    rw [(hR i c).1, (hR i c).2]
    exact L'.move fun u a b => F.get u (by omega) (by omega) (by omega)
theorem add_element_wpE {xs : List A} {a : A} {f : List Nd} {gA t r : Nat} {ls : List Nat} {st : Store} {Q : A → Store → Prop} (hx : ∀ y ∈ xs ++ [a], El y) (hl : (xs ++ [a]).length ≤ 2000) (h : GrE f gA t r ls (stL' (xs.map .leaf)) (fun i => szNs (stL' (xs.map .leaf) (i + 1))) st) (hf : f.length ≤ 600000) (hne : ∀ i, i < ls.length → stL' (xs.map .leaf) i ≠ [])
    (k : ∀ f' ls' st' c, GrE f' gA t r ls' (stL' ((xs ++ [a]).map .leaf)) (fun i => szNs (stL' ((xs ++ [a]).map .leaf) (i + 1))) st' → stL st' st.length = some ((List.range c).map (triE (xs.map .leaf) ((xs ++ [a]).map .leaf))) → c ≤ 20 → (∀ i, i < c → stL' ((xs ++ [a]).map .leaf) (i + 1) ≠ stL' (xs.map .leaf) (i + 1)) → stL' ((xs ++ [a]).map .leaf) (c + 1) = stL' (xs.map .leaf) (c + 1) → f'.length ≤ f.length + 100 → (∀ i, i < gA → st'[i]? = st[i]?) → (∀ i, i < ls'.length → stL' ((xs ++ [a]).map .leaf) i ≠ []) → Q (.ref st.length) st') : (m_Growth_add_element [.ref gA, a] st).wp Q := by
  simp only [m_Growth_add_element]
  have NO := @number_of_wp
  have IN := @layer_init_wp
  have AN := @add_node_wp
  generalize m_NodeTable_number_of = mno at NO ⊢
  generalize m_Layer___init__ = min_ at IN ⊢
  generalize m_Layer_add_node = man at AN ⊢
  generalize hW : @mWhile = W
  rw [wp_fn]
  refine ⟨rfl, ?_⟩
  have hsz := size_eq
  simp only [List.map_cons, List.map_nil, List.cons_append, List.nil_append, List.replicate, Nat.reduceSub]
  have hO : stL' (xs.map .leaf) 0 = xs.map Nd.leaf := rfl
  have hN0 : (xs ++ [a]).map Nd.leaf = xs.map Nd.leaf ++ [.leaf a] := by simp
  have hok := stL_ok hx hl
  generalize hOd : xs.map Nd.leaf = O at *
  generalize hNd : (xs ++ [a]).map Nd.leaf = N at *
  refine seq_cut (fun ρ st' => st' = st ++ [.lst []] ∧ ρ = [some (.ref gA), some a, some (.ref st.length), none, none, none, none, none]) ?_ ?_
  · simp only [sp_set, wp_lst, wp_nil, List.set_cons_zero, List.set_cons_succ]
    exact ⟨by simp [sizeLine], by first | exact rfl | exact trivial, by first | exact rfl | exact trivial⟩
  rintro ρ st1 ⟨rfl, rfl⟩
  have g1 : Grown st (st ++ [Ob.lst []]) := .one _ _
  have hgA := (List.getElem?_eq_some_iff.mp h.i).1
  have hrl := stL_lt h.h
  have q0 : stL (st ++ [Ob.lst []]) st.length = some [] := stL_new
  have T1 := h.T.grown g1
  have i1 := g1.get h.i
  have hln : (st ++ [Ob.lst []]).length = st.length + 1 := by simp
  have get1 : ∀ i, i < st.length → (st ++ [Ob.lst []])[i]? = st[i]? := fun i hi => List.getElem?_append_left hi
  refine seq_cut (fun ρ st' => ∃ f', AeE st f.length f' gA t r st.length ls O N 0 (some (.leaf a)) st' ∧ ρ = [some (.ref gA), some a, some (.ref st.length), some (numA f' (.leaf a)), none, none, none, none]) ?_ ?_
  · simp only [sp_set, wp_meth, wp_fld, wp_tup, wp_cons, wp_nil, wp_c, wp_var, List.getElem?_cons_succ, List.getElem?_cons_zero, Option.some.injEq, ex_eq, insA_of i1, gro_t, insA_of T1.i, tab_m2, true_and, List.set_cons_zero, List.set_cons_succ]
    refine ⟨by simp [size_eq], ?_⟩
    have ea : A.tup [.str "leaf", a] = entA f (.leaf a) := rfl
    rw [ea]
    have hEl : El a := hx a (by simp)
    have hOkt : Okt (.leaf a) := (hok 0).okt hl (by omega) _ (by show Nd.leaf a ∈ N; rw [hN0]; simp)
    refine NO T1 hOkt (by simp [kids]) (by omega) fun st' f' T' => ?_
    obtain ⟨g, eg, hm, hgl⟩ := addN_pre f (.leaf a)
    refine ⟨_, ⟨?_, ⟨0, f'.stL (by have := h.ot; omega) q0, Nat.le_refl _, fun _ => rfl, (fun q => by cases q), fun i hi => absurd hi (Nat.not_lt_zero _)⟩, hrl, fun i l hi => .inr (h.lt i l hi), by rw [eg, List.length_append]; omega, by omega, (fun q => by cases q), fun _ => Nat.zero_le _, fun y hy => ?_, fun i hi => by rw [f'.get i (by omega) (by have := h.og; omega), get1 i (by omega)]⟩, rfl⟩
    · have hm0 : mixR O N 0 = stL' O := by
        funext k
        unfold mixR
        rw [if_neg (Nat.not_lt_zero _)]
      have he0 : mixE O N 0 = fun i => szNs (stL' O (i + 1)) := by
        funext k
        unfold mixE
        rw [if_neg (Nat.not_lt_zero _)]
      rw [hm0, he0, eg]
      rw [eg] at T'
      refine h.far T' (by have := f'.len; omega) fun i hi h1 h2 => ?_
      rw [f'.get i (by omega) h1, get1 i hi]
    · cases hy
      refine ⟨hm, ?_⟩
      show N = O ++ [Nd.leaf a]
      exact hN0
  clear T1 i1 q0 g1 get1 hln
  rintro ρ st1 ⟨f1, S1, rfl⟩
  refine seq_cut (fun ρ st' => AeE st f.length f1 gA t r st.length ls O N 0 (some (.leaf a)) st' ∧ ρ = [some (.ref gA), some a, some (.ref st.length), some (numA f1 (.leaf a)), some (.int ((0 : Nat) : Int)), none, none, none]) ?_ ?_
  · simp only [sp_set, wp_c, List.set_cons_zero, List.set_cons_succ]
    exact ⟨S1, by trivial⟩
  clear S1
  rintro ρ st1 ⟨S1, rfl⟩
  refine seq_cut (fun ρ st' => ∃ (f' : List Nd) (ls' : List Nat) (j : Nat) (v3 v5 v6 v7 : Option A), AeE st f.length f' gA t r st.length ls' O N j none st' ∧ (∀ i, i < ls'.length → mixR O N j i ≠ []) ∧ ρ = [some (.ref gA), some a, some (.ref st.length), v3, some (.int ((j : Nat) : Int)), v5, v6, v7]) ?_ ?_
  · rw [← hW]
    refine while_wp (fun ρ st' => ∃ (f' : List Nd) (ls' : List Nat) (j : Nat) (x : Option Nd) (v5 v6 v7 : Option A), AeE st f.length f' gA t r st.length ls' O N j x st' ∧ (∀ i, i < ls'.length → mixR O N j i ≠ []) ∧ ρ = [some (.ref gA), some a, some (.ref st.length), some (xA f' x), some (.int ((j : Nat) : Int)), v5, v6, v7]) (fun ρ _ => lvl ρ) ?_ ⟨f1, ls, 0, some (.leaf a), none, none, none, S1, (fun i hi => by unfold mixR; rw [if_neg (Nat.not_lt_zero _)]; exact hne i hi), rfl⟩
    clear S1
    rintro ρ st2 ⟨f2, ls2, j, x, v5, v6, v7, S, hnm, rfl⟩
    simp only [wp_gb, wp_bin, wp_var, wp_c, List.getElem?_cons_succ, List.getElem?_cons_zero, Option.some.injEq, ex_eq, w_notN, w_getB]
    cases x with
    | none =>
      have : isNonA (xA f2 none) = true := rfl
      rw [this]
      simp only [Bool.not_true, Bool.false_eq_true, if_false]
      exact ⟨f2, ls2, j, _, _, _, _, S, hnm, rfl⟩
    | some y =>
      have hnn : isNonA (xA f2 (some y)) = false := rfl
      rw [hnn]
      simp only [Bool.not_false, if_true]
      have hxa : xA f2 (some y) = numA f2 y := rfl
      rw [hxa]
      obtain ⟨yf, yN⟩ := S.so y rfl
      have hNj := hok j
      have hNne : stL' N j ≠ [] := by rw [yN]; simp
      have hj10 := few_levels hNj hl hNne
      have hRj : mixR O N j j = stL' O j := by unfold mixR; rw [if_neg (Nat.lt_irrefl _)]
      -- the layer
      refine seq_cut (fun ρ st' => ∃ ls' l, AeE st f.length f2 gA t r st.length ls' O N j (some y) st' ∧ ls'[j]? = some l ∧ (∀ i, i < ls'.length → i ≠ j → mixR O N j i ≠ []) ∧ ρ = [some (.ref gA), some a, some (.ref st.length), some (numA f2 y), some (.int ((j : Nat) : Int)), v5, v6, v7]) ?_ ?_
      · simp only [sp_ifs, wp_gb, wp_bin, wp_ca, wp_fld, wp_cons, wp_nil, wp_var, List.getElem?_cons_succ, List.getElem?_cons_zero, Option.some.injEq, ex_eq, insA_of S.g.i, gro_l, w_lenL, S.g.h, List.length_map, w_eq, w_getB]
        have hjl := S.jl (by simp)
        by_cases c : j = ls2.length
        · rw [decide_eq_true (show ((j : Nat) : Int) = ((ls2.length : Nat) : Int) by rw [c])]
          simp only [if_true, sp_expr, wp_bm, wp_fld, wp_make, wp_cons, wp_nil, wp_var, List.getElem?_cons_succ, List.getElem?_cons_zero, Option.some.injEq, ex_eq, insA_of S.g.i, gro_l, isL_ref, S.g.h, Option.isSome_some, true_and]
          refine IN (f := f2) fun st4 g4 l4 L4 => ?_
          have h4 := g4.stL S.g.h
          rw [w_append]
          have hr4 := stL_lt S.g.h
          obtain ⟨fs, q1, q2⟩ := S.hq
          have hql := stL_lt q1
          have hqr := S.qr
          have get4 : ∀ i, i < st2.length → i ≠ r → (st4.set r (.lst (ls2.map A.ref ++ [.ref st2.length])))[i]? = st2[i]? := fun i hi hne => by
            rw [List.getElem?_set_ne (Ne.symm hne)]
            obtain ⟨z, hz⟩ := g4
            rw [hz, List.getElem?_append_left hi]
          have sp : ∀ (i l : Nat), (ls2 ++ [st2.length])[i]? = some l → (i < ls2.length ∧ ls2[i]? = some l) ∨ (i = ls2.length ∧ l = st2.length) := fun i l hi => by
            by_cases q : i < ls2.length
            · rw [List.getElem?_append_left q] at hi
              exact .inl ⟨q, hi⟩
            · have h1 := (List.getElem?_eq_some_iff.mp hi).1
              simp at h1
              have h2 : i = ls2.length := by omega
              rw [h2, List.getElem?_append_right (Nat.le_refl _), Nat.sub_self] at hi
              simp at hi
              exact .inr ⟨h2, hi.symm⟩
          refine ⟨by trivial, ls2.map A.ref, h4, by rw [List.length_map]; omega, ls2 ++ [st2.length], st2.length, ⟨⟨?_, ?_, ?_, fun i l hi => ?_, fun i hi => S.g.e i (by simp at hi; omega), S.g.og, S.g.ot, fun i l hi => ?_, fun i i' a b hii ha hb => ?_, fun i l hi => ?_⟩, ⟨fs, ?_, q2⟩, hqr, fun i l hi => ?_, S.fl, S.lj, (fun q => by cases q), fun _ => by simp; omega, S.so, fun i hi => by rw [get4 i (by have := (List.getElem?_eq_some_iff.mp S.g.i).1; omega) (by have := S.g.og; have := S.g.ot; omega)]; exact S.fr i hi⟩, by rw [c]; simp, (fun i hi hij => hnm i (by simp at hi; omega)), by trivial⟩
          · rw [get4 gA ((List.getElem?_eq_some_iff.mp S.g.i).1) (by have := S.g.og; have := S.g.ot; omega)]
            exact S.g.i
          · exact (S.g.T.grown g4).set (.inr S.g.ot)
          · rw [stL_set_self h4, List.map_append]
            rfl
          · rcases sp i l hi with ⟨h1, h2⟩ | ⟨h1, h2⟩
            · have L := S.g.L i l h2
              have a1 := S.g.ol i l h2
              have a2 := S.g.lt i l h2
              have := L.move (g := []) (st' := st4.set r (.lst (ls2.map A.ref ++ [.ref st2.length]))) fun u b1 b2 => get4 u (by omega) (by omega)
              rw [List.append_nil] at this
              exact this
            · subst h2
              have := L4.move (g := []) (st' := st4.set r (.lst (ls2.map A.ref ++ [.ref st2.length]))) fun u b1 b2 => List.getElem?_set_ne (by omega)
              rw [List.append_nil] at this
              rw [(S.g.e i (by omega)).1, (S.g.e i (by omega)).2]
              exact this
          · rcases sp i l hi with ⟨h1, h2⟩ | ⟨h1, h2⟩
            · exact S.g.ol i l h2
            · omega
          · rcases sp i a ha with ⟨h1, h2⟩ | ⟨h1, h2⟩
            · rcases sp i' b hb with ⟨h3, h5⟩ | ⟨h3, h5⟩
              · exact S.g.os i i' a b hii h2 h5
              · rw [h5]
                exact S.g.lt i a h2
            · rcases sp i' b hb with ⟨h3, h5⟩ | ⟨h3, h5⟩ <;> omega
          · rw [List.length_set, l4]
            rcases sp i l hi with ⟨h1, h2⟩ | ⟨h1, h2⟩
            · have := S.g.lt i l h2
              omega
            · omega
          · rw [stL_set_ne (by omega)]
            exact g4.stL q1
          · rcases sp i l hi with ⟨h1, h2⟩ | ⟨h1, h2⟩
            · exact S.ql i l h2
            · omega
        · rw [decide_eq_false (show ¬ ((j : Nat) : Int) = ((ls2.length : Nat) : Int) by omega)]
          simp only [Bool.false_eq_true, if_false, sp_next]
          exact ⟨ls2, ls2[j]'(by omega), S, List.getElem?_eq_getElem (by omega), (fun i hi _ => hnm i hi), by trivial⟩
      clear S hnm
      rintro ρ st3 ⟨ls3, l, S, hlj, hnm, rfl⟩
      have hTl : t + 4 < l := by have := S.g.ot; have := S.g.ol j l hlj; omega
      have hat : atI (ls3.map A.ref) ((j : Nat) : Int) = some (.ref l) := by
        rw [atI_nn (by omega), Int.toNat_natCast, List.getElem?_map, hlj]
        rfl
      refine seq_cut (fun ρ st' => st' = st3 ∧ ρ = [some (.ref gA), some a, some (.ref st.length), some (numA f2 y), some (.int ((j : Nat) : Int)), some (.ref l), v6, v7]) ?_ ?_
      · simp only [sp_set, wp_bin, wp_fld, wp_var, List.getElem?_cons_succ, List.getElem?_cons_zero, Option.some.injEq, ex_eq, insA_of S.g.i, gro_l, w_ixL, S.g.h, hat, List.set_cons_zero, List.set_cons_succ]
        exact ⟨by trivial, by trivial⟩
      rintro ρ st4 ⟨rfl, rfl⟩
      have hEj : mixE O N j j = szNs (stL' O (j + 1)) := by unfold mixE; rw [if_neg (Nat.lt_irrefl _)]
      have Lj := S.g.L j l hlj
      rw [hRj, hEj] at Lj
      generalize hfin : szNs (stL' O (j + 1)) = fin at Lj
      have hfl := S.fl
      refine seq_cut (fun ρ st' => ∃ (o : Option (List Nd)) (g : List Nd), g.length ≤ 1 ∧ Tab (f2 ++ g) t st' ∧ LayOk (f2 ++ g) l (stL' N j) fin st' ∧ Fr8 t l st4 st' ∧ (o = none → stL' N (j + 1) = stL' O (j + 1)) ∧ (∀ p, o = some p → stL' N (j + 1) = stL' O (j + 1) ++ [.blk p] ∧ ∀ c ∈ p, c ∈ f2 ++ g) ∧ ρ = [some (.ref gA), some a, some (.ref st.length), some (numA f2 y), some (.int ((j : Nat) : Int)), some (.ref l), some (match o with | none => .non | some p => entA (f2 ++ g) (.blk p)), v7]) ?_ ?_
      · have iL := Lj.s.i
        simp only [sp_set, wp_meth, wp_fld, wp_cons, wp_nil, wp_var, List.getElem?_cons_succ, List.getElem?_cons_zero, Option.some.injEq, ex_eq, insA_of S.g.i, gro_t, insA_of iL, lay_m3, true_and, List.set_cons_zero, List.set_cons_succ]
        refine AN S.g.T hTl Lj yf (by rw [← yN]; exact hNj) hl (by omega) (by omega) (fun hs f' st' ⟨g, eg, hg⟩ T' L' F' => ?_) (fun p hs f' st' ⟨g, eg, hg⟩ hp T' L' F' => ?_)
        · rw [← yN] at L' hs
          rw [eg] at T' L'
          exact ⟨none, g, hg, T', L', F', fun _ => hs, (fun p q => by cases q), rfl⟩
        · rw [← yN] at L' hs
          rw [eg] at T' L' hp ⊢
          exact ⟨some p, g, hg, T', L', F', (fun q => by cases q), (fun p' q => by cases q; exact ⟨hs, hp⟩), rfl⟩
      rintro ρ st5 ⟨o, g, hg, T5, L5, F5, ho0, ho1, rfl⟩
      have hmix : ∀ i, i ≠ j → mixR O N (j + 1) i = mixR O N j i := fun i hi => by
        have := congrFun (mix_up (O := O) (N := N) (j := j)) i
        simp only [if_neg hi] at this
        exact this.symm
      have hnm2 : ∀ i, i < ls3.length → mixR O N (j + 1) i ≠ [] := fun i hi => by
        by_cases c : i = j
        · subst c
          unfold mixR
          rw [if_pos (Nat.lt_succ_self i)]
          exact hNne
        · rw [hmix i c]
          exact hnm i hi c
      have hmj : mixR O N (j + 1) j = stL' N j := by unfold mixR; rw [if_pos (Nat.lt_succ_self j)]
      have hmixE : ∀ i, i ≠ j → mixE O N (j + 1) i = mixE O N j i := fun i hi => by
        unfold mixE
        by_cases h2 : i < j
        · rw [if_pos h2, if_pos (by omega)]
        · rw [if_neg h2, if_neg (by omega)]
      have hmjE : mixE O N (j + 1) j = szNs (stL' N (j + 1)) := by unfold mixE; rw [if_pos (Nat.lt_succ_self j)]
      have hmixF : ∀ i, i ≠ j → mixR O N (j + 1) i = mixR O N j i ∧ (fun u => if u = j then fin else mixE O N j u) i = mixE O N j i := fun i hi => ⟨hmix i hi, if_neg hi⟩
      have G5 : GrE (f2 ++ g) gA t r ls3 (mixR O N (j + 1)) (fun u => if u = j then fin else mixE O N j u) st5 := S.g.step hlj T5 (by rw [hmj]; simp only [if_true]; exact L5) F5 hmixF
      obtain ⟨c, hq1, hq2, hq3, hq4, hq6⟩ := S.hq
      have hcj : c = j := hq3 (by simp)
      clear hq2 hq3 hq4
      rw [hcj] at hq1 hq6
      clear hcj c
      generalize hfs : (List.range j).map (triE O N) = fs at hq1
      have hqr := S.qr
      have hql := S.ql
      have hot := S.g.ot
      have hqlt := stL_lt hq1
      have hq5 : stL st5 st.length = some fs := stL_of (by rw [F5.get _ hqlt (by omega) (by have := hql j l hlj; omega)]; exact stL_eq hq1)
      have hjl3 := (List.getElem?_eq_some_iff.mp hlj).1
      have hfr5 : ∀ i, i < gA → st5[i]? = st[i]? := fun i hi => by
        have h1 := (List.getElem?_eq_some_iff.mp S.g.i).1
        have h2 := S.g.og
        rw [F5.get i (by omega) (by omega) (by omega)]
        exact S.fr i hi
      have hog := S.g.og
      clear S T5 F5 hq1
      refine seq_cut (fun ρ st' => st' = st5 ∧ ρ = [some (.ref gA), some a, some (.ref st.length), some .non, some (.int ((j : Nat) : Int)), some (.ref l), some (match o with | none => .non | some p => entA (f2 ++ g) (.blk p)), v7]) ?_ ?_
      · simp only [sp_set, wp_c, List.set_cons_zero, List.set_cons_succ]
        exact ⟨by first | exact rfl | exact True.intro, by first | exact rfl | exact True.intro⟩
      rintro ρ st6 ⟨rfl, rfl⟩
      refine seq_cut (fun ρ st' => st' = st6 ∧ ρ = [some (.ref gA), some a, some (.ref st.length), some .non, some (.int ((j + 1 : Nat) : Int)), some (.ref l), some (match o with | none => .non | some p => entA (f2 ++ g) (.blk p)), v7]) ?_ ?_
      · have ei : iaddA (.int ((j : Nat) : Int)) (.int 1) st6 = .ok (.int ((j + 1 : Nat) : Int)) st6 := rfl
        simp only [sp_aug, wp_c, List.getElem?_cons_succ, List.getElem?_cons_zero, Option.some.injEq, ex_eq, ei, wp_ok, List.set_cons_zero, List.set_cons_succ]
        exact ⟨by first | exact rfl | exact True.intro, by first | exact rfl | exact True.intro⟩
      rintro ρ st7 ⟨rfl, rfl⟩
      have hmu : ∀ (v3 v5 v6 v7 w3 w5 w6 w7 : Option A) (u : Nat), u = j + 1 → lvl [some (.ref gA), some a, some (.ref st.length), v3, some (.int ((u : Nat) : Int)), v5, v6, v7] < lvl [some (.ref gA), some a, some (.ref st.length), w3, some (.int ((j : Nat) : Int)), w5, w6, w7] := fun v3 v5 v6 v7 w3 w5 w6 w7 u hu => by
        show 30 - ((u : Nat) : Int).toNat < 30 - ((j : Nat) : Int).toNat
        omega
      cases o with
      | none =>
        have hd := ho0 rfl
        have hE5 : (fun u => if u = j then fin else mixE O N j u) = mixE O N (j + 1) := by
          funext u
          by_cases c : u = j
          · rw [c, if_pos rfl, hmjE, hd, hfin]
          · rw [if_neg c, hmixE u c]
        simp only [sp_ifs, wp_gb, wp_bin, wp_var, wp_c, List.getElem?_cons_succ, List.getElem?_cons_zero, Option.some.injEq, ex_eq, w_notN, isNonA, Bool.not_true, w_getB, Bool.false_eq_true, if_false, sp_next]
        refine ⟨⟨f2 ++ g, ls3, j + 1, none, _, _, _, ⟨hE5 ▸ G5, ⟨j, by rw [hfs]; exact hq5, by omega, fun q => absurd rfl q, fun _ => ⟨rfl, hd⟩, hq6⟩, hqr, hql, by rw [List.length_append]; omega, by omega, fun _ i => ?_, fun q => absurd rfl q, (fun y q => by cases q), hfr5⟩, hnm2, rfl⟩, hmu _ _ _ _ _ _ _ _ _ rfl⟩
        unfold mixR
        by_cases c : i < j + 1
        · rw [if_pos c]
        · rw [if_neg c]
          have := same_up hd (i - (j + 1))
          rw [show j + 1 + (i - (j + 1)) = i by omega] at this
          exact this.symm
      | some p =>
        obtain ⟨hN1, hp⟩ := ho1 p rfl
        have hOkt : Okt (.blk p) := (hok (j + 1)).okt hl (by omega) _ (by rw [hN1]; simp)
        obtain ⟨g2, eg2, hgm, hg2⟩ := addN_pre (f2 ++ g) (.blk p)
        have hen : isNonA (entA (f2 ++ g) (.blk p)) = false := rfl
        have iG := G5.i
        have iT := G5.T.i
        simp only [sp_ifs, wp_gb, wp_bin, wp_var, wp_c, List.getElem?_cons_succ, List.getElem?_cons_zero, Option.some.injEq, ex_eq, w_notN, hen, Bool.not_false, w_getB, if_true]
        refine seq_cut (fun ρ st' => Tab ((f2 ++ g) ++ g2) t st' ∧ FrT t st7 st' ∧ ρ = [some (.ref gA), some a, some (.ref st.length), some (numA ((f2 ++ g) ++ g2) (.blk p)), some (.int ((j + 1 : Nat) : Int)), some (.ref l), some (entA (f2 ++ g) (.blk p)), v7]) ?_ ?_
        · simp only [sp_set, wp_meth, wp_fld, wp_cons, wp_nil, wp_var, List.getElem?_cons_succ, List.getElem?_cons_zero, Option.some.injEq, ex_eq, insA_of iG, gro_t, insA_of iT, tab_m2, true_and, List.set_cons_zero, List.set_cons_succ]
          refine NO G5.T hOkt (by simpa [kids] using hp) (by rw [List.length_append]; omega) fun st' f' T' => ?_
          rw [eg2] at T' ⊢
          exact ⟨T', f', rfl⟩
        rintro ρ st8 ⟨T8, f8, rfl⟩
        rw [eg2] at hgm
        have G8 : GrE ((f2 ++ g) ++ g2) gA t r ls3 (mixR O N (j + 1)) (fun u => if u = j then fin else mixE O N j u) st8 := G5.far T8 f8.len fun i hi h1 _ => f8.get i hi h1
        have L8 : LayOk ((f2 ++ g) ++ g2) l (stL' N j) fin st8 := L5.move fun i a b => f8.get i (by have := G5.lt j l hlj; omega) (by omega)
        have q8 : stL st8 st.length = some fs := f8.stL (by omega) hq5
        have hfr8 : ∀ i, i < gA → st8[i]? = st[i]? := fun i hi => by
          have h1 := (List.getElem?_eq_some_iff.mp G5.i).1
          rw [f8.get i (by omega) (by omega)]
          exact hfr5 i hi
        clear iG iT G5 L5 hq5 f8
        have hsz8 : atI (((f2 ++ g) ++ g2).map szA) (idx ((f2 ++ g) ++ g2) (.blk p) : Nat) = some (szA (.blk p)) := at_idx (g := szA) hgm
        refine seq_cut (fun ρ st' => st' = st8 ∧ ρ = [some (.ref gA), some a, some (.ref st.length), some (numA ((f2 ++ g) ++ g2) (.blk p)), some (.int ((j + 1 : Nat) : Int)), some (.ref l), some (entA (f2 ++ g) (.blk p)), some (.int ((fin : Nat) : Int))]) ?_ ?_
        · have il := L8.s.i
          simp only [sp_set, wp_fld, wp_var, List.getElem?_cons_succ, List.getElem?_cons_zero, Option.some.injEq, ex_eq, insA_of il, lay_end, lf_fin, List.set_cons_zero, List.set_cons_succ]
          exact ⟨by first | exact rfl | exact True.intro, by first | exact rfl | exact True.intro⟩
        rintro ρ st9 ⟨rfl, rfl⟩
        refine seq_cut (fun ρ st' => LayOk ((f2 ++ g) ++ g2) l (stL' N j) (fin + szN (.blk p)) st' ∧ (∃ o, st' = st9.set l o) ∧ ρ = [some (.ref gA), some a, some (.ref st.length), some (numA ((f2 ++ g) ++ g2) (.blk p)), some (.int ((j + 1 : Nat) : Int)), some (.ref l), some (entA (f2 ++ g) (.blk p)), some (.int ((fin : Nat) : Int))]) ?_ ?_
        · have il := L8.s.i
          have iG8 := G8.i
          have iT8 := G8.T.i
          have esum : addA (.int ((fin : Nat) : Int)) (szA (.blk p)) st9 = .ok (.int ((fin + szN (.blk p) : Nat) : Int)) st9 := rfl
          simp only [sp_putf, wp_bin, wp_fld, wp_var, List.getElem?_cons_succ, List.getElem?_cons_zero, Option.some.injEq, ex_eq, insA_of iG8, gro_t, insA_of iT8, tab_siz, numA, w_ixL, G8.T.z, hsz8, esum, wp_ok, setIA_eq il (lay_len l _), put_end]
          refine ⟨⟨?_, L8.m⟩, ⟨_, rfl⟩, by first | exact rfl | exact True.intro⟩
          have := L8.s.put (G := { lfOf ((f2 ++ g) ++ g2) (stL' N j) fin with fin := fin + szN (.blk p) })
          rw [lf_setfin] at this ⊢
          exact this
        rintro ρ st10 ⟨L10, ⟨ob, rfl⟩, rfl⟩
        have ilt := (List.getElem?_eq_some_iff.mp L8.s.i).1
        have hEn : fin + szN (.blk p) = szNs (stL' N (j + 1)) := by rw [hN1, szNs_app, hfin]; simp [szNs]
        have G10 : GrE ((f2 ++ g) ++ g2) gA t r ls3 (mixR O N (j + 1)) (mixE O N (j + 1)) (st9.set l ob) := by
          have := G8.step (g := []) (R' := mixR O N (j + 1)) (E' := mixE O N (j + 1)) (st' := st9.set l ob) hlj (by rw [List.append_nil]; exact G8.T.set (.inr hTl)) (by rw [List.append_nil, hmj, hmjE, ← hEn]; exact L10) (Fr8.set (Nat.le_refl _) (by omega)) (fun i hi => ⟨rfl, by rw [if_neg hi]; exact hmixE i hi⟩)
          rwa [List.append_nil] at this
        have hlq := hql j l hlj
        have q10 : stL (st9.set l ob) st.length = some fs := by rw [stL_set_ne' (by omega)]; exact q8
        have hfr10 : ∀ i, i < gA → (st9.set l ob)[i]? = st[i]? := fun i hi => by
          rw [List.getElem?_set_ne (by omega)]
          exact hfr8 i hi
        generalize st9.set l ob = st10 at *
        have il10 := L10.s.i
        simp only [sp_expr, wp_bm, wp_tup, wp_fld, wp_cons, wp_nil, wp_var, List.getElem?_cons_succ, List.getElem?_cons_zero, Option.some.injEq, ex_eq, isL_ref, q10, Option.isSome_some, true_and, insA_of il10, lay_end]
        refine ⟨by simp [size_eq], ?_⟩
        rw [w_append]
        have hfsl : fs.length = j := by rw [← hfs, List.length_map, List.length_range]
        refine ⟨fs, q10, by omega, ⟨(f2 ++ g) ++ g2, ls3, j + 1, some (.blk p), _, _, _, ⟨?_, ⟨j + 1, by rw [stL_set_self q10, ← hfs, List.range_succ, List.map_append, List.map_singleton]; simp only [triE, lf_fin, hfin, hEn], Nat.le_refl _, fun _ => rfl, (fun q => by cases q), fun i hi => by by_cases c : i = j; (· rw [c, hN1]; intro q; have := congrArg List.length q; simp at this); exact hq6 i (by omega)⟩, hqr, hql, by simp only [List.length_append]; omega, by omega, (fun q => by cases q), fun _ => by omega, fun y' hy' => ?_, fun i hi => by rw [List.getElem?_set_ne (by omega)]; exact hfr10 i hi⟩, hnm2, rfl⟩, hmu _ _ _ _ _ _ _ _ _ rfl⟩
        · have := G10.far (g := []) (st' := st10.set st.length (.lst (fs ++ [A.tup [.int ((j + 1 : Nat) : Int), .int ((fin : Nat) : Int), .int (((lfOf ((f2 ++ g) ++ g2) (stL' N j) (fin + szN (.blk p))).fin : Nat) : Int)]]))) (by rw [List.append_nil]; exact G10.T.set (.inr (by omega))) (by rw [List.length_set]; exact Nat.le_refl _) fun i _ _ h2 => by
            refine List.getElem?_set_ne ?_
            rcases h2 with h2 | ⟨i', l', h3, h4, h5⟩
            · omega
            · have := hql i' l' h3
              omega
          rwa [List.append_nil] at this
        · cases hy'
          exact ⟨hgm, hN1⟩
  rintro ρ st2 ⟨f2, ls2, j, v3, v5, v6, v7, S, hnm, rfl⟩
  simp only [sp_ret, wp_var, List.getElem?_cons_succ, List.getElem?_cons_zero, Option.some.injEq, ex_eq]
  have e : mixR O N j = stL' N := funext fun i => S.no rfl i
  obtain ⟨c, hq1, hq2, _, hq4, hq5⟩ := S.hq
  obtain ⟨hcj, hj⟩ := hq4 rfl
  have eE : mixE O N j = fun i => szNs (stL' N (i + 1)) := by
    funext u
    unfold mixE
    by_cases h : u < j
    · rw [if_pos h]
    · rw [if_neg h]
      have := same_up hj (u + 1 - j)
      rw [show j + (u + 1 - j) = u + 1 by omega] at this
      rw [this]
  have hg := S.g
  rw [e, eE] at hg
  have hlj := S.lj
  exact k f2 ls2 st2 c hg hq1 (by omega) hq5 (by rw [hcj]; exact hj) (by have := S.fl; omega) S.fr fun i hi => by rw [← S.no rfl i]; exact hnm i hi
end Law
namespace Law
open PySem L2 ML
def YR.wp (y : YR) (Q : ML.Env → Store → List A → Prop) : Prop := match y with
  | .nx ρ st ds => Q ρ st ds
  | .bad => False
section
variable {ρ : ML.Env} {st : Store} {ds : List A} {Q : ML.Env → Store → List A → Prop}
theorem YR.wp.imp {y : YR} {Q Q' : ML.Env → Store → List A → Prop} (h : YR.wp y Q) (k : ∀ ρ st ds, Q ρ st ds → Q' ρ st ds) : YR.wp y Q' := by
  cases y with
  | nx ρ st ds => exact k _ _ _ h
  | bad => exact h
theorem gp_next : YR.wp (gNext ρ st ds) Q ↔ Q ρ st ds := Iff.rfl
theorem gp_seq {a b : MY} : YR.wp (gSeq a b ρ st ds) Q ↔ YR.wp (a ρ st ds) fun ρ1 st1 ds1 => YR.wp (b ρ1 st1 ds1) Q := by
  unfold gSeq
  cases a ρ st ds <;> exact Iff.rfl
theorem gp_cut {a b : MY} (M : ML.Env → Store → List A → Prop) (h : YR.wp (a ρ st ds) M) (k : ∀ ρ st ds, M ρ st ds → YR.wp (b ρ st ds) Q) : YR.wp (gSeq a b ρ st ds) Q := gp_seq.mpr (h.imp k)
theorem gp_pl {m : MS} (h : (m ρ st).wp (fun ρ1 st1 => Q ρ1 st1 ds) (fun _ _ => False) (fun _ _ => False) (fun _ _ => False)) : YR.wp (gPl m ρ st ds) Q := by
  unfold gPl
  cases q : m ρ st with
  | nx ρ1 st1 => rw [q] at h; exact h
  | _ => rw [q] at h; exact h.elim
theorem gp_yield {m : MX} (h : (m ρ st).wp fun a st1 => ds.length < sizeLine ∧ Q ρ st1 (ds ++ [a])) : YR.wp (gYield m ρ st ds) Q := by
  unfold gYield
  cases q : m ρ st with
  | ok a st1 =>
    rw [q] at h
    simp only
    rw [if_pos h.1]
    exact h.2
  | _ => rw [q] at h; exact h.elim
theorem gp_for {ms : ML.Env → Store → R Src} {tg : Tg} {body : MY} (h : (ms ρ st).wp fun s st1 => YR.wp (loopG s tg body (s.size st1 + 1) 0 ρ st1 ds) Q) : YR.wp (gFor ms tg body ρ st ds) Q := by
  unfold gFor
  cases q : ms ρ st with
  | ok s st1 => rw [q] at h; exact h
  | _ => rw [q] at h; exact h.elim
theorem gloop_wp {s : Src} {tg : Tg} {body : MY} (n : Nat) (it : Nat → A) (I : Nat → ML.Env → Store → List A → Prop) (hat : ∀ i ρ st ds, I i ρ st ds → (i < n → s.at i st = some (some (it i))) ∧ (¬ i < n → s.at i st = some none))
    (hs : ∀ i ρ st ds, i < n → I i ρ st ds → ∃ ρ1, asgT tg (it i) ρ st = some ρ1 ∧ YR.wp (body ρ1 st ds) (I (i + 1))) (hd : ∀ ρ st ds, I n ρ st ds → Q ρ st ds) :
    ∀ (k i : Nat) (ρ : ML.Env) (st : Store) (ds : List A), n + 1 ≤ i + k → i ≤ n → I i ρ st ds → YR.wp (loopG s tg body k i ρ st ds) Q
  | 0, i, ρ, st, ds, hk, hi, h => by omega
  | k + 1, i, ρ, st, ds, hk, hle, h => by
    unfold loopG
    by_cases hi : i < n
    · rw [(hat i ρ st ds h).1 hi]
      obtain ⟨ρ1, e, hb⟩ := hs i ρ st ds hi h
      simp only [e]
      cases q : body ρ1 st ds with
      | nx ρ2 st2 ds2 => rw [q] at hb; exact gloop_wp n it I hat hs hd k (i + 1) ρ2 st2 ds2 (by omega) (by omega) hb
      | bad => rw [q] at hb; exact hb.elim
    · rw [(hat i ρ st ds h).2 hi]
      have : i = n := by omega
      subst this
      exact hd ρ st ds h
theorem gfor_lst {tg : Tg} {body : MY} {xs : List A} {r : Nat} (I : Nat → ML.Env → Store → List A → Prop) (hx : stL st r = some xs) (h0 : I 0 ρ st ds) (hl : ∀ i ρ st ds, I i ρ st ds → stL st r = some xs)
    (hs : ∀ i x ρ st ds, xs[i]? = some x → I i ρ st ds → ∃ ρ1, asgT tg x ρ st = some ρ1 ∧ YR.wp (body ρ1 st ds) (I (i + 1))) (hd : ∀ ρ st ds, I xs.length ρ st ds → Q ρ st ds) :
    YR.wp (loopG (.lst r) tg body (Src.size (.lst r) st + 1) 0 ρ st ds) Q :=
  gloop_wp xs.length (fun i => xs.getD i .non) I (fun i ρ st ds q => ⟨fun h => by simp [Src.at, hl i ρ st ds q, h], fun h => by simp [Src.at, hl i ρ st ds q]; omega⟩) (fun i ρ st ds h q => hs i _ ρ st ds (by simp [h]) q) hd _ _ _ _ _ (by simp [Src.size, hx]) (Nat.zero_le _) h0
theorem gfor_zipv {tg : Tg} {body : MY} {xs ys : List A} (I : Nat → ML.Env → Store → List A → Prop) (hl : xs.length = ys.length) (h0 : I 0 ρ st ds)
    (hs : ∀ i x y ρ st ds, xs[i]? = some x → ys[i]? = some y → I i ρ st ds → ∃ ρ1, asgT tg (.tup [x, y]) ρ st = some ρ1 ∧ YR.wp (body ρ1 st ds) (I (i + 1))) (hd : ∀ ρ st ds, I ys.length ρ st ds → Q ρ st ds) :
    ∀ k, ys.length + 1 ≤ k → YR.wp (loopG (.zipv xs ys) tg body k 0 ρ st ds) Q := fun k hk =>
  gloop_wp ys.length (fun i => .tup [xs.getD i .non, ys.getD i .non]) I (fun i ρ st ds q => ⟨fun h => by
    have h' : i < xs.length := by omega
    simp [Src.at, h, h'], fun h => by
    have e2 : ys[i]? = none := List.getElem?_eq_none (by omega)
    simp only [Src.at, e2]
    cases xs[i]? <;> rfl⟩) (fun i ρ st ds h q => hs i _ _ ρ st ds (by have : i < xs.length := by omega
                                                                      simp [this]) (by simp [h]) q) hd _ _ _ _ _ (by omega) (Nat.zero_le _) h0
end
theorem wp_gen {N n : Nat} {body : MY} {as : List A} {st : Store} {Q : List A → Store → Prop} (hn : as.length = n) (h : YR.wp (body (as.map some ++ List.replicate (N - n) none) st []) fun _ st1 ds => Q ds st1) : (mGen N n body as st).wp Q := by
  unfold mGen
  rw [if_pos hn]
  cases q : body (as.map some ++ List.replicate (N - n) none) st [] with
  | nx ρ1 st1 ds => rw [q] at h; exact h
  | bad => rw [q] at h; exact h.elim
theorem wp_tupY {m : MG} {ms : MA} {ρ : ML.Env} {st : Store} {Q : A → Store → Prop} (h : (ms ρ st).wp fun as st1 => (m as st1).wp fun ds st2 => Q (.tup ds) st2) : (mTupY m ms ρ st).wp Q := by
  unfold mTupY R.bind
  cases q : ms ρ st with
  | ok as st1 =>
    rw [q] at h
    simp only
    have h' : (m as st1).wp fun ds st2 => Q (.tup ds) st2 := h
    cases q2 : m as st1 with
    | ok ds st2 => rw [q2] at h'; exact h'
    | _ => rw [q2] at h'; exact h'.elim
  | _ => rw [q] at h; exact h.elim
theorem cntK_len (k0 n : Nat) : (cntK k0 n).length = n := by simp [cntK]
theorem wp_enumS {ms : MA} {k0 : Nat} {ρ : ML.Env} {st : Store} {Q : Src → Store → Prop} (h : (ms ρ st).wp fun as st1 => ∃ xs, as = [.tup xs] ∧ Q (.zipv (cntK k0 xs.length) xs) st1) : (mEnumS k0 ms ρ st).wp Q := by
  unfold mEnumS R.bind
  cases q : ms ρ st with
  | ok as st1 =>
    rw [q] at h
    obtain ⟨xs, rfl, h⟩ := h
    exact h
  | _ => rw [q] at h; exact h.elim
end Law
namespace Law
open PySem L2 ML
open Classical
theorem st_stay {m j : Nat} {S Q : List Nd} (hW : LvOk m j (S ++ Q)) (hm : m ≤ 2000) (hj : j ≤ 11) : ∃ Q', nxt (S ++ Q) = stN S ++ Q' ∧ (Q.length ≤ 3 → Q'.length ≤ 3) := by
  have hR := hW.row hm hj
  by_cases h3 : (itms S).length < 3
  · have h0 : stE (itms S) = [] := by
      cases q : stE (itms S) with
      | nil => rfl
      | cons a l =>
        have := stE_le (xs := itms S) a (by rw [q]; simp)
        omega
    have hs : stN S = [] := by
      unfold stN stB
      rw [h0]
      rfl
    refine ⟨nxt (S ++ Q), by rw [hs, List.nil_append], fun hq => ?_⟩
    have hl : (itms (S ++ Q)).length ≤ (itms S).length + Q.length := by
      unfold itms
      rw [List.length_map, List.length_map]
      exact grp_lenB
    unfold nxt
    split
    · rename_i h1
      have h2 := prts_half hR (by omega)
      unfold upN
      rw [List.length_map]
      generalize (prts (itms (S ++ Q))).length = a at *
      generalize (itms (S ++ Q)).length = b at *
      omega
    · exact Nat.zero_le _
  have hSne : S ≠ [] := fun e => by rw [e, itms_nil] at h3; exact h3 (by decide)
  have hn := grp_ne hSne
  obtain ⟨init, g, e⟩ : ∃ init g, grp S = init ++ [g] := ⟨(grp S).dropLast, (grp S).getLast hn, (List.dropLast_concat_getLast _).symm⟩
  obtain ⟨t, B, e2, hB⟩ := grp_right Q S e
  have ix : itms S = init.map itmN ++ [itmN g] := by unfold itms; rw [e]; simp
  have iy : itms (S ++ Q) = init.map itmN ++ itmN (g.1, t) :: B.map itmN := by unfold itms; rw [e2]; simp
  have htk : (itms S).take init.length = (itms (S ++ Q)).take init.length := by
    rw [ix, iy, List.take_left' (by simp), List.take_left' (by simp)]
  have nx : (itms S).length = init.length + 1 := by rw [ix]; simp
  have ny : (itms (S ++ Q)).length = init.length + 1 + B.length := by rw [iy]; simp; omega
  have hnx : nxt (S ++ Q) = (prts (itms (S ++ Q))).map Nd.blk := by
    unfold nxt
    rw [if_pos (by omega)]
    rfl
  have hsN : stN S = (stB (itms S)).map Nd.blk := rfl
  rw [hnx, hsN]
  clear hnx hsN
  generalize itms S = xs at *
  generalize itms (S ++ Q) = ys at *
  have hy : ys ≠ [] := fun q => by rw [q, List.length_nil] at ny; omega
  obtain ⟨A, M, C, e0, hA, hM, hC⟩ := asc_split (fun e => decide (e + 3 ≤ xs.length)) (fun _ => true) (fun a b hab ha => by simp at ha ⊢; omega) (fun a b hab ha => rfl) _ (edg_asc hy)
  have hasc := edg_asc hy
  have hle := edg_le hy
  have eA : A = stE xs := by
    refine asc_extN ?_ (stE_asc _) fun z => ?_
    · rw [e0] at hasc
      exact (List.pairwise_append.mp hasc).1
    · rw [stE_mem]
      constructor
      · intro hz
        have h1 : z + 3 ≤ xs.length := by simpa using hA z hz
        refine ⟨h1, ?_⟩
        by_cases hz0 : z = 0
        · exact .inl hz0
        · have hin : z ∈ edg ys := by rw [e0]; simp [hz]
          have h2 : 2 ≤ z := by
            unfold edg at hin
            rcases List.mem_append.mp hin with q | q
            · rcases starts_mem q with q | q
              · exact absurd q hz0
              · exact q.1
            · rw [List.mem_singleton.mp q] at h1
              omega
          exact .inr ⟨h2, (pk_tk htk (by omega) (by omega) (by omega)).mpr ((edg_mem h2 (by omega)).mp hin)⟩
      · rintro ⟨h1, h2⟩
        have hin : z ∈ edg ys := by
          rcases h2 with rfl | ⟨h2, h4⟩
          · obtain ⟨E, hE⟩ := edg_zero hy
            rw [hE]
            simp
          · exact (edg_mem h2 (by omega)).mpr ((pk_tk htk (by omega) (by omega) (by omega)).mp h4)
        rw [e0] at hin
        rcases List.mem_append.mp hin with q | q
        · exact q
        · have : decide (z + 3 ≤ xs.length) = false := (List.mem_append.mp q).elim (fun q => (hM z q).1) (fun q => (hC z q).1)
          simp at this
          omega
  have h0A : 0 ∈ A := by rw [eA]; exact stE_mem.mpr ⟨by omega, .inl rfl⟩
  obtain ⟨Ai, al, hal⟩ : ∃ Ai al, A = Ai ++ [al] := by
    have hne : A ≠ [] := fun q => by rw [q] at h0A; cases h0A
    exact ⟨A.dropLast, A.getLast hne, (List.dropLast_concat_getLast _).symm⟩
  refine ⟨(slc (al :: (M ++ C)) ys).map Nd.blk, ?_, fun hq => ?_⟩
  · have h1 : prts ys = slc A ys ++ slc (al :: (M ++ C)) ys := by
      rw [prts_slc, e0, hal, List.append_assoc]
      exact slc_app al (M ++ C) ys Ai
    have h2 : stB xs = slc A ys := by
      unfold stB
      rw [← eA]
      refine slc_tk htk A fun z hz => ?_
      have h1 : z + 3 ≤ xs.length := by simpa using hA z hz
      omega
    rw [h1, h2, List.map_append]
  · rw [List.length_map, slc_len, List.length_cons]
    have hgap : (edg ys).Pairwise (fun a b => a + 2 ≤ b) := gap_of ys _ hasc hle fun p hp => by
      rw [← prts_slc] at hp
      have := (prts_len hR hp).1
      omega
    have := few_gaps (M ++ C) (xs.length - 2) (ys.length + 1) (fun z hz => by
      have h1 : decide (z + 3 ≤ xs.length) = false := (List.mem_append.mp hz).elim (fun q => (hM z q).1) (fun q => (hC z q).1)
      have h2 := hle z (by rw [e0]; exact List.mem_append_right _ hz)
      simp at h1
      omega) (by
      rw [e0] at hgap
      exact (List.pairwise_append.mp hgap).2.1)
    omega
theorem st_levels {m : Nat} {ns more : List Nd} (hW : ∀ j, LvOk m j (lv (ns ++ more) j)) (hm : m ≤ 2000) (j : Nat) : j ≤ 12 → ∃ Q, lv (ns ++ more) j = stL' ns j ++ Q ∧ (more = [] → Q.length ≤ 3 * (if j = 0 then 0 else 1)) := by
  induction j with
  | zero => exact fun _ => ⟨more, rfl, fun e => by rw [e]; exact Nat.zero_le _⟩
  | succ j ih =>
    intro hj
    obtain ⟨Q, e, hq⟩ := ih (by omega)
    have hk := hW j
    rw [e] at hk
    obtain ⟨Q', e2, hq2⟩ := st_stay hk hm (by omega)
    refine ⟨Q', ?_, fun em => ?_⟩
    · show nxt (lv (ns ++ more) j) = stN (stL' ns j) ++ Q'
      rw [e, e2]
    · have := hq em
      rw [if_neg (by omega)]
      refine hq2 ?_
      split at this <;> omega
end Law
namespace Law
open PySem L2 ML
noncomputable def m_settlements : MG := mGen 7 1 (gSeq (gPl (mSet 1 (mMake "Growth" m_Growth___init__ mNil)))
    (gSeq (gFor (mEnumS 1 (mCons (mVar 0) mNil)) (.many [2, 3]) (gSeq (gFor (mSrc (mMeth "Growth" "add_element" m_Growth_add_element (mVar 1) (mCons (mVar 3) mNil))) (.many [4, 5, 6]) (gSeq (gYield (mTup (mCons (mVar 2) (mCons (mVar 4) (mCons (mVar 5) (mCons (mVar 6) mNil))))))
    gNext))
    gNext))
    gNext))
open Classical
noncomputable def lvsG (O N : List Nd) : List Nat := (List.range 21).filter fun l => decide (stL' N (l + 1) ≠ stL' O (l + 1))
noncomputable def telA (O N : List Nd) (n l : Nat) : A := .tup [.int ((n : Nat) : Int), .int ((l + 1 : Nat) : Int), .int ((szNs (stL' O (l + 1)) : Nat) : Int), .int ((szNs (stL' N (l + 1)) : Nat) : Int)]
noncomputable def toldA (xs : List A) (i : Nat) : List A := (lvsG ((xs.take i).map .leaf) ((xs.take (i + 1)).map .leaf)).map (telA ((xs.take i).map .leaf) ((xs.take (i + 1)).map .leaf) (i + 1))
noncomputable def toldL (xs : List A) (n : Nat) : List A := (List.range n).flatMap (toldA xs)
theorem toldL_succ (xs : List A) (n : Nat) : toldL xs (n + 1) = toldL xs n ++ toldA xs n := by
  unfold toldL
  rw [List.range_succ, List.flatMap_append]
  simp
theorem filter_lt {P : Nat → Bool} {c : Nat} (h1 : ∀ i, i < c → P i = true) (h2 : ∀ i, c ≤ i → P i = false) : ∀ n, c ≤ n → (List.range n).filter P = List.range c
  | 0, h => by
    have : c = 0 := by omega
    rw [this]; rfl
  | n + 1, h => by
    rw [List.range_succ, List.filter_append]
    by_cases e : c = n + 1
    · subst e
      have : (List.range n).filter P = List.range n := List.filter_eq_self.mpr fun a ha => h1 a (by have := List.mem_range.mp ha; omega)
      rw [this, List.filter_cons_of_pos (h1 n (by omega)), List.range_succ]
      rfl
    · rw [filter_lt h1 h2 n (by omega), List.filter_cons_of_neg (by rw [h2 n (by omega)]; exact Bool.false_ne_true)]
      simp
theorem lvsG_eq {O N : List Nd} {c : Nat} (hc : c ≤ 20) (h1 : ∀ i, i < c → stL' N (i + 1) ≠ stL' O (i + 1)) (h2 : stL' N (c + 1) = stL' O (c + 1)) : lvsG O N = List.range c := by
  unfold lvsG
  refine filter_lt (fun i hi => decide_eq_true (h1 i hi)) (fun i hi => decide_eq_false ?_) 21 (by omega)
  have := same_up h2 (i - c)
  rw [show c + 1 + (i - c) = i + 1 by omega] at this
  exact fun q => q this
theorem toldA_len (xs : List A) (i : Nat) : (toldA xs i).length ≤ 21 := by
  unfold toldA lvsG
  rw [List.length_map]
  exact Nat.le_trans (List.length_filter_le _ _) (by simp)
theorem toldL_len (xs : List A) : ∀ n, (toldL xs n).length ≤ 21 * n
  | 0 => by simp [toldL]
  | n + 1 => by
    rw [toldL_succ, List.length_append]
    have := toldL_len xs n
    have := toldA_len xs n
    omega
theorem settlements_wp {xs : List A} {st : Store} {Q : List A → Store → Prop} (hx : ∀ y ∈ xs, El y) (hl : xs.length ≤ 2000) (k : ∀ st', Hold st st' → Q (toldL xs xs.length) st') : (m_settlements [.tup xs] st).wp Q := by
  simp only [m_settlements]
  have GI := @growth_init_wp
  have AE := @add_element_wpE
  generalize m_Growth___init__ = gi at GI ⊢
  generalize m_Growth_add_element = ae at AE ⊢
  refine wp_gen rfl ?_
  have hsz := size_eq
  simp only [List.map_cons, List.map_nil, List.cons_append, List.nil_append, List.replicate, Nat.reduceSub]
  refine gp_cut (fun ρ st' ds => ∃ r, GrE [] st.length (st.length + 1) r [] (stL' []) (fun i => szNs (stL' [] (i + 1))) st' ∧ (∀ i, i < st.length → st'[i]? = st[i]?) ∧ ds = [] ∧ ρ = [some (.tup xs), some (.ref st.length), none, none, none, none, none]) ?_ ?_
  · refine gp_pl ?_
    simp only [sp_set, wp_make, wp_cons, wp_nil, List.set_cons_zero, List.set_cons_succ]
    refine GI fun r st' H G => ⟨by first | exact rfl | exact True.intro, r, ⟨G.i, G.T, G.h, fun j l hj => by simp at hj, fun j _ => ⟨stL_nil j, by rw [stL_nil]; rfl⟩, G.og, G.ot, G.ol, G.os, G.lt⟩, H.get, by first | exact rfl | exact True.intro, by first | exact rfl | exact True.intro⟩
  rintro ρ st1 ds ⟨r, G, hh, rfl, rfl⟩
  refine gp_cut (fun ρ st' ds => (∀ i, i < st.length → st'[i]? = st[i]?) ∧ st.length ≤ st'.length ∧ ds = toldL xs xs.length) ?_ ?_
  · refine gp_for ?_
    refine wp_enumS ?_
    simp only [wp_cons, wp_nil, wp_var, List.getElem?_cons_succ, List.getElem?_cons_zero, Option.some.injEq, ex_eq]
    refine ⟨xs, rfl, ?_⟩
    refine gfor_zipv (fun i ρ st' ds => ∃ (f : List Nd) (ls : List Nat) (v2 v3 v4 v5 v6 : Option A), GrE f st.length (st.length + 1) r ls (stL' ((xs.take i).map .leaf)) (fun j => szNs (stL' ((xs.take i).map .leaf) (j + 1))) st' ∧ (∀ j, j < ls.length → stL' ((xs.take i).map .leaf) j ≠ []) ∧ f.length ≤ 100 * i ∧ (∀ i, i < st.length → st'[i]? = st[i]?) ∧ ds = toldL xs i ∧ ρ = [some (.tup xs), some (.ref st.length), v2, v3, v4, v5, v6]) (cntK_len _ _) ⟨[], [], none, none, none, none, none, G, (fun i hi => absurd hi (Nat.not_lt_zero _)), by simp, hh, rfl, rfl⟩ ?_ ?_ _ (by simp [Src.size, cntK_len])
    · rintro i n x ρ st2 ds hn hxi ⟨f, ls, v2, v3, v4, v5, v6, G2, hne, hf, hh2, rfl, rfl⟩
      have hi := (List.getElem?_eq_some_iff.mp hxi).1
      have hnv : n = .int ((i + 1 : Nat) : Int) := by
        unfold cntK at hn
        rw [List.getElem?_map, List.getElem?_range hi] at hn
        simp at hn
        rw [← hn]
        congr 1
        omega
      subst hnv
      refine ⟨[some (.tup xs), some (.ref st.length), some (.int ((i + 1 : Nat) : Int)), some x, v4, v5, v6], rfl, ?_⟩
      have et : xs.take (i + 1) = xs.take i ++ [x] := by rw [List.take_add_one, hxi]; rfl
      have hx2 : ∀ y ∈ xs.take i ++ [x], El y := fun y hy => by
        rw [← et] at hy
        exact hx y (List.mem_of_mem_take hy)
      have hl2 : (xs.take i ++ [x]).length ≤ 2000 := by rw [← et, List.length_take]; omega
      have iG := G2.i
      have hm : (groFs (st.length + 1) r).lookup ("add_element" : Str) = none := rfl
      have htl := toldL_len xs i
      refine gp_cut (fun ρ st' ds => ∃ (f : List Nd) (ls : List Nat) (v4 v5 v6 : Option A), GrE f st.length (st.length + 1) r ls (stL' ((xs.take (i + 1)).map .leaf)) (fun j => szNs (stL' ((xs.take (i + 1)).map .leaf) (j + 1))) st' ∧ (∀ j, j < ls.length → stL' ((xs.take (i + 1)).map .leaf) j ≠ []) ∧ f.length ≤ 100 * (i + 1) ∧ (∀ i, i < st.length → st'[i]? = st[i]?) ∧ ds = toldL xs (i + 1) ∧ ρ = [some (.tup xs), some (.ref st.length), some (.int ((i + 1 : Nat) : Int)), some x, v4, v5, v6]) ?_ ?_
      · refine gp_for ?_
        simp only [wp_src, wp_meth, wp_cons, wp_nil, wp_var, List.set_cons_zero, List.set_cons_succ, List.getElem?_cons_succ, List.getElem?_cons_zero, Option.some.injEq, ex_eq, insA_of iG, hm, true_and]
        refine AE hx2 hl2 G2 (by omega) hne fun f' ls' st' c G' hq hc h1 h2 hf' hh' hne' => ?_
        rw [← et] at G' hne' h1 h2 hq
        have hlv := lvsG_eq hc h1 h2
        have etl : toldA xs i = (List.range c).map (telA ((xs.take i).map .leaf) ((xs.take (i + 1)).map .leaf) (i + 1)) := by
          unfold toldA
          rw [hlv]
        rw [w_srcL]
        refine ⟨by rw [hq]; rfl, ?_⟩
        refine gfor_lst (fun j ρ st4 ds => st4 = st' ∧ ds = toldL xs i ++ (List.range j).map (telA ((xs.take i).map .leaf) ((xs.take (i + 1)).map .leaf) (i + 1)) ∧ ∃ v4 v5 v6 : Option A, ρ = [some (.tup xs), some (.ref st.length), some (.int ((i + 1 : Nat) : Int)), some x, v4, v5, v6]) hq ⟨rfl, by simp, _, _, _, rfl⟩ ?_ ?_ ?_
        · rintro j ρ st4 ds ⟨rfl, _, _⟩
          exact hq
        · rintro j y ρ st4 ds hy ⟨rfl, rfl, v4, v5, v6, rfl⟩
          have hjc := (List.getElem?_eq_some_iff.mp hy).1
          rw [List.length_map, List.length_range] at hjc
          rw [List.getElem?_map, List.getElem?_range hjc] at hy
          simp only [Option.map_some, Option.some.injEq] at hy
          subst hy
          refine ⟨[some (.tup xs), some (.ref st.length), some (.int ((i + 1 : Nat) : Int)), some x, some (.int ((j + 1 : Nat) : Int)), some (.int ((szNs (stL' ((xs.take i).map .leaf) (j + 1)) : Nat) : Int)), some (.int ((szNs (stL' ((xs.take (i + 1)).map .leaf) (j + 1)) : Nat) : Int))], rfl, ?_⟩
          refine gp_seq.mpr (gp_yield ?_)
          simp only [wp_tup, wp_cons, wp_nil, wp_var, List.set_cons_zero, List.set_cons_succ, List.getElem?_cons_succ, List.getElem?_cons_zero, Option.some.injEq, ex_eq, gp_next]
          refine ⟨by simp [size_eq], by rw [size_eq, List.length_append, List.length_map, List.length_range]; omega, by first | exact rfl | exact True.intro, ?_, _, _, _, rfl⟩
          rw [List.range_succ, List.map_append, List.map_singleton, List.append_assoc]
          rfl
        · rintro ρ st4 ds ⟨rfl, rfl, v4, v5, v6, rfl⟩
          refine ⟨f', ls', v4, v5, v6, G', hne', by omega, fun u hu => by rw [hh' u hu]; exact hh2 u hu, ?_, rfl⟩
          rw [toldL_succ, etl, List.length_map, List.length_range]
      · rintro ρ st4 ds ⟨f', ls', v4, v5, v6, G', hne', hf', hh', rfl, rfl⟩
        rw [gp_next]
        exact ⟨f', ls', _, _, _, _, _, G', hne', hf', hh', rfl, rfl⟩
    · rintro ρ st2 ds ⟨f, ls, v2, v3, v4, v5, v6, G2, hne, hf, hh2, rfl, rfl⟩
      have := (List.getElem?_eq_some_iff.mp G2.i).1
      exact ⟨hh2, by omega, rfl⟩
  rintro ρ st2 ds ⟨hh2, hl2, rfl⟩
  rw [gp_next]
  exact k st2 ⟨hl2, hh2⟩
end Law
namespace Law
open PySem L2 ML
open Classical
theorem st_one (ns : List Nd) (x : Nd) : stN (ns ++ [x]) = stN ns ∨ ∃ y, stN (ns ++ [x]) = stN ns ++ [y] := by
  by_cases hns : ns = []
  · subst hns
    obtain ⟨_, _, c3, _⟩ := add_first (f := []) (x := x) (fin := 0)
    exact .inl (by rw [List.nil_append, c3]; rfl)
  · obtain ⟨p, g, e⟩ := grp_parts hns
    by_cases hg : g.1 = x
    · exact .inl (add_same (f := []) (fin := 0) e hg).2.1
    · obtain ⟨_, c2, _⟩ := add_other (f := []) (fin := 0) e hg
      have hsn := st_new (xs := itms ns) (x := x)
      rw [← c2] at hsn
      by_cases c : 4 ≤ (itms ns).length ∧ isPk (colsZ (itms ns)) ((itms ns).length - 2)
      · rw [if_pos c] at hsn
        exact .inr ⟨_, by unfold stN; rw [hsn.1, List.map_append, List.map_singleton]⟩
      · rw [if_neg c] at hsn
        exact .inl (by unfold stN; rw [hsn.1])
theorem stL_one (ns : List Nd) (x : Nd) : ∀ j, stL' (ns ++ [x]) j = stL' ns j ∨ ∃ y, stL' (ns ++ [x]) j = stL' ns j ++ [y]
  | 0 => .inr ⟨x, rfl⟩
  | j + 1 => by
    rcases stL_one ns x j with e | ⟨y, e⟩
    · exact .inl (by show stN (stL' (ns ++ [x]) j) = stN (stL' ns j); rw [e])
    · have := st_one (stL' ns j) y
      rw [← e] at this
      exact this
noncomputable def sumL (ns : List Nd) : Nat → Nat
  | 0 => 0
  | k + 1 => sumL ns k + (stL' ns (k + 1)).length
theorem sumL_lt {m : Nat} {ns : List Nd} (h : ∀ j, LvOk m j (stL' ns j)) : ∀ k, sumL ns k * 2 ^ k + m ≤ m * 2 ^ k
  | 0 => by simp [sumL]
  | k + 1 => by
    have ih := sumL_lt h k
    have h1 := (h (k + 1)).len
    have e1 : (sumL ns k + (stL' ns (k + 1)).length) * 2 ^ (k + 1) = 2 * (sumL ns k * 2 ^ k) + (stL' ns (k + 1)).length * 2 ^ (k + 1) := by
      rw [Nat.add_mul]
      congr 1
      rw [Nat.pow_succ, ← Nat.mul_assoc, Nat.mul_comm]
    have e2 : m * 2 ^ (k + 1) = 2 * (m * 2 ^ k) := by rw [Nat.pow_succ, ← Nat.mul_assoc, Nat.mul_comm]
    show (sumL ns k + (stL' ns (k + 1)).length) * 2 ^ (k + 1) + m ≤ _
    rw [e1, e2]
    omega
theorem sumL_step {O N : List Nd} (h : ∀ j, stL' N j = stL' O j ∨ ∃ y, stL' N j = stL' O j ++ [y]) : ∀ k, sumL O k + ((List.range k).filter fun l => decide (stL' N (l + 1) ≠ stL' O (l + 1))).length ≤ sumL N k
  | 0 => by simp [sumL]
  | k + 1 => by
    have ih := sumL_step h k
    rw [List.range_succ, List.filter_append, List.length_append]
    show sumL O k + (stL' O (k + 1)).length + _ ≤ sumL N k + (stL' N (k + 1)).length
    rcases h (k + 1) with e | ⟨y, e⟩
    · have : (List.filter (fun l => decide (stL' N (l + 1) ≠ stL' O (l + 1))) [k]).length = 0 := by
        rw [List.filter_cons_of_neg (by rw [decide_eq_false (fun q => q e)]; exact Bool.false_ne_true)]
        rfl
      rw [this, e]
      omega
    · have h1 : (List.filter (fun l => decide (stL' N (l + 1) ≠ stL' O (l + 1))) [k]).length ≤ 1 := List.length_filter_le _ _
      have h2 : (stL' N (k + 1)).length = (stL' O (k + 1)).length + 1 := by rw [e, List.length_append]; rfl
      omega
theorem take_one {xs : List A} {n : Nat} (h : n < xs.length) : (xs.take (n + 1)).map Nd.leaf = (xs.take n).map Nd.leaf ++ [.leaf xs[n]] := by
  rw [List.take_add_one, List.getElem?_eq_getElem h, List.map_append]
  rfl
theorem grow_one {xs : List A} {n : Nat} (h : n < xs.length) (j : Nat) : stL' ((xs.take (n + 1)).map .leaf) j = stL' ((xs.take n).map .leaf) j ∨ ∃ y, stL' ((xs.take (n + 1)).map .leaf) j = stL' ((xs.take n).map .leaf) j ++ [y] := by
  rw [take_one h]
  exact stL_one _ _ j
theorem toldL_le {xs : List A} : ∀ n, n ≤ xs.length → (toldL xs n).length ≤ sumL ((xs.take n).map .leaf) 21
  | 0, _ => by simp [toldL]
  | n + 1, h => by
    have ih := toldL_le (xs := xs) n (by omega)
    have := sumL_step (grow_one (xs := xs) (n := n) (by omega)) 21
    rw [toldL_succ, List.length_append]
    have e : (toldA xs n).length = ((List.range 21).filter fun l => decide (stL' ((xs.take (n + 1)).map .leaf) (l + 1) ≠ stL' ((xs.take n).map .leaf) (l + 1))).length := by
      unfold toldA lvsG
      rw [List.length_map]
    omega
theorem told_few {xs : List A} (hx : ∀ y ∈ xs, El y) (hl : xs.length ≤ 2000) : (toldL xs xs.length).length < xs.length ∨ ((toldL xs xs.length).length = 0 ∧ xs.length = 0) := by
  have h1 := toldL_le (xs := xs) xs.length (Nat.le_refl _)
  have h2 := sumL_lt (stL_ok hx hl) 21
  rw [List.take_length] at h1
  have e : 2 ^ 21 = 2097152 := by decide
  rw [e] at h2
  omega
theorem filter_cut {P : Nat → Bool} {c : Nat} (h2 : ∀ i, c ≤ i → P i = false) : ∀ n, c ≤ n → (List.range n).filter P = (List.range c).filter P
  | 0, h => by
    have : c = 0 := by omega
    rw [this]
  | n + 1, h => by
    by_cases e : c = n + 1
    · rw [e]
    · rw [List.range_succ, List.filter_append, filter_cut h2 n (by omega), List.filter_cons_of_neg (by rw [h2 n (by omega)]; exact Bool.false_ne_true)]
      simp
theorem lvsG_cut {O N : List Nd} {n : Nat} (h : ∀ j, stL' N j = stL' O j ∨ ∃ y, stL' N j = stL' O j ++ [y]) (hn : ∀ i, stL' N (n + i) = []) (h1 : n ≤ 21) : lvsG O N = (List.range (n - 1)).filter fun l => decide (stL' N (l + 1) ≠ stL' O (l + 1)) := by
  unfold lvsG
  refine filter_cut (fun i hi => decide_eq_false fun q => q ?_) 21 (by omega)
  have := hn (i + 1 - n)
  rw [show n + (i + 1 - n) = i + 1 by omega] at this
  rcases h (i + 1) with e | ⟨y, e⟩
  · exact e
  · rw [this] at e
    exact absurd e (by simp)
theorem tel_gt (O N : List Nd) (n l : Nat) : telA O N n l = .tup [.int ((n : Nat) : Int), .int ((l + 1 : Nat) : Int), .int ((szNs (stL' O (l + 1)) : Nat) : Int), .int ((szNs (stL' N (l + 1)) : Nat) : Int)] := rfl
noncomputable def dueL (xs : List A) (low k : Nat) : List A := (List.range k).flatMap fun t => toldA xs (low + t)
theorem dueL_succ (xs : List A) (low n : Nat) : dueL xs low (n + 1) = dueL xs low n ++ toldA xs (low + n) := by
  unfold dueL
  rw [List.range_succ, List.flatMap_append]
  simp
def aftA (low : Nat) : A → Bool
  | .tup (.int i :: _) => decide ((low : Int) < i)
  | _ => false
theorem toldA_aft {xs : List A} {low n : Nat} : ∀ a ∈ toldA xs n, aftA low a = decide (low < n + 1) := fun a ha => by
  unfold toldA at ha
  obtain ⟨l, _, rfl⟩ := List.mem_map.mp ha
  show decide ((low : Int) < ((n + 1 : Nat) : Int)) = _
  by_cases c : low < n + 1
  · rw [decide_eq_true c, decide_eq_true (by omega)]
  · rw [decide_eq_false c, decide_eq_false (by omega)]
theorem told_before {xs : List A} {low : Nat} : ∀ n, n ≤ low → (toldL xs n).filter (aftA low) = []
  | 0, _ => rfl
  | n + 1, h => by
    rw [toldL_succ, List.filter_append, told_before n (by omega), List.nil_append]
    exact List.filter_eq_nil_iff.mpr fun a ha => by rw [toldA_aft a ha, decide_eq_false (by omega)]; exact Bool.false_ne_true
theorem told_after {xs : List A} {low n : Nat} (h : low ≤ n) : (toldA xs n).filter (aftA low) = toldA xs n :=
  List.filter_eq_self.mpr fun a ha => (toldA_aft a ha).trans (decide_eq_true (Nat.lt_succ_of_le h))
theorem told_due {xs : List A} {low : Nat} (k : Nat) : (toldL xs (low + k)).filter (aftA low) = dueL xs low k := by
  induction k with
  | zero =>
    rw [Nat.add_zero, told_before low (Nat.le_refl _)]
    rfl
  | succ k ih =>
    have h1 := toldL_succ xs (low + k)
    have h2 := dueL_succ xs low k
    have h3 := told_after (xs := xs) (low := low) (n := low + k) (Nat.le_add_right _ _)
    have h4 : low + (k + 1) = low + k + 1 := rfl
    rw [h4, h1, h2, List.filter_append, ih, h3]
theorem tel_cmp (O N : List Nd) (n l : Nat) : Cmp 1 (telA O N n l) := by
  unfold telA
  refine Cmp.tup (d := 0) (fun y hy => ?_) (by simp)
  simp only [List.mem_cons, List.not_mem_nil, or_false] at hy
  rcases hy with rfl | rfl | rfl | rfl <;> exact int_cmp _
theorem told_mem {xs : List A} {n : Nat} {a : A} (h : a ∈ toldL xs n) : ∃ i l, a = telA ((xs.take i).map .leaf) ((xs.take (i + 1)).map .leaf) (i + 1) l := by
  unfold toldL at h
  obtain ⟨i, _, h2⟩ := List.mem_flatMap.mp h
  unfold toldA at h2
  obtain ⟨l, _, rfl⟩ := List.mem_map.mp h2
  exact ⟨i, l, rfl⟩
theorem due_cmp {xs : List A} {low k : Nat} (h : low + k ≤ 2000) : Cmp 2 (.tup (dueL xs low k)) := by
  rw [← told_due]
  refine Cmp.tup (d := 1) (fun y hy => ?_) ?_
  · obtain ⟨i, l, rfl⟩ := told_mem (List.mem_filter.mp hy).1
    exact tel_cmp _ _ _ _
  · have := toldL_len xs (low + k)
    have := List.length_filter_le (aftA low) (toldL xs (low + k))
    omega
end Law
namespace Law
open PySem PySem.Spec L2 ML
noncomputable def m_law : MF := mFn 13 1 (mSeq (mSet 1 (mCall m_law_tape (mCons (mVar 0) mNil)))
    (mSeq (mSet 2 (mCall m_law_contents (mCons (mVar 1) (mCons (mC (.int 32)) mNil))))
    (mSeq (mSet 3 (mC (.int 0)))
    (mSeq (mIfS (mGB (mBin eqA (mCall m_law_draw (mCons (mVar 1) (mCons (mC (.int 8)) mNil))) (mC (.int 0)))) (mSeq (mSet 2 (mBin addA (mVar 2) (mCall m_law_large (mCons (mVar 1) (mCons (mC (.int 120)) mNil)))))
    (mSet 3 (mBin subA (mCa lenA (mCons (mVar 2) mNil)) (mC (.int 24))))) mNext)
    (mSeq (mSet 4 (mCall m_spans_of (mCons (mCa tupleA (mCons (mVar 2) mNil)) mNil)))
    (mSeq (mSet 5 (mLst mNil))
    (mSeq (mSet 6 (mCall m_settled_of (mCons (mCa tupleA (mCons (mSl (mVar 2) mNoPart (mPart (mVar 3))) mNil)) mNil)))
    (mSeq (mFor (mRng (mCons (mBin addA (mVar 3) (mC (.int 1))) (mCons (mBin addA (mCa lenA (mCons (mVar 2) mNil)) (mC (.int 1))) mNil))) (.one 7) (mSeq (mSet 8 (mCall m_settled_of (mCons (mCa tupleA (mCons (mSl (mVar 2) mNoPart (mPart (mVar 7))) mNil)) mNil)))
    (mSeq (mFor (mRng (mCons (mC (.int 1)) (mCons (mCa lenA (mCons (mVar 8) mNil)) mNil))) (.one 9) (mSeq (mSet 10 (mC (.int 0)))
    (mSeq (mIfS (mGB (mBin ltA (mVar 9) (mCa lenA (mCons (mVar 6) mNil)))) (mSet 10 (mBin ixA (mVar 6) (mVar 9))) mNext)
    (mSeq (mIfS (mOr (mGB (mBin ltA (mBin ixA (mVar 8) (mVar 9)) (mVar 10))) (mOr (mGB (mBin gtA (mBin ixA (mVar 8) (mVar 9)) (mBin addA (mVar 10) (mC (.int 1))))) (mGB (mBin gtA (mBin ixA (mVar 8) (mVar 9)) (mCa lenA (mCons (mBin ixA (mVar 4) (mVar 9)) mNil)))))) (mRet (mC (.bl false))) mNext)
    (mIfS (mGB (mBin gtA (mBin ixA (mVar 8) (mVar 9)) (mVar 10))) (mExpr (mBm appendA (mVar 5) (mCons (mBin addA (mTup (mCons (mVar 7) (mCons (mVar 9) mNil))) (mBin ixA (mBin ixA (mVar 4) (mVar 9)) (mVar 10))) mNil))) mNext)))))
    (mSet 6 (mVar 8)))))
    (mSeq (mSet 11 (mTupY m_settlements (mCons (mCa tupleA (mCons (mVar 2) mNil)) mNil)))
    (mSeq (mIfS (mGB (mBin geA (mCa lenA (mCons (mVar 11) mNil)) (mCa maxA (mCons (mC (.int 1)) (mCons (mCa lenA (mCons (mVar 2) mNil)) mNil))))) (mRet (mC (.bl false))) mNext)
    (mRet (mCall (m_law_alike 40) (mCons (mCa tupleA (mCons (mLc (mSrc (mVar 11)) (.one 12) [12] (mGB (mBin gtA (mBin ixA (mVar 12) (mC (.int 0))) (mVar 3))) (mVar 12)) mNil)) (mCons (mCa tupleA (mCons (mVar 5) mNil)) mNil))))))))))))))
open Classical
noncomputable def St31 (ns : List Nd) (n : Nat) : List A := (List.range n).map fun i => A.int ((stL' ns i).length : Nat)
noncomputable def Sp31 (ns : List Nd) (n : Nat) : List A := (List.range n).map (spnA ns)
theorem st31_len (ns : List Nd) (n : Nat) : (St31 ns n).length = n := by simp [St31]
theorem rng_at {f : Nat → A} {j i : Nat} {z : Int} (hz : z = ((i : Nat) : Int)) (h : i < j) : atI ((List.range j).map f) z = some (f i) := by
  rw [hz, atI_nn (by omega), Int.toNat_natCast, List.getElem?_map, List.getElem?_range h]
  rfl
theorem st31_at {ns : List Nd} {n i : Nat} {z : Int} (hz : z = ((i : Nat) : Int)) (h : i < n) : atI (St31 ns n) z = some (.int ((stL' ns i).length : Nat)) := rng_at hz h
theorem sp31_at {ns : List Nd} {n i : Nat} {z : Int} (hz : z = ((i : Nat) : Int)) (h : i < n) : atI (Sp31 ns n) z = some (.tup (spn 0 (lv ns i))) := rng_at hz h
theorem stL_stop {ns : List Nd} {n : Nat} (h : stL' ns n = []) : ∀ i, stL' ns (n + i) = []
  | 0 => h
  | i + 1 => by
    show stN (stL' ns (n + i)) = []
    rw [stL_stop h i]
    exact stL_nil 1
theorem span_tel {L O N Q : List Nd} {y : Nd} (e : L = N ++ Q) (eN : N = O ++ [y]) : (spn 0 L)[O.length]? = some (A.tup [.int ((szNs O : Nat) : Int), .int ((szNs N : Nat) : Int)]) := by
  have hl : O.length < L.length := by rw [e, eN]; simp
  rw [spn_get hl]
  have e1 : L.take O.length = O := by rw [e, eN, List.append_assoc]; exact List.take_left' rfl
  have e2 : L.take (O.length + 1) = N := by rw [e]; exact List.take_left' (by rw [eN]; simp)
  rw [e1, e2, Nat.zero_add, Nat.zero_add]
theorem law_true : LawTrue m_law := fun ns0 h1 h2 => by
  have key : (m_law [.scr (ns0.map .int)] []).wp fun a _ => a = .bl true := by
    simp only [m_law, wp_fn]
    refine ⟨rfl, ?_⟩
    have hsz := size_eq
    have KW := @conts_wp
    have LW := @large_wp
    have DW := @drawQ
    have SW := @spans_of_wp
    have TW := @settled_of_wp
    have YW := @settlements_wp
    generalize m_law_contents = mct at KW ⊢
    generalize m_law_large = mla at LW ⊢
    generalize m_law_draw = mdr at DW ⊢
    generalize m_spans_of = mso at SW ⊢
    generalize m_settled_of = mse at TW ⊢
    generalize m_settlements = msy at YW ⊢
    generalize hF : @mFor = F
    refine seq_cut (fun ρ st => TpOk st ∧ ρ = [some (.scr (ns0.map .int)), some (.ref 1), none, none, none, none, none, none, none, none, none, none, none]) ?_ ?_
    · simp
      exact tape_wp fun st t0 l0 => ⟨t0, rfl⟩
    rintro ρ st ⟨t0, rfl⟩
    generalize hs0 : some (A.scr (ns0.map .int)) = s0
    refine seq_cut (fun ρ st => ∃ r xs, TpOk st ∧ 1 < r ∧ stL st r = some xs ∧ (∀ x ∈ xs, El x) ∧ xs.length ≤ 200 ∧ ρ = [s0, some (.ref 1), some (.ref r), none, none, none, none, none, none, none, none, none, none]) ?_ ?_
    · simp only [sp_set, wp_call, wp_cons, wp_nil, wp_var, wp_c, List.getElem?_cons_succ, List.getElem?_cons_zero, Option.some.injEq, ex_eq, List.set_cons_zero, List.set_cons_succ]
      refine KW t0 (by decide) (by decide) fun r xs st1 he hl hl2 t1 k1 hr hx => ?_
      have hlr := t0.len
      exact ⟨r, xs, t1, by omega, hx, he, hl2, rfl⟩
    clear t0 st
    rintro ρ st ⟨r, xs, t0, r1, hr, hx, hl, rfl⟩
    refine seq_cut (fun ρ st' => st' = st ∧ ρ = [s0, some (.ref 1), some (.ref r), some (.int 0), none, none, none, none, none, none, none, none, none]) ?_ ?_
    · simp only [sp_set, wp_c, List.set_cons_zero, List.set_cons_succ]
      exact ⟨by first | exact rfl | exact True.intro, by first | exact rfl | exact True.intro⟩
    rintro ρ st1 ⟨rfl, rfl⟩
    refine seq_cut (fun ρ st => ∃ r xs, ∃ low : Nat, stL st r = some xs ∧ (∀ x ∈ xs, El x) ∧ xs.length ≤ 400 ∧ low ≤ xs.length ∧ ρ = [s0, some (.ref 1), some (.ref r), some (.int ((low : Nat) : Int)), none, none, none, none, none, none, none, none, none]) ?_ ?_
    · simp only [sp_ifs, wp_gb, wp_bin, wp_call, wp_cons, wp_nil, wp_var, wp_c, List.getElem?_cons_succ, List.getElem?_cons_zero, Option.some.injEq, ex_eq, List.set_cons_zero, List.set_cons_succ]
      refine DW t0 (by decide) fun n st2 hn t2 k2 l2 => ?_
      simp only [w_eq, w_getB]
      by_cases c : ((n : Nat) : Int) = 0
      · rw [decide_eq_true c]
        simp only [if_true, sp_seq, sp_set, wp_bin, wp_call, wp_ca, wp_cons, wp_nil, wp_var, wp_c, List.getElem?_cons_succ, List.getElem?_cons_zero, Option.some.injEq, ex_eq, List.set_cons_zero, List.set_cons_succ]
        refine LW (size := 120) t2 (by omega) fun q ns st4 n1 n2 t4 k4 hq => ?_
        rw [w_addL]
        have hx1 : stL st4 r = some xs := k4.stL (by omega) (k2.stL (by omega) hr)
        refine ⟨_, hx1, _, hq, by rw [size_eq, List.length_map]; omega, ?_⟩
        simp only [w_lenL, stL_new, w_sub, Option.some.injEq, ex_eq]
        refine ⟨_, _, (xs ++ ns.map A.int).length - 24, stL_new, el_app hx (ints_el n2), by rw [List.length_append, List.length_map]; omega, by omega, ?_⟩
        have : (((xs ++ ns.map A.int).length : Nat) : Int) - 24 = (((xs ++ ns.map A.int).length - 24 : Nat) : Int) := by
          have : 24 ≤ (xs ++ ns.map A.int).length := by rw [List.length_append, List.length_map]; omega
          omega
        rw [this]
      · rw [decide_eq_false c]
        simp only [Bool.false_eq_true, if_false, sp_next]
        exact ⟨r, xs, 0, k2.stL (by omega) hr, hx, by omega, by omega, rfl⟩
    clear t0 hr r1 hx hl
    clear st1
    clear r xs
    rintro ρ st ⟨r, xs, low, hr, hx, hl, hlow, rfl⟩
    refine seq_cut (fun ρ st => ∃ js, stL st r = some xs ∧ (∀ i, i < js → lv (xs.map .leaf) i ≠ []) ∧ lv (xs.map .leaf) js = [] ∧ ρ = [s0, some (.ref 1), some (.ref r), some (.int ((low : Nat) : Int)), some (.tup (Sp31 (xs.map .leaf) js)), none, none, none, none, none, none, none, none]) ?_ ?_
    · simp only [sp_set, wp_ca, wp_call, wp_cons, wp_nil, wp_var, List.getElem?_cons_succ, List.getElem?_cons_zero, Option.some.injEq, ex_eq, List.set_cons_zero, List.set_cons_succ, w_tupL, hr]
      exact SW hx (by omega) fun j st' ho s1 s0' => ⟨j, ho.stL hr, s1, s0', rfl⟩
    clear hr st
    rintro ρ st ⟨js, hr, s1, s0', rfl⟩
    have hlv := lv_ok hx (show xs.length ≤ 2000 by omega)
    have hjs : js ≤ 11 := by
      cases js with
      | zero => omega
      | succ j => have := few_levels (hlv j) (by omega) (s1 j (Nat.lt_succ_self j)); omega
    have pre : ∀ i, i ≤ xs.length → ∀ j, j ≤ 12 → ∃ Q, lv (xs.map .leaf) j = stL' ((xs.take i).map .leaf) j ++ Q := fun i hi j hj => by
      have em : xs.map Nd.leaf = (xs.take i).map .leaf ++ (xs.drop i).map .leaf := by rw [← List.map_append, List.take_append_drop]
      obtain ⟨Q, e, _⟩ := st_levels (ns := (xs.take i).map .leaf) (more := (xs.drop i).map .leaf) (m := xs.length) (by rw [← em]; exact hlv) (by omega) j hj
      rw [← em] at e
      exact ⟨Q, e⟩
    have few : ∀ i n, (∀ j, j < n → stL' ((xs.take i).map .leaf) j ≠ []) → n ≤ 11 := fun i n h => by
      cases n with
      | zero => omega
      | succ j =>
        have hxi : ∀ y ∈ xs.take i, El y := fun y hy => hx y (List.mem_of_mem_take hy)
        have hli : (xs.take i).length ≤ 2000 := by rw [List.length_take]; omega
        have := few_levels (stL_ok hxi hli j) hli (h j (Nat.lt_succ_self j))
        omega
    have njs : ∀ i n, i ≤ xs.length → (∀ j, j < n → stL' ((xs.take i).map .leaf) j ≠ []) → n ≤ js := fun i n hi h => by
      by_cases c : n ≤ js
      · exact c
      · exfalso
        obtain ⟨Q, e⟩ := pre i hi js (by omega)
        rw [s0'] at e
        exact h js (by omega) (List.append_eq_nil_iff.mp e.symm).1
    have tkx : ∀ i, ∀ y ∈ xs.take i, El y := fun i y hy => hx y (List.mem_of_mem_take hy)
    have tkl : ∀ i, (xs.take i).length ≤ 2000 := fun i => by rw [List.length_take]; omega
    refine seq_cut (fun ρ st => ∃ r5, stL st r = some xs ∧ stL st r5 = some (dueL xs low 0) ∧ r ≠ r5 ∧ ρ = [s0, some (.ref 1), some (.ref r), some (.int ((low : Nat) : Int)), some (.tup (Sp31 (xs.map .leaf) js)), some (.ref r5), none, none, none, none, none, none, none]) ?_ ?_
    · simp only [sp_set, wp_lst, wp_nil, List.set_cons_zero, List.set_cons_succ]
      exact ⟨by simp [sizeLine], _, Grown.stL (.one _ _) hr, stL_new, by have := stL_lt hr; omega, rfl⟩
    clear hr st
    rintro ρ st ⟨r5, hr, h5, hne, rfl⟩
    refine seq_cut (fun ρ st => ∃ n, stL st r = some xs ∧ stL st r5 = some (dueL xs low 0) ∧ (∀ i, i < n → stL' ((xs.take low).map .leaf) i ≠ []) ∧ stL' ((xs.take low).map .leaf) n = [] ∧ ρ = [s0, some (.ref 1), some (.ref r), some (.int ((low : Nat) : Int)), some (.tup (Sp31 (xs.map .leaf) js)), some (.ref r5), some (.tup (St31 ((xs.take low).map .leaf) n)), none, none, none, none, none, none]) ?_ ?_
    · simp only [sp_set, wp_ca, wp_call, wp_sl, wp_noPart, wp_part, wp_cons, wp_nil, wp_var, List.getElem?_cons_succ, List.getElem?_cons_zero, Option.some.injEq, ex_eq, List.set_cons_zero, List.set_cons_succ, w_getI, w_slL, hr, w_tupL, stL_new, ML.cut_to (Int.natCast_nonneg low), Int.toNat_natCast]
      exact TW (tkx low) (tkl low) fun n st' ho t1 t0 => ⟨n, ho.stL (Grown.stL (.one _ _) hr), ho.stL (Grown.stL (.one _ _) h5), t1, t0, rfl⟩
    clear hr h5 st
    rintro ρ st ⟨n0, hr, h5, hn1, hn0, rfl⟩
    refine seq_cut (fun ρ st => ∃ v6 v7 v8 v9 v10 : Option A, stL st r = some xs ∧ stL st r5 = some (dueL xs low (xs.length - low)) ∧ ρ = [s0, some (.ref 1), some (.ref r), some (.int ((low : Nat) : Int)), some (.tup (Sp31 (xs.map .leaf) js)), some (.ref r5), v6, v7, v8, v9, v10, none, none]) ?_ ?_
    · rw [← hF]
      simp only [sp_for, wp_rng, wp_bin, wp_ca, wp_c, wp_cons, wp_nil, wp_var, List.getElem?_cons_succ, List.getElem?_cons_zero, Option.some.injEq, ex_eq, w_lenL, hr, w_add, w_rng2]
      refine ⟨⟨by omega, by omega, by omega, by omega⟩, ?_⟩
      rw [show (((xs.length : Nat) : Int) + 1 - (((low : Nat) : Int) + 1)).toNat = xs.length - low by omega]
      refine for_rng (fun i ρ st => ∃ (n : Nat) (v7 v8 v9 v10 : Option A), stL st r = some xs ∧ stL st r5 = some (dueL xs low i) ∧ (∀ j, j < n → stL' ((xs.take (low + i)).map .leaf) j ≠ []) ∧ stL' ((xs.take (low + i)).map .leaf) n = [] ∧ ρ = [s0, some (.ref 1), some (.ref r), some (.int ((low : Nat) : Int)), some (.tup (Sp31 (xs.map .leaf) js)), some (.ref r5), some (.tup (St31 ((xs.take (low + i)).map .leaf) n)), v7, v8, v9, v10, none, none]) ⟨n0, none, none, none, none, hr, h5, hn1, hn0, rfl⟩ ?_ (fun ρ st ⟨n, v7, v8, v9, v10, a, b, _, _, e⟩ => ⟨_, v7, v8, v9, v10, a, b, e⟩)
      clear hr h5 hn1 hn0 st n0
      rintro i ρ st hi ⟨nb, v7, v8, v9, v10, hr, h5, hb1, hb0, rfl⟩
      refine ⟨[s0, some (.ref 1), some (.ref r), some (.int ((low : Nat) : Int)), some (.tup (Sp31 (xs.map .leaf) js)), some (.ref r5), some (.tup (St31 ((xs.take (low + i)).map .leaf) nb)), some (.int ((low + i + 1 : Nat) : Int)), v8, v9, v10, none, none], by rw [show ((low : Nat) : Int) + 1 + ((i : Nat) : Int) = ((low + i + 1 : Nat) : Int) by omega]; rfl, ?_⟩
      generalize hF2 : @mFor = F2
      have hil : low + i < xs.length := by omega
      have gro := grow_one (xs := xs) (n := low + i) hil
      refine seq_cut (fun ρ st => ∃ n, stL st r = some xs ∧ stL st r5 = some (dueL xs low i) ∧ (∀ j, j < n → stL' ((xs.take (low + i + 1)).map .leaf) j ≠ []) ∧ stL' ((xs.take (low + i + 1)).map .leaf) n = [] ∧ ρ = [s0, some (.ref 1), some (.ref r), some (.int ((low : Nat) : Int)), some (.tup (Sp31 (xs.map .leaf) js)), some (.ref r5), some (.tup (St31 ((xs.take (low + i)).map .leaf) nb)), some (.int ((low + i + 1 : Nat) : Int)), some (.tup (St31 ((xs.take (low + i + 1)).map .leaf) n)), v9, v10, none, none]) ?_ ?_
      · simp only [sp_set, wp_ca, wp_call, wp_sl, wp_noPart, wp_part, wp_cons, wp_nil, wp_var, List.getElem?_cons_succ, List.getElem?_cons_zero, Option.some.injEq, ex_eq, List.set_cons_zero, List.set_cons_succ, w_getI, w_slL, hr, w_tupL, stL_new, ML.cut_to (Int.natCast_nonneg (low + i + 1)), Int.toNat_natCast]
        exact TW (tkx _) (tkl _) fun n st' ho t1 t0 => ⟨n, ho.stL (Grown.stL (.one _ _) hr), ho.stL (Grown.stL (.one _ _) h5), t1, t0, rfl⟩
      clear hr h5 st
      rintro ρ st ⟨nc, hr, h5, hc1, hc0, rfl⟩
      have hnc := few _ nc hc1
      have hncj := njs (low + i + 1) nc (by omega) hc1
      have hcut := lvsG_cut gro (stL_stop hc0) (by omega)
      have hpre := pre (low + i + 1) (by omega)
      have etl : toldA xs (low + i) = ((List.range (nc - 1)).filter fun l => decide (stL' ((xs.take (low + i + 1)).map .leaf) (l + 1) ≠ stL' ((xs.take (low + i)).map .leaf) (l + 1))).map (telA ((xs.take (low + i)).map .leaf) ((xs.take (low + i + 1)).map .leaf) (low + i + 1)) := by
        unfold toldA
        rw [hcut]
      have hdl : (dueL xs low i).length ≤ 100000 := by
        rw [← told_due]
        have := toldL_len xs (low + i)
        have := List.length_filter_le (aftA low) (toldL xs (low + i))
        omega
      have hO : ∀ j, nb ≤ j → stL' ((xs.take (low + i)).map .leaf) j = [] := fun j hj => by
        have := stL_stop hb0 (j - nb)
        rwa [show nb + (j - nb) = j by omega] at this
      generalize hOd : (xs.take (low + i)).map Nd.leaf = O at *
      generalize hNd : (xs.take (low + i + 1)).map Nd.leaf = N at *
      refine seq_cut (fun ρ st => ∃ v9 v10 : Option A, stL st r = some xs ∧ stL st r5 = some (dueL xs low (i + 1)) ∧ ρ = [s0, some (.ref 1), some (.ref r), some (.int ((low : Nat) : Int)), some (.tup (Sp31 (xs.map .leaf) js)), some (.ref r5), some (.tup (St31 O nb)), some (.int ((low + i + 1 : Nat) : Int)), some (.tup (St31 N nc)), v9, v10, none, none]) ?_ ?_
      · rw [← hF2]
        simp only [sp_for, wp_rng, wp_ca, wp_c, wp_cons, wp_nil, wp_var, List.getElem?_cons_succ, List.getElem?_cons_zero, Option.some.injEq, ex_eq, w_lenT, st31_len, w_rng2]
        refine ⟨⟨by omega, by omega, by omega, by omega⟩, ?_⟩
        rw [show (((nc : Nat) : Int) - 1).toNat = nc - 1 by omega]
        refine for_rng (fun t ρ st => ∃ v9 v10 : Option A, stL st r = some xs ∧ stL st r5 = some (dueL xs low i ++ ((List.range t).filter fun l => decide (stL' N (l + 1) ≠ stL' O (l + 1))).map (telA O N (low + i + 1))) ∧ ρ = [s0, some (.ref 1), some (.ref r), some (.int ((low : Nat) : Int)), some (.tup (Sp31 (xs.map .leaf) js)), some (.ref r5), some (.tup (St31 O nb)), some (.int ((low + i + 1 : Nat) : Int)), some (.tup (St31 N nc)), v9, v10, none, none]) ⟨v9, v10, hr, by rw [h5]; simp, rfl⟩ ?_ (fun ρ st ⟨v9, v10, a, b, e⟩ => ⟨v9, v10, a, by rw [b, dueL_succ, etl], e⟩)
        clear hr h5 st
        rintro t ρ st ht ⟨w9, w10, hr, h5, rfl⟩
        have ez : (1 : Int) + ((t : Nat) : Int) = ((t + 1 : Nat) : Int) := by omega
        refine ⟨[s0, some (.ref 1), some (.ref r), some (.int ((low : Nat) : Int)), some (.tup (Sp31 (xs.map .leaf) js)), some (.ref r5), some (.tup (St31 O nb)), some (.int ((low + i + 1 : Nat) : Int)), some (.tup (St31 N nc)), some (.int ((t + 1 : Nat) : Int)), w10, none, none], by rw [ez]; rfl, ?_⟩
        refine seq_cut (fun ρ st' => st' = st ∧ ρ = [s0, some (.ref 1), some (.ref r), some (.int ((low : Nat) : Int)), some (.tup (Sp31 (xs.map .leaf) js)), some (.ref r5), some (.tup (St31 O nb)), some (.int ((low + i + 1 : Nat) : Int)), some (.tup (St31 N nc)), some (.int ((t + 1 : Nat) : Int)), some (.int 0), none, none]) ?_ ?_
        · simp only [sp_set, wp_c, List.set_cons_zero, List.set_cons_succ]
          exact ⟨by first | exact rfl | exact True.intro, by first | exact rfl | exact True.intro⟩
        rintro ρ st1 ⟨rfl, rfl⟩
        refine seq_cut (fun ρ st' => st' = st1 ∧ ρ = [s0, some (.ref 1), some (.ref r), some (.int ((low : Nat) : Int)), some (.tup (Sp31 (xs.map .leaf) js)), some (.ref r5), some (.tup (St31 O nb)), some (.int ((low + i + 1 : Nat) : Int)), some (.tup (St31 N nc)), some (.int ((t + 1 : Nat) : Int)), some (.int (((stL' O (t + 1)).length : Nat) : Int)), none, none]) ?_ ?_
        · simp only [sp_ifs, wp_gb, wp_bin, wp_ca, wp_cons, wp_nil, wp_var, List.getElem?_cons_succ, List.getElem?_cons_zero, Option.some.injEq, ex_eq, w_lenT, st31_len, w_lt, w_getB]
          by_cases c : t + 1 < nb
          · rw [decide_eq_true (by omega)]
            simp only [if_true, sp_set, wp_bin, wp_var, List.getElem?_cons_succ, List.getElem?_cons_zero, Option.some.injEq, ex_eq, w_ixT, st31_at rfl c, List.set_cons_zero, List.set_cons_succ]
            exact ⟨by first | exact rfl | exact True.intro, by first | exact rfl | exact True.intro⟩
          · rw [decide_eq_false (by omega)]
            simp only [Bool.false_eq_true, if_false, sp_next]
            rw [hO (t + 1) (by omega)]
            exact ⟨by first | exact rfl | exact True.intro, by first | exact rfl | exact True.intro⟩
        rintro ρ st2 ⟨rfl, rfl⟩
        obtain ⟨Q, eQ⟩ := hpre (t + 1) (by omega)
        have hlen : (lv (xs.map .leaf) (t + 1)).length = (stL' N (t + 1)).length + Q.length := by rw [eQ, List.length_append]
        have hg : (stL' N (t + 1)).length = (stL' O (t + 1)).length ∨ (stL' N (t + 1)).length = (stL' O (t + 1)).length + 1 := by
          rcases gro (t + 1) with e | ⟨y, e⟩
          · exact .inl (by rw [e])
          · exact .inr (by rw [e]; simp)
        refine seq_cut (fun ρ st' => st' = st2 ∧ ρ = [s0, some (.ref 1), some (.ref r), some (.int ((low : Nat) : Int)), some (.tup (Sp31 (xs.map .leaf) js)), some (.ref r5), some (.tup (St31 O nb)), some (.int ((low + i + 1 : Nat) : Int)), some (.tup (St31 N nc)), some (.int ((t + 1 : Nat) : Int)), some (.int (((stL' O (t + 1)).length : Nat) : Int)), none, none]) ?_ ?_
        · simp only [sp_ifs, wp_or, wp_gb, wp_bin, wp_ca, wp_c, wp_cons, wp_nil, wp_var, List.getElem?_cons_succ, List.getElem?_cons_zero, Option.some.injEq, ex_eq, w_ixT, st31_at rfl (show t + 1 < nc by omega), sp31_at rfl (show t + 1 < js by omega), w_lenT, spn_len, w_lt, w_gt, w_add, w_getB]
          rw [decide_eq_false (by omega), decide_eq_false (by omega), decide_eq_false (by omega)]
          simp only [Bool.false_eq_true, if_false, sp_next]
          exact ⟨by first | exact rfl | exact True.intro, by first | exact rfl | exact True.intro⟩
        rintro ρ st3 ⟨rfl, rfl⟩
        rcases gro (t + 1) with e | ⟨y, e⟩
        · simp only [sp_ifs, wp_gb, wp_bin, wp_var, List.getElem?_cons_succ, List.getElem?_cons_zero, Option.some.injEq, ex_eq, w_ixT, st31_at rfl (show t + 1 < nc by omega), w_gt, w_getB]
          have hle : (stL' N (t + 1)).length = (stL' O (t + 1)).length := congrArg List.length e
          rw [decide_eq_false (by omega)]
          simp only [Bool.false_eq_true, if_false, sp_next]
          refine ⟨_, _, hr, ?_, rfl⟩
          rw [h5, List.range_succ, List.filter_append, List.filter_cons_of_neg (by rw [decide_eq_false (fun q => q e)]; exact Bool.false_ne_true)]
          simp
        · simp only [sp_ifs, wp_gb, wp_bin, wp_var, List.getElem?_cons_succ, List.getElem?_cons_zero, Option.some.injEq, ex_eq, w_ixT, st31_at rfl (show t + 1 < nc by omega), w_gt, w_getB]
          have hgt : (stL' N (t + 1)).length = (stL' O (t + 1)).length + 1 := by rw [e]; simp
          have hat : atI (spn 0 (lv (xs.map .leaf) (t + 1))) (((stL' O (t + 1)).length : Nat) : Int) = some (A.tup [.int ((szNs (stL' O (t + 1)) : Nat) : Int), .int ((szNs (stL' N (t + 1)) : Nat) : Int)]) := by
            rw [atI_nn (by omega), Int.toNat_natCast]
            exact span_tel eQ e
          have hnn : stL' N (t + 1) ≠ stL' O (t + 1) := fun q => by rw [q] at hgt; omega
          rw [decide_eq_true (by omega)]
          simp only [if_true, sp_expr, wp_bm, wp_bin, wp_tup, wp_cons, wp_nil, wp_var, List.getElem?_cons_succ, List.getElem?_cons_zero, Option.some.injEq, ex_eq, isL_ref, h5, Option.isSome_some, true_and, w_ixT, sp31_at rfl (show t + 1 < js by omega), hat, w_addT]
          refine ⟨by simp [size_eq], by simp [size_eq], ?_⟩
          rw [w_append]
          have hfl := List.length_filter_le (fun l => decide (stL' N (l + 1) ≠ stL' O (l + 1))) (List.range t)
          rw [List.length_range] at hfl
          refine ⟨_, h5, by rw [size_eq, List.length_append, List.length_map]; omega, _, _, by rw [stL_set_ne' (Ne.symm hne)]; exact hr, ?_, rfl⟩
          rw [stL_set_self h5, List.range_succ, List.filter_append, List.filter_cons_of_pos (p := fun l => decide (stL' N (l + 1) ≠ stL' O (l + 1))) (a := t) (l := []) (by exact decide_eq_true hnn), List.map_append, List.append_assoc]
          rfl
      rintro ρ st1 ⟨v9, v10, hr, h5, rfl⟩
      simp only [sp_set, wp_var, List.getElem?_cons_succ, List.getElem?_cons_zero, Option.some.injEq, ex_eq, List.set_cons_zero, List.set_cons_succ]
      exact ⟨nc, _, _, _, _, hr, h5, hc1, hc0, rfl⟩
    clear hr h5 hn1 hn0 st n0
    rintro ρ st ⟨v6, v7, v8, v9, v10, hr, h5, rfl⟩
    refine seq_cut (fun ρ st => stL st r = some xs ∧ stL st r5 = some (dueL xs low (xs.length - low)) ∧ ρ = [s0, some (.ref 1), some (.ref r), some (.int ((low : Nat) : Int)), some (.tup (Sp31 (xs.map .leaf) js)), some (.ref r5), v6, v7, v8, v9, v10, some (.tup (toldL xs xs.length)), none]) ?_ ?_
    · rw [sp_set]
      refine wp_tupY ?_
      simp only [wp_ca, wp_cons, wp_nil, wp_var, List.getElem?_cons_succ, List.getElem?_cons_zero, Option.some.injEq, ex_eq, w_tupL, hr, List.set_cons_zero, List.set_cons_succ]
      exact YW hx (by omega) fun st' ho => ⟨ho.stL hr, ho.stL h5, by first | exact rfl | exact True.intro⟩
    clear hr h5 st
    rintro ρ st ⟨hr, h5, rfl⟩
    have htf := told_few hx (show xs.length ≤ 2000 by omega)
    refine seq_cut (fun ρ st' => st' = st ∧ ρ = [s0, some (.ref 1), some (.ref r), some (.int ((low : Nat) : Int)), some (.tup (Sp31 (xs.map .leaf) js)), some (.ref r5), v6, v7, v8, v9, v10, some (.tup (toldL xs xs.length)), none]) ?_ ?_
    · simp only [sp_ifs, wp_gb, wp_bin, wp_ca, wp_c, wp_cons, wp_nil, wp_var, List.getElem?_cons_succ, List.getElem?_cons_zero, Option.some.injEq, ex_eq, w_lenT, w_lenL, hr, w_max2, w_ge, w_getB]
      rw [decide_eq_false (by split <;> omega)]
      simp only [Bool.false_eq_true, if_false, sp_next]
      exact ⟨by first | exact rfl | exact True.intro, by first | exact rfl | exact True.intro⟩
    rintro ρ st1 ⟨rfl, rfl⟩
    have etd : (toldL xs xs.length).filter (aftA low) = dueL xs low (xs.length - low) := by
      have := told_due (xs := xs) (low := low) (xs.length - low)
      rwa [show low + (xs.length - low) = xs.length by omega] at this
    have htl := toldL_len xs xs.length
    simp only [sp_ret, wp_call, wp_ca, wp_lc, wp_src, wp_cons, wp_nil, wp_var, List.getElem?_cons_succ, List.getElem?_cons_zero, Option.some.injEq, ex_eq, w_srcT, wipeA_cons, wipeA_nil, List.set_cons_zero, List.set_cons_succ]
    refine lc_vals (fun i st acc => st = st1 ∧ acc = ((toldL xs xs.length).take i).filter (aftA low)) ⟨rfl, rfl⟩ ?_ ?_
    · rintro i x st acc hxi ⟨rfl, rfl⟩
      obtain ⟨i', l, rfl⟩ := told_mem (List.mem_of_getElem? hxi)
      have hin := (List.getElem?_eq_some_iff.mp hxi).1
      refine ⟨_, rfl, ?_⟩
      have hfl := List.length_filter_le (aftA low) ((toldL xs xs.length).take i)
      rw [List.length_take] at hfl
      have e0 : atI [A.int ((i' + 1 : Nat) : Int), .int ((l + 1 : Nat) : Int), .int ((szNs (stL' ((xs.take i').map .leaf) (l + 1)) : Nat) : Int), .int ((szNs (stL' ((xs.take (i' + 1)).map .leaf) (l + 1)) : Nat) : Int)] 0 = some (.int ((i' + 1 : Nat) : Int)) := rfl
      have et : (toldL xs xs.length).take (i + 1) = (toldL xs xs.length).take i ++ [telA ((xs.take i').map .leaf) ((xs.take (i' + 1)).map .leaf) (i' + 1) l] := (List.take_add_one (l := toldL xs xs.length) (i := i)).trans (by rw [hxi]; rfl)
      rw [et, List.filter_append]
      clear et
      rw [tel_gt] at hxi ⊢
      simp only [wp_gb, wp_bin, wp_c, wp_var, List.set_cons_zero, List.set_cons_succ, List.getElem?_cons_succ, List.getElem?_cons_zero, Option.some.injEq, ex_eq, w_ixT, e0, w_gt, w_getB]
      by_cases c : ((low : Nat) : Int) < ((i' + 1 : Nat) : Int)
      · rw [if_pos (decide_eq_true c), List.filter_cons_of_pos (show aftA low (.tup (.int ((i' + 1 : Nat) : Int) :: _)) = true from decide_eq_true c)]
        exact ⟨by rw [size_eq]; omega, by first | exact rfl | exact True.intro, rfl⟩
      · rw [if_neg (by rw [decide_eq_false c]; exact Bool.false_ne_true), List.filter_cons_of_neg (show ¬ aftA low (.tup (.int ((i' + 1 : Nat) : Int) :: _)) = true from by rw [show aftA low (.tup (.int ((i' + 1 : Nat) : Int) :: _)) = decide (((low : Nat) : Int) < ((i' + 1 : Nat) : Int)) from rfl, decide_eq_false c]; exact Bool.false_ne_true)]
        exact ⟨by first | exact rfl | exact True.intro, by simp⟩
    · rintro st acc ⟨rfl, rfl⟩
      rw [List.take_length, etd]
      simp only [w_tupL, stL_new, Option.some.injEq, ex_eq, Grown.stL (.one _ _) h5]
      exact alike_cmp ((due_cmp (by omega)).mono (by omega)) rfl
  obtain ⟨a, st, e, h⟩ := R.wp.ex key
  subst h
  exact ⟨st, e⟩
def top (i : Nat) : Stmt := PySem.Challenge.pw_sameshape_k31_settlements_as_they_come.main.body.getD i (.Pass ⟨0, 0, 0, 0⟩)
section
variable {P : Program} {w : World} {K : PySem.W.Frag} {mg : Str → Option Value} {base : Heap}
abbrev s_law_tape : Stmt := top 39
theorem sc_law_tape : FnScope ["_law_script", "_law_total", "_law_cell"] ["_law_script"] (defScope s_law_tape) := ⟨rfl, rfl, rfl, by decide +kernel, rfl, by decide +kernel, by decide +kernel⟩
theorem c_law_tape (G_law_tape : GF K mg "_law_tape" s_law_tape ["_law_script"]) (n_int : mg "int" = none) (n_abs : mg "abs" = none) (n_list : mg "list" = none) : Cal P w K mg base "_law_tape" 1 m_law_tape := cal_of G_law_tape sc_law_tape fun f cdv A outer s H E hr => (
    (mss_cons (ms_set sc_law_tape.nd me_int)
    (mss_cons (ms_for passesE (mi_it (me_var 0)) (mg_one sc_law_tape.nd) (mss_one (ms_set sc_law_tape.nd (me_bin op_modP os_mod (me_callTy call_int1 cs_int (by decide +kernel) n_int (ma_cons (me_bin op_addU os_add (me_bin op_mulU os_mul (me_var 1) me_int) (me_callB call_abs cs_abs PyProof.Rows.boot_abs n_abs (ma_cons (me_callTy call_int1 cs_int (by decide +kernel) n_int (ma_cons (me_var 2) ma_nil)) ma_nil))) ma_nil)) me_int))))
    (mss_one (ms_ret (me_lst (ma_cons (me_callTy call_list_of cs_list (by decide +kernel) n_list (ma_cons (me_var 0) ma_nil)) (ma_cons me_int (ma_cons me_int (ma_cons (me_var 1) ma_nil))))))))))
abbrev s_law_draw : Stmt := top 40
theorem sc_law_draw : FnScope ["_law_tape_here", "_law_many", "_law_place", "_law_number"] ["_law_tape_here", "_law_many"] (defScope s_law_draw) := ⟨rfl, rfl, rfl, by decide +kernel, rfl, by decide +kernel, by decide +kernel⟩
theorem c_law_draw (G_law_draw : GF K mg "_law_draw" s_law_draw ["_law_tape_here", "_law_many"]) (n_len : mg "len" = none) (n_int : mg "int" = none) (n_abs : mg "abs" = none) (n_max : mg "max" = none) : Cal P w K mg base "_law_draw" 1 m_law_draw := cal_of G_law_draw sc_law_draw fun f cdv A outer s H E hr => (
    (mss_cons (ms_if (mt_cmp (op_eqU (units_ok hr)) os_eq (me_ix (me_var 0) me_int) me_int) (mss_cons (ms_set sc_law_draw.nd (me_ix (me_var 0) me_int))
    (mss_cons (ms_set sc_law_draw.nd me_int)
    (mss_cons (ms_if (mt_cmp op_ltU os_lt (me_var 2) (me_callB call_len cs_len PySem.boot_len n_len (ma_cons (me_ix (me_var 0) me_int) ma_nil))) (mss_one (ms_set sc_law_draw.nd (me_callB call_abs cs_abs PyProof.Rows.boot_abs n_abs (ma_cons (me_callTy call_int1 cs_int (by decide +kernel) n_int (ma_cons (me_ix (me_ix (me_var 0) me_int) (me_var 2)) ma_nil)) ma_nil)))) (mss_cons (ms_put (me_var 0) me_int (me_bin op_modP os_mod (me_callTy call_int1 cs_int (by decide +kernel) n_int (ma_cons (me_bin op_addU os_add (me_bin op_addU os_add (me_bin op_mulU os_mul (me_ix (me_var 0) me_int) me_int) (me_var 2)) me_int) ma_nil)) me_int))
    (mss_one (ms_set sc_law_draw.nd (me_ix (me_var 0) me_int)))))
    (mss_cons (ms_put (me_var 0) me_int (me_bin op_addU os_add (me_var 2) me_int))
    (mss_cons (ms_if (mt_cmp op_ltU os_lt (me_var 3) (me_bin op_pow os_pow me_int me_int)) (mss_cons (ms_set sc_law_draw.nd (me_bin op_modP os_mod (me_callTy call_int1 cs_int (by decide +kernel) n_int (ma_cons (me_bin op_addU os_add (me_bin op_addU os_add (me_bin op_mulU os_mul (me_var 3) me_int) (me_bin op_mulU os_mul (me_var 2) me_int)) me_int) ma_nil)) me_int))
    (mss_cons (ms_set sc_law_draw.nd (me_bin op_modP os_mod (me_callTy call_int1 cs_int (by decide +kernel) n_int (ma_cons (me_bin op_mulU os_mul (me_var 3) me_int) ma_nil)) me_int))
    (mss_one (ms_ret (me_bin op_modP os_mod (me_callTy call_int1 cs_int (by decide +kernel) n_int (ma_cons (me_var 3) ma_nil)) (me_callB (call_maxU rfl) cs_max PyProof.Rows.boot_max n_max (ma_cons (me_var 1) (ma_cons me_int ma_nil)))))))) mss_nil)
    (mss_one (ms_put (me_var 0) me_int (me_var 3)))))))) mss_nil)
    (mss_cons (ms_set sc_law_draw.nd (me_ix (me_var 0) me_int))
    (mss_cons (ms_put (me_var 0) me_int (me_bin op_fdivW os_fdiv (me_var 3) (me_callB (call_maxU rfl) cs_max PyProof.Rows.boot_max n_max (ma_cons (me_var 1) (ma_cons me_int ma_nil)))))
    (mss_one (ms_ret (me_bin op_modP os_mod (me_callTy call_int1 cs_int (by decide +kernel) n_int (ma_cons (me_var 3) ma_nil)) (me_callB (call_maxU rfl) cs_max PyProof.Rows.boot_max n_max (ma_cons (me_var 1) (ma_cons me_int ma_nil))))))))))
abbrev s_law_sign : Stmt := top 42
theorem sc_law_sign : FnScope ["_law_tape_here", "_law_signs"] ["_law_tape_here"] (defScope s_law_sign) := ⟨rfl, rfl, rfl, by decide +kernel, rfl, by decide +kernel, by decide +kernel⟩
theorem c_law_sign (G_law_sign : GF K mg "_law_sign" s_law_sign ["_law_tape_here"]) (C_law_draw : Cal P w K mg base "_law_draw" 1 m_law_draw) : Cal P w K mg base "_law_sign" 2 m_law_sign := cal_of G_law_sign sc_law_sign fun f cdv A outer s H E hr => (
    (mss_cons (ms_set sc_law_sign.nd me_str)
    (mss_cons (ms_set sc_law_sign.nd (me_bin op_addU os_add (me_var 1) me_str))
    (mss_one (ms_ret (me_ix (me_var 1) (me_call C_law_draw (hr.mono (by decide)) takesE (ma_cons (me_var 0) (ma_cons me_int ma_nil)))))))))
abbrev s_law_word : Stmt := top 43
theorem sc_law_word : FnScope ["_law_tape_here", "_law_word_here", "_law_k"] ["_law_tape_here"] (defScope s_law_word) := ⟨rfl, rfl, rfl, by decide +kernel, rfl, by decide +kernel, by decide +kernel⟩
theorem c_law_word (G_law_word : GF K mg "_law_word" s_law_word ["_law_tape_here"]) (C_law_draw : Cal P w K mg base "_law_draw" 1 m_law_draw) (C_law_sign : Cal P w K mg base "_law_sign" 2 m_law_sign) (n_range : mg "range" = none) : Cal P w K mg base "_law_word" 3 m_law_word := cal_of G_law_word sc_law_word fun f cdv A outer s H E hr => (
    (mss_cons (ms_set sc_law_word.nd (me_ix (me_lst (ma_cons me_str (ma_cons me_str (ma_cons me_str (ma_cons me_str ma_nil))))) (me_call C_law_draw (hr.mono (by decide)) takesE (ma_cons (me_var 0) (ma_cons me_int ma_nil)))))
    (mss_cons (ms_for passesE (mi_range1 (x := "range") n_range (ma_cons (me_call C_law_draw (hr.mono (by decide)) takesE (ma_cons (me_var 0) (ma_cons me_int ma_nil))) ma_nil) (hn := cons1)) (mg_one sc_law_word.nd) (mss_one (ms_set sc_law_word.nd (me_bin op_addU os_add (me_var 1) (me_call C_law_sign (hr.mono (by decide)) takesE (ma_cons (me_var 0) ma_nil))))))
    (mss_one (ms_ret (me_var 1))))))
abbrev s_law_scalar : Stmt := top 44
theorem sc_law_scalar : FnScope ["_law_tape_here", "_law_choice", "_law_edges"] ["_law_tape_here"] (defScope s_law_scalar) := ⟨rfl, rfl, rfl, by decide +kernel, rfl, by decide +kernel, by decide +kernel⟩
theorem c_law_scalar (G_law_scalar : GF K mg "_law_scalar" s_law_scalar ["_law_tape_here"]) (C_law_draw : Cal P w K mg base "_law_draw" 1 m_law_draw) (C_law_word : Cal P w K mg base "_law_word" 3 m_law_word) : Cal P w K mg base "_law_scalar" 4 m_law_scalar := cal_of G_law_scalar sc_law_scalar fun f cdv A outer s H E hr => (
    (mss_cons (ms_set sc_law_scalar.nd (me_call C_law_draw (hr.mono (by decide)) takesE (ma_cons (me_var 0) (ma_cons me_int ma_nil))))
    (mss_cons (ms_if (mt_cmp (op_eqU (units_ok hr)) os_eq (me_var 1) me_int) (mss_one (ms_ret (me_call C_law_word (hr.mono (by decide)) takesE (ma_cons (me_var 0) ma_nil)))) mss_nil)
    (mss_cons (ms_if (mt_cmp (op_eqU (units_ok hr)) os_eq (me_var 1) me_int) (mss_cons (ms_set sc_law_scalar.nd (me_lst (ma_cons me_int (ma_cons me_int (ma_cons me_int (ma_cons me_int (ma_cons me_int (ma_cons me_int (ma_cons me_int (ma_cons me_int (ma_cons (me_bin op_sub os_sub (me_bin op_pow os_pow me_int me_int) me_int) (ma_cons (me_bin op_pow os_pow me_int me_int) ma_nil))))))))))))
    (mss_one (ms_ret (me_bin op_mulU os_mul (me_ix (me_var 2) (me_call C_law_draw (hr.mono (by decide)) takesE (ma_cons (me_var 0) (ma_cons me_int ma_nil)))) (me_bin op_sub os_sub me_int (me_bin op_mulU os_mul me_int (me_call C_law_draw (hr.mono (by decide)) takesE (ma_cons (me_var 0) (ma_cons me_int ma_nil))))))))) mss_nil)
    (mss_cons (ms_if (mt_cmp (op_eqU (units_ok hr)) os_eq (me_var 1) me_int) (mss_one (ms_ret (me_bin op_mulU os_mul (me_bin op_sub os_sub (me_call C_law_draw (hr.mono (by decide)) takesE (ma_cons (me_var 0) (ma_cons me_int ma_nil))) me_int) (me_ix (me_lst (ma_cons me_int (ma_cons me_int (ma_cons me_int ma_nil)))) (me_call C_law_draw (hr.mono (by decide)) takesE (ma_cons (me_var 0) (ma_cons me_int ma_nil))))))) mss_nil)
    (mss_cons (ms_if (mt_cmp (op_eqU (units_ok hr)) os_eq (me_var 1) me_int) (mss_one (ms_ret (me_bin op_sub os_sub (me_call C_law_draw (hr.mono (by decide)) takesE (ma_cons (me_var 0) (ma_cons (me_bin op_addU os_add (me_bin op_mulU os_mul me_int (me_bin op_pow os_pow me_int me_int)) me_int) ma_nil))) (me_bin op_pow os_pow me_int me_int)))) mss_nil)
    (mss_one (ms_ret (me_call C_law_draw (hr.mono (by decide)) takesE (ma_cons (me_var 0) (ma_cons me_int ma_nil)))))))))))
abbrev s_law_element : Stmt := top 45
theorem sc_law_element : FnScope ["_law_tape_here", "_law_first"] ["_law_tape_here"] (defScope s_law_element) := ⟨rfl, rfl, rfl, by decide +kernel, rfl, by decide +kernel, by decide +kernel⟩
theorem c_law_element (G_law_element : GF K mg "_law_element" s_law_element ["_law_tape_here"]) (C_law_scalar : Cal P w K mg base "_law_scalar" 4 m_law_scalar) (C_law_draw : Cal P w K mg base "_law_draw" 1 m_law_draw) : Cal P w K mg base "_law_element" 5 m_law_element := cal_of G_law_element sc_law_element fun f cdv A outer s H E hr => (
    (mss_cons (ms_set sc_law_element.nd (me_call C_law_scalar (hr.mono (by decide)) takesE (ma_cons (me_var 0) ma_nil)))
    (mss_cons (ms_if (mt_cmp (op_eqU (units_ok hr)) os_eq (me_call C_law_draw (hr.mono (by decide)) takesE (ma_cons (me_var 0) (ma_cons me_int ma_nil))) me_int) (mss_one (ms_ret (me_tup (ma_cons (me_var 1) (ma_cons (me_call C_law_scalar (hr.mono (by decide)) takesE (ma_cons (me_var 0) ma_nil)) ma_nil))))) mss_nil)
    (mss_one (ms_ret (me_var 1))))))
abbrev s_law_contents : Stmt := top 46
theorem sc_law_contents : FnScope ["_law_tape_here", "_law_most", "_law_pool", "_law_row", "_law_k", "_law_choice", "_law_start", "_law_at", "_law_j"] ["_law_tape_here", "_law_most"] (defScope s_law_contents) := ⟨rfl, rfl, rfl, by decide +kernel, rfl, by decide +kernel, by decide +kernel⟩
theorem c_law_contents (G_law_contents : GF K mg "_law_contents" s_law_contents ["_law_tape_here", "_law_most"]) (C_law_draw : Cal P w K mg base "_law_draw" 1 m_law_draw) (C_law_element : Cal P w K mg base "_law_element" 5 m_law_element) (n_range : mg "range" = none) (n_len : mg "len" = none) : Cal P w K mg base "_law_contents" 6 m_law_contents := cal_of G_law_contents sc_law_contents fun f cdv A outer s H E hr => (
    (mss_cons (ms_set sc_law_contents.nd (me_lc [("_law_k", 4)] sc_law_contents.nd (mi_range1 (x := "range") n_range (ma_cons (me_bin op_addU os_add me_int (me_call C_law_draw (hr.mono (by decide)) takesE (ma_cons (me_var 0) (ma_cons me_int ma_nil)))) ma_nil) (hn := cons1)) (blkOk_by (N := ["_law_tape_here", "_law_most", "_law_pool", "_law_row", "_law_k", "_law_choice", "_law_start", "_law_at", "_law_j"]) (sc := defScope s_law_contents) (own := [("_law_k", 4)]) (by decide +kernel)) (fun _ _ _ _ _ => (mg_one sc_law_contents.nd)) (fun _ _ _ _ _ => mts_nil) (fun _ _ _ _ _ => (me_call C_law_element (hr.mono (by decide)) takes0 (ma_cons (me_var 0) ma_nil)))))
    (mss_cons (ms_set sc_law_contents.nd (me_lst ma_nil))
    (mss_cons (ms_for passesE (mi_range1 (x := "range") n_range (ma_cons (me_call C_law_draw (hr.mono (by decide)) takesE (ma_cons (me_var 0) (ma_cons me_int ma_nil))) ma_nil) (hn := cons1)) (mg_one sc_law_contents.nd) (mss_cons (ms_set sc_law_contents.nd (me_call C_law_draw (hr.mono (by decide)) takesE (ma_cons (me_var 0) (ma_cons me_int ma_nil))))
    (mss_one (ms_if (mt_cmp (op_eqU (units_ok hr)) os_eq (me_var 5) me_int) (mss_one (ms_set sc_law_contents.nd (me_bin op_addU os_add (me_var 3) (me_bin op_mulU os_mul (me_lst (ma_cons (me_ix (me_var 2) (me_call C_law_draw (hr.mono (by decide)) takesE (ma_cons (me_var 0) (ma_cons (me_callB call_len cs_len PySem.boot_len n_len (ma_cons (me_var 2) ma_nil)) ma_nil)))) ma_nil)) (me_bin op_addU os_add me_int (me_call C_law_draw (hr.mono (by decide)) takesE (ma_cons (me_var 0) (ma_cons me_int ma_nil)))))))) (mss_one (ms_if (mt_cmp (op_eqU (units_ok hr)) os_eq (me_var 5) me_int) (mss_cons (ms_set sc_law_contents.nd (me_call C_law_draw (hr.mono (by decide)) takesE (ma_cons (me_var 0) (ma_cons me_int ma_nil))))
    (mss_one (ms_set sc_law_contents.nd (me_bin op_addU os_add (me_var 3) (me_lc [("_law_j", 8)] sc_law_contents.nd (mi_range1 (x := "range") n_range (ma_cons (me_bin op_addU os_add me_int (me_call C_law_draw (hr.mono (by decide)) takesE (ma_cons (me_var 0) (ma_cons me_int ma_nil)))) ma_nil) (hn := cons1)) (blkOk_by (N := ["_law_tape_here", "_law_most", "_law_pool", "_law_row", "_law_k", "_law_choice", "_law_start", "_law_at", "_law_j"]) (sc := defScope s_law_contents) (own := [("_law_j", 8)]) (by decide +kernel)) (fun _ _ _ _ _ => (mg_one sc_law_contents.nd)) (fun _ _ _ _ _ => mts_nil) (fun _ _ _ _ _ => (me_bin op_addU os_add (me_var 6) (me_var 8)))))))) (mss_one (ms_if (mt_cmp (op_eqU (units_ok hr)) os_eq (me_var 5) me_int) (mss_cons (ms_set sc_law_contents.nd (me_call C_law_draw (hr.mono (by decide)) takesE (ma_cons (me_var 0) (ma_cons (me_bin op_addU os_add (me_callB call_len cs_len PySem.boot_len n_len (ma_cons (me_var 3) ma_nil)) me_int) ma_nil))))
    (mss_one (ms_set sc_law_contents.nd (me_bin op_addU os_add (me_var 3) (me_slice (me_var 3) (mo_some (me_var 7)) (mo_some (me_bin op_addU os_add (me_bin op_addU os_add (me_var 7) me_int) (me_call C_law_draw (hr.mono (by decide)) takesE (ma_cons (me_var 0) (ma_cons me_int ma_nil)))))))))) (mss_one (ms_if (mt_cmp (op_eqU (units_ok hr)) os_eq (me_var 5) me_int) (mss_one (ms_set sc_law_contents.nd (me_bin op_addU os_add (me_var 3) (me_bin op_mulU os_mul (me_bin op_addU os_add (me_slice (me_var 3) (mo_some (me_neg me_int)) mo_none) (me_lst (ma_cons (me_ix (me_var 2) (me_call C_law_draw (hr.mono (by decide)) takesE (ma_cons (me_var 0) (ma_cons (me_callB call_len cs_len PySem.boot_len n_len (ma_cons (me_var 2) ma_nil)) ma_nil)))) ma_nil))) (me_bin op_addU os_add me_int (me_call C_law_draw (hr.mono (by decide)) takesE (ma_cons (me_var 0) (ma_cons me_int ma_nil)))))))) (mss_one (ms_set sc_law_contents.nd (me_bin op_addU os_add (me_var 3) (me_lc [("_law_j", 8)] sc_law_contents.nd (mi_range1 (x := "range") n_range (ma_cons (me_bin op_addU os_add me_int (me_call C_law_draw (hr.mono (by decide)) takesE (ma_cons (me_var 0) (ma_cons me_int ma_nil)))) ma_nil) (hn := cons1)) (blkOk_by (N := ["_law_tape_here", "_law_most", "_law_pool", "_law_row", "_law_k", "_law_choice", "_law_start", "_law_at", "_law_j"]) (sc := defScope s_law_contents) (own := [("_law_j", 8)]) (by decide +kernel)) (fun _ _ _ _ _ => (mg_one sc_law_contents.nd)) (fun _ _ _ _ _ => mts_nil) (fun _ _ _ _ _ => (me_ix (me_var 2) (me_call C_law_draw (hr.mono (by decide)) takes0 (ma_cons (me_var 0) (ma_cons (me_callB call_len cs_len PySem.boot_len n_len (ma_cons (me_var 2) ma_nil)) ma_nil)))))))))))))))))))
    (mss_one (ms_ret (me_slice (me_var 3) mo_none (mo_some (me_var 1)))))))))
abbrev s_NodeTable___init__ : Stmt := clsAt (top 23) 0
theorem sc_NodeTable___init__ : FnScope ["self"] ["self"] (defScope s_NodeTable___init__) := ⟨rfl, rfl, rfl, by decide +kernel, rfl, by decide +kernel, by decide +kernel⟩
theorem c_NodeTable___init__ (G_NodeTable___init__ : GI K mg "NodeTable" "NodeTable.__init__" s_NodeTable___init__ ["self"]) (F_NodeTable_numbers : FldF K mg "NodeTable" "numbers") (F_NodeTable_entries : FldF K mg "NodeTable" "entries") (F_NodeTable_codes : FldF K mg "NodeTable" "codes") (F_NodeTable_sizes : FldF K mg "NodeTable" "sizes") : CalI P w K mg base "NodeTable" 1 m_NodeTable___init__ := cali_of G_NodeTable___init__ sc_NodeTable___init__ fun f cdv A outer s H E hr => (
    (mss_cons (ms_putf F_NodeTable_numbers (me_var 0) me_dnew)
    (mss_cons (ms_putf F_NodeTable_entries (me_var 0) (me_lst ma_nil))
    (mss_cons (ms_putf F_NodeTable_codes (me_var 0) (me_lst ma_nil))
    (mss_one (ms_putf F_NodeTable_sizes (me_var 0) (me_lst ma_nil)))))))
abbrev s_row_spans : Stmt := top 30
theorem sc_row_spans : FnScope ["table", "row", "start", "spans", "number", "end"] ["table", "row", "start"] (defScope s_row_spans) := ⟨rfl, rfl, rfl, by decide +kernel, rfl, by decide +kernel, by decide +kernel⟩
theorem c_row_spans (G_row_spans : GF K mg "row_spans" s_row_spans ["table", "row", "start"]) (F_NodeTable_sizes : FldF K mg "NodeTable" "sizes") (n_tuple : mg "tuple" = none) : Cal P w K mg base "row_spans" 1 m_row_spans := cal_of G_row_spans sc_row_spans fun f cdv A outer s H E hr => (
    (mss_cons (ms_set sc_row_spans.nd (me_lst ma_nil))
    (mss_cons (ms_for passesE (mi_it (me_var 1)) (mg_one sc_row_spans.nd) (mss_cons (ms_set sc_row_spans.nd (me_bin op_addU os_add (me_var 2) (me_ix (me_fld F_NodeTable_sizes (me_var 0)) (me_var 4))))
    (mss_cons (ms_expr (me_bm PySem.F.slot_list_append PySem.F.type_list_append mt_append ms_append (me_var 3) (ma_cons (me_tup (ma_cons (me_var 2) (ma_cons (me_var 5) ma_nil))) ma_nil)))
    (mss_one (ms_set sc_row_spans.nd (me_var 5))))))
    (mss_one (ms_ret (me_callTy call_tupleP cs_tuple (by decide +kernel) n_tuple (ma_cons (me_var 3) ma_nil)))))))
abbrev s_digits_of : Stmt := top 3
theorem sc_digits_of : FnScope ["number", "count", "digits", "_"] ["number", "count"] (defScope s_digits_of) := ⟨rfl, rfl, rfl, by decide +kernel, rfl, by decide +kernel, by decide +kernel⟩
theorem c_digits_of (G_digits_of : GF K mg "digits_of" s_digits_of ["number", "count"]) (n_range : mg "range" = none) (g_DIGIT : ∃ u, mg "DIGIT" = some (.int 65536 u)) : Cal P w K mg base "digits_of" 1 m_digits_of := cal_of G_digits_of sc_digits_of fun f cdv A outer s H E hr => (
    (mss_cons (ms_set sc_digits_of.nd (me_tup ma_nil))
    (mss_cons (ms_for passesE (mi_range1 (x := "range") n_range (ma_cons (me_var 1) ma_nil) (hn := cons1)) (mg_one sc_digits_of.nd) (mss_cons (ms_set sc_digits_of.nd (me_bin op_addU os_add (me_tup (ma_cons (me_bin op_modP os_mod (me_var 0) (g_DIGIT.elim fun _ hg => me_glob (v := .int 65536) (d := .int 65536) rfl hg ⟨_, rfl⟩ (fun _ _ => RV.int _))) ma_nil)) (me_var 2)))
    (mss_one (ms_set sc_digits_of.nd (me_bin op_fdivW os_fdiv (me_var 0) (g_DIGIT.elim fun _ hg => me_glob (v := .int 65536) (d := .int 65536) rfl hg ⟨_, rfl⟩ (fun _ _ => RV.int _)))))))
    (mss_one (ms_ret (me_var 2))))))
abbrev s_code_of : Stmt := top 4
theorem sc_code_of : FnScope ["element", "character"] ["element"] (defScope s_code_of) := ⟨rfl, rfl, rfl, by decide +kernel, rfl, by decide +kernel, by decide +kernel⟩
theorem c_code_of (G_code_of : GF K mg "code_of" s_code_of ["element"]) (C_digits_of : Cal P w K mg base "digits_of" 1 m_digits_of) (n_isinstance : mg "isinstance" = none) (n_tuple : mg "tuple" = none) (n_str : mg "str" = none) (n_len : mg "len" = none) (n_ord : mg "ord" = none) : ∀ n : Nat, Cal P w K mg base "code_of" (n + 1) (m_code_of n)
  | 0 => cal_bad G_code_of
  | n + 1 => by
    have ih_code_of := c_code_of G_code_of C_digits_of n_isinstance n_tuple n_str n_len n_ord n
    exact Cal.cast (by omega) (cal_of G_code_of sc_code_of fun f cdv A outer s H E hr => (
    (mss_cons (ms_if (mt_tru (me_isi .tup (me_var 0) rfl rfl n_isinstance n_tuple (by decide +kernel))) (mss_one (ms_ret (me_bin op_addU os_add (me_bin op_addU os_add (me_tup (ma_cons me_int ma_nil)) (me_call ih_code_of (hr.mono (Nat.le_refl _)) takesE (ma_cons (me_ix (me_var 0) me_int) ma_nil))) (me_call ih_code_of (hr.mono (Nat.le_refl _)) takesE (ma_cons (me_ix (me_var 0) me_int) ma_nil))))) mss_nil)
    (mss_cons (ms_if (mt_tru (me_isi .str (me_var 0) rfl rfl n_isinstance n_str (by decide +kernel))) (mss_one (ms_ret (me_bin op_addU os_add (me_tup (ma_cons me_int (ma_cons (me_callB call_len cs_len PySem.boot_len n_len (ma_cons (me_var 0) ma_nil)) ma_nil))) (me_callTy call_tupleP cs_tuple (by decide +kernel) n_tuple (ma_cons (me_lc [("character", 1)] sc_code_of.nd (mi_it (me_var 0)) (blkOk_by (N := ["element", "character"]) (sc := defScope s_code_of) (own := [("character", 1)]) (by decide +kernel)) (fun _ _ _ _ _ => (mg_one sc_code_of.nd)) (fun _ _ _ _ _ => mts_nil) (fun _ _ _ _ _ => (me_callB call_ord cs_ord (by decide +kernel) n_ord (ma_cons (me_var 1) ma_nil)))) ma_nil))))) mss_nil)
    (mss_cons (ms_if (mt_cmp op_ltU os_lt (me_var 0) me_int) (mss_one (ms_ret (me_bin op_addU os_add (me_tup (ma_cons me_int ma_nil)) (me_call C_digits_of (hr.mono (by omega)) takesE (ma_cons (me_neg (me_var 0)) (ma_cons me_int ma_nil)))))) mss_nil)
    (mss_one (ms_ret (me_bin op_addU os_add (me_tup (ma_cons me_int ma_nil)) (me_call C_digits_of (hr.mono (by omega)) takesE (ma_cons (me_var 0) (ma_cons me_int ma_nil)))))))))))
abbrev s_run_code : Stmt := top 6
theorem sc_run_code : FnScope ["times", "child_code"] ["times", "child_code"] (defScope s_run_code) := ⟨rfl, rfl, rfl, by decide +kernel, rfl, by decide +kernel, by decide +kernel⟩
theorem c_run_code (G_run_code : GF K mg "run_code" s_run_code ["times", "child_code"]) (C_digits_of : Cal P w K mg base "digits_of" 1 m_digits_of) : Cal P w K mg base "run_code" 2 m_run_code := cal_of G_run_code sc_run_code fun f cdv A outer s H E hr => (
    (mss_one (ms_ret (me_bin op_addU os_add (me_bin op_addU os_add (me_tup (ma_cons me_int ma_nil)) (me_call C_digits_of (hr.mono (by decide)) takesE (ma_cons (me_var 0) (ma_cons me_int ma_nil)))) (me_var 1)))))
abbrev s_block_code : Stmt := top 7
theorem sc_block_code : FnScope ["child_codes", "code", "child_code"] ["child_codes"] (defScope s_block_code) := ⟨rfl, rfl, rfl, by decide +kernel, rfl, by decide +kernel, by decide +kernel⟩
theorem c_block_code (G_block_code : GF K mg "block_code" s_block_code ["child_codes"]) (n_len : mg "len" = none) (n_tuple : mg "tuple" = none) : Cal P w K mg base "block_code" 1 m_block_code := cal_of G_block_code sc_block_code fun f cdv A outer s H E hr => (
    (mss_cons (ms_set sc_block_code.nd (me_lst (ma_cons me_int (ma_cons (me_callB call_len cs_len PySem.boot_len n_len (ma_cons (me_var 0) ma_nil)) ma_nil))))
    (mss_cons (ms_for passesE (mi_it (me_var 0)) (mg_one sc_block_code.nd) (mss_one (ms_expr (me_bm PySem.F.slot_list_extend PySem.F.type_list_extend mt_extendU ms_extend (me_var 1) (ma_cons (me_var 2) ma_nil)))))
    (mss_one (ms_ret (me_callTy call_tupleP cs_tuple (by decide +kernel) n_tuple (ma_cons (me_var 1) ma_nil)))))))
abbrev s_NodeTable_measure : Stmt := clsAt (top 23) 2
theorem sc_NodeTable_measure : FnScope ["self", "entry", "child"] ["self", "entry"] (defScope s_NodeTable_measure) := ⟨rfl, rfl, rfl, by decide +kernel, rfl, by decide +kernel, by decide +kernel⟩
theorem c_NodeTable_measure (G_NodeTable_measure : GM K mg "NodeTable" "measure" "NodeTable.measure" s_NodeTable_measure ["self", "entry"]) (C_code_of : Cal P w K mg base "code_of" 41 (m_code_of 40)) (C_run_code : Cal P w K mg base "run_code" 2 m_run_code) (C_block_code : Cal P w K mg base "block_code" 1 m_block_code) (F_NodeTable_codes : FldF K mg "NodeTable" "codes") (F_NodeTable_sizes : FldF K mg "NodeTable" "sizes") (n_sum : mg "sum" = none) : CalM P w K mg base "NodeTable" "measure" 42 m_NodeTable_measure := calm_of G_NodeTable_measure sc_NodeTable_measure fun f cdv A outer s H E hr => (
    (mss_one (ms_if (mt_cmp (op_eqU (units_ok hr)) os_eq (me_ix (me_var 1) me_int) me_str) (mss_cons (ms_expr (me_bm PySem.F.slot_list_append PySem.F.type_list_append mt_append ms_append (me_fld F_NodeTable_codes (me_var 0)) (ma_cons (me_call C_code_of (hr.mono (by decide)) takesE (ma_cons (me_ix (me_var 1) me_int) ma_nil)) ma_nil)))
    (mss_one (ms_expr (me_bm PySem.F.slot_list_append PySem.F.type_list_append mt_append ms_append (me_fld F_NodeTable_sizes (me_var 0)) (ma_cons me_int ma_nil))))) (mss_one (ms_if (mt_cmp (op_eqU (units_ok hr)) os_eq (me_ix (me_var 1) me_int) me_str) (mss_cons (ms_expr (me_bm PySem.F.slot_list_append PySem.F.type_list_append mt_append ms_append (me_fld F_NodeTable_codes (me_var 0)) (ma_cons (me_call C_run_code (hr.mono (by decide)) takesE (ma_cons (me_ix (me_var 1) me_int) (ma_cons (me_ix (me_fld F_NodeTable_codes (me_var 0)) (me_ix (me_var 1) me_int)) ma_nil))) ma_nil)))
    (mss_one (ms_expr (me_bm PySem.F.slot_list_append PySem.F.type_list_append mt_append ms_append (me_fld F_NodeTable_sizes (me_var 0)) (ma_cons (me_bin op_mulU os_mul (me_ix (me_fld F_NodeTable_sizes (me_var 0)) (me_ix (me_var 1) me_int)) (me_ix (me_var 1) me_int)) ma_nil))))) (mss_cons (ms_expr (me_bm PySem.F.slot_list_append PySem.F.type_list_append mt_append ms_append (me_fld F_NodeTable_codes (me_var 0)) (ma_cons (me_call C_block_code (hr.mono (by decide)) takesE (ma_cons (me_lc [("child", 2)] sc_NodeTable_measure.nd (mi_it (me_ix (me_var 1) me_int)) (blkOk_by (N := ["self", "entry", "child"]) (sc := defScope s_NodeTable_measure) (own := [("child", 2)]) (by decide +kernel)) (fun _ _ _ _ _ => (mg_one sc_NodeTable_measure.nd)) (fun _ _ _ _ _ => mts_nil) (fun _ _ _ _ _ => (me_ix (me_fld F_NodeTable_codes (me_var 0)) (me_var 2)))) ma_nil)) ma_nil)))
    (mss_one (ms_expr (me_bm PySem.F.slot_list_append PySem.F.type_list_append mt_append ms_append (me_fld F_NodeTable_sizes (me_var 0)) (ma_cons (me_callB (cr_sum rfl) cs_sum (by decide +kernel) n_sum (ma_cons (me_lc [("child", 2)] sc_NodeTable_measure.nd (mi_it (me_ix (me_var 1) me_int)) (blkOk_by (N := ["self", "entry", "child"]) (sc := defScope s_NodeTable_measure) (own := [("child", 2)]) (by decide +kernel)) (fun _ _ _ _ _ => (mg_one sc_NodeTable_measure.nd)) (fun _ _ _ _ _ => mts_nil) (fun _ _ _ _ _ => (me_ix (me_fld F_NodeTable_sizes (me_var 0)) (me_var 2)))) ma_nil)) ma_nil))))))))))
abbrev s_NodeTable_number_of : Stmt := clsAt (top 23) 1
theorem sc_NodeTable_number_of : FnScope ["self", "entry", "number"] ["self", "entry"] (defScope s_NodeTable_number_of) := ⟨rfl, rfl, rfl, by decide +kernel, rfl, by decide +kernel, by decide +kernel⟩
theorem c_NodeTable_number_of (G_NodeTable_number_of : GM K mg "NodeTable" "number_of" "NodeTable.number_of" s_NodeTable_number_of ["self", "entry"]) (C_NodeTable_measure : CalM P w K mg base "NodeTable" "measure" 42 m_NodeTable_measure) (F_NodeTable_numbers : FldF K mg "NodeTable" "numbers") (F_NodeTable_entries : FldF K mg "NodeTable" "entries") (n_len : mg "len" = none) : CalM P w K mg base "NodeTable" "number_of" 43 m_NodeTable_number_of := calm_of G_NodeTable_number_of sc_NodeTable_number_of fun f cdv A outer s H E hr => (
    (mss_cons (ms_set sc_NodeTable_number_of.nd (me_dget1 (units_ok hr) (me_fld F_NodeTable_numbers (me_var 0)) (me_var 1) ⟨rfl, rfl, rfl, rfl⟩))
    (mss_cons (ms_if (mt_cmp op_isN os_isN (me_var 2) me_non) (mss_cons (ms_set sc_NodeTable_number_of.nd (me_callB call_len cs_len PySem.boot_len n_len (ma_cons (me_fld F_NodeTable_entries (me_var 0)) ma_nil)))
    (mss_cons (me_dput (units_ok hr) (me_fld F_NodeTable_numbers (me_var 0)) (me_var 1) (me_var 2))
    (mss_cons (ms_expr (me_bm PySem.F.slot_list_append PySem.F.type_list_append mt_append ms_append (me_fld F_NodeTable_entries (me_var 0)) (ma_cons (me_var 1) ma_nil)))
    (mss_one (ms_expr (me_meth C_NodeTable_measure (hr.mono (by decide)) takesE (me_var 0) (ma_cons (me_var 1) ma_nil))))))) mss_nil)
    (mss_one (ms_ret (me_var 2))))))
abbrev s_leaf_row : Stmt := top 25
theorem sc_leaf_row : FnScope ["table", "contents", "element"] ["table", "contents"] (defScope s_leaf_row) := ⟨rfl, rfl, rfl, by decide +kernel, rfl, by decide +kernel, by decide +kernel⟩
theorem c_leaf_row (G_leaf_row : GF K mg "leaf_row" s_leaf_row ["table", "contents"]) (C_NodeTable_number_of : CalM P w K mg base "NodeTable" "number_of" 43 m_NodeTable_number_of) : Cal P w K mg base "leaf_row" 44 m_leaf_row := cal_of G_leaf_row sc_leaf_row fun f cdv A outer s H E hr => (
    (mss_one (ms_ret (me_lc [("element", 2)] sc_leaf_row.nd (mi_it (me_var 1)) (blkOk_by (N := ["table", "contents", "element"]) (sc := defScope s_leaf_row) (own := [("element", 2)]) (by decide +kernel)) (fun _ _ _ _ _ => (mg_one sc_leaf_row.nd)) (fun _ _ _ _ _ => mts_nil) (fun _ _ _ _ _ => (me_meth C_NodeTable_number_of (hr.mono (by decide)) takes0 (me_var 0) (ma_cons (me_tup (ma_cons me_str (ma_cons (me_var 2) ma_nil))) ma_nil)))))))
abbrev s_NodeTable_item_number : Stmt := clsAt (top 23) 3
theorem sc_NodeTable_item_number : FnScope ["self", "number", "times"] ["self", "number", "times"] (defScope s_NodeTable_item_number) := ⟨rfl, rfl, rfl, by decide +kernel, rfl, by decide +kernel, by decide +kernel⟩
theorem c_NodeTable_item_number (G_NodeTable_item_number : GM K mg "NodeTable" "item_number" "NodeTable.item_number" s_NodeTable_item_number ["self", "number", "times"]) (C_NodeTable_number_of : CalM P w K mg base "NodeTable" "number_of" 43 m_NodeTable_number_of) : CalM P w K mg base "NodeTable" "item_number" 44 m_NodeTable_item_number := calm_of G_NodeTable_item_number sc_NodeTable_item_number fun f cdv A outer s H E hr => (
    (mss_cons (ms_if (mt_cmp (op_eqU (units_ok hr)) os_eq (me_var 2) me_int) (mss_one (ms_ret (me_var 1))) mss_nil)
    (mss_one (ms_ret (me_meth C_NodeTable_number_of (hr.mono (by decide)) takesE (me_var 0) (ma_cons (me_tup (ma_cons me_str (ma_cons (me_var 1) (ma_cons (me_var 2) ma_nil)))) ma_nil))))))
abbrev s_groups_of : Stmt := top 8
theorem sc_groups_of : FnScope ["row", "groups", "start", "end"] ["row"] (defScope s_groups_of) := ⟨rfl, rfl, rfl, by decide +kernel, rfl, by decide +kernel, by decide +kernel⟩
theorem c_groups_of (G_groups_of : GF K mg "groups_of" s_groups_of ["row"]) (n_len : mg "len" = none) : Cal P w K mg base "groups_of" 1 m_groups_of := cal_of G_groups_of sc_groups_of fun f cdv A outer s H E hr => (
    (mss_cons (ms_set sc_groups_of.nd (me_lst ma_nil))
    (mss_cons (ms_set sc_groups_of.nd me_int)
    (mss_cons (ms_while passesE (mt_cmp op_ltU os_lt (me_var 2) (me_callB call_len cs_len PySem.boot_len n_len (ma_cons (me_var 0) ma_nil))) (mss_cons (ms_set sc_groups_of.nd (me_bin op_addU os_add (me_var 2) me_int))
    (mss_cons (ms_while passesE (L2.PW.pt (mw_and (mt_cmp op_ltU os_lt (me_var 3) (me_callB call_len cs_len PySem.boot_len n_len (ma_cons (me_var 0) ma_nil))) (mw_and1 (mt_cmp (op_eqU (units_ok hr)) os_eq (me_ix (me_var 0) (me_var 3)) (me_ix (me_var 0) (me_var 2)))))) (mss_one (ms_aug sc_groups_of.nd ip_add os_iadd me_int)))
    (mss_cons (ms_expr (me_bm PySem.F.slot_list_append PySem.F.type_list_append mt_append ms_append (me_var 1) (ma_cons (me_tup (ma_cons (me_ix (me_var 0) (me_var 2)) (ma_cons (me_bin op_sub os_sub (me_var 3) (me_var 2)) ma_nil))) ma_nil)))
    (mss_one (ms_set sc_groups_of.nd (me_var 3)))))))
    (mss_one (ms_ret (me_var 1)))))))
abbrev s_item_row : Stmt := top 26
theorem sc_item_row : FnScope ["table", "row", "number", "times"] ["table", "row"] (defScope s_item_row) := ⟨rfl, rfl, rfl, by decide +kernel, rfl, by decide +kernel, by decide +kernel⟩
theorem c_item_row (G_item_row : GF K mg "item_row" s_item_row ["table", "row"]) (C_groups_of : Cal P w K mg base "groups_of" 1 m_groups_of) (C_NodeTable_item_number : CalM P w K mg base "NodeTable" "item_number" 44 m_NodeTable_item_number) (n_tuple : mg "tuple" = none) : Cal P w K mg base "item_row" 45 m_item_row := cal_of G_item_row sc_item_row fun f cdv A outer s H E hr => (
    (mss_one (ms_ret (me_callTy call_tupleP cs_tuple (by decide +kernel) n_tuple (ma_cons (me_lc [("number", 2), ("times", 3)] sc_item_row.nd (mi_it (me_call C_groups_of (hr.mono (by decide)) takesE (ma_cons (me_var 1) ma_nil))) (blkOk_by (N := ["table", "row", "number", "times"]) (sc := defScope s_item_row) (own := [("number", 2), ("times", 3)]) (by decide +kernel)) (fun _ _ _ _ _ => (mg_many (mgs_cons (mg_one (i := 2) sc_item_row.nd) (mgs_cons (mg_one (i := 3) sc_item_row.nd) mgs_nil)))) (fun _ _ _ _ _ => mts_nil) (fun _ _ _ _ _ => (me_meth C_NodeTable_item_number (hr.mono (by decide)) takes0 (me_var 0) (ma_cons (me_var 2) (ma_cons (me_var 3) ma_nil))))) ma_nil)))))
abbrev s_mix : Stmt := top 14
theorem sc_mix : FnScope ["a", "b", "difference", "place"] ["a", "b"] (defScope s_mix) := ⟨rfl, rfl, rfl, by decide +kernel, rfl, by decide +kernel, by decide +kernel⟩
theorem c_mix (G_mix : GF K mg "mix" s_mix ["a", "b"]) : Cal P w K mg base "mix" 1 m_mix := cal_of G_mix sc_mix fun f cdv A outer s H E hr => (
    (mss_cons (ms_set sc_mix.nd (me_bin op_xor os_xor (me_var 0) (me_var 1)))
    (mss_cons (ms_set sc_mix.nd (me_bin op_sub os_sub (me_bits (me_bin op_and os_and (me_var 2) (me_neg (me_var 2)))) me_int))
    (mss_one (ms_ret (me_bin op_addU os_add (me_bin op_mulU os_mul me_int (me_var 3)) (me_bin op_and os_and (me_bin op_shr os_shr (me_var 1) (me_var 3)) me_int)))))))
abbrev s_one_round : Stmt := top 15
theorem sc_one_round : FnScope ["numbers", "mixed", "a", "b", "number"] ["numbers"] (defScope s_one_round) := ⟨rfl, rfl, rfl, by decide +kernel, rfl, by decide +kernel, by decide +kernel⟩
theorem c_one_round (G_one_round : GF K mg "one_round" s_one_round ["numbers"]) (C_mix : Cal P w K mg base "mix" 1 m_mix) (n_zip : mg "zip" = none) (n_tuple : mg "tuple" = none) : Cal P w K mg base "one_round" 2 m_one_round := cal_of G_one_round sc_one_round fun f cdv A outer s H E hr => (
    (mss_cons (ms_setLc [("number", 4)] sc_one_round.nd (sw_true rfl rfl rfl (by decide +kernel)) (mi_it (me_slice (me_var 0) mo_none (mo_some me_int))) (blkOk_by (N := ["numbers", "mixed", "a", "b", "number"]) (sc := defScope s_one_round) (own := [("number", 4)]) (by decide +kernel)) (fun _ _ _ _ _ => (mg_one sc_one_round.nd)) (fun _ _ _ _ _ => mts_nil) (fun _ _ _ _ _ => (me_bin op_and os_and (me_var 4) me_int)))
    (mss_cons (ms_for passesE (mi_zip n_zip (ma_cons (me_var 0) (ma_cons (me_slice (me_var 0) (mo_some me_int) mo_none) ma_nil))) (mg_many (mgs_cons (mg_one (i := 2) sc_one_round.nd) (mgs_cons (mg_one (i := 3) sc_one_round.nd) mgs_nil))) (mss_one (ms_expr (me_bm PySem.F.slot_list_append PySem.F.type_list_append mt_append ms_append (me_var 1) (ma_cons (me_call C_mix (hr.mono (by decide)) takesE (ma_cons (me_var 2) (ma_cons (me_var 3) ma_nil))) ma_nil)))))
    (mss_one (ms_ret (me_callTy call_tupleP cs_tuple (by decide +kernel) n_tuple (ma_cons (me_var 1) ma_nil)))))))
abbrev s_colors_of_coins : Stmt := top 16
theorem sc_colors_of_coins : FnScope ["coins", "numbers", "_"] ["coins"] (defScope s_colors_of_coins) := ⟨rfl, rfl, rfl, by decide +kernel, rfl, by decide +kernel, by decide +kernel⟩
theorem c_colors_of_coins (G_colors_of_coins : GF K mg "colors_of_coins" s_colors_of_coins ["coins"]) (C_one_round : Cal P w K mg base "one_round" 2 m_one_round) (g_ROUNDS : ∃ u, mg "ROUNDS" = some (.int 4 u)) (n_range : mg "range" = none) : Cal P w K mg base "colors_of_coins" 3 m_colors_of_coins := cal_of G_colors_of_coins sc_colors_of_coins fun f cdv A outer s H E hr => (
    (mss_cons (ms_set sc_colors_of_coins.nd (me_var 0))
    (mss_cons (ms_for passesE (mi_range1 (x := "range") n_range (ma_cons (g_ROUNDS.elim fun _ hg => me_glob (v := .int 4) (d := .int 4) rfl hg ⟨_, rfl⟩ (fun _ _ => RV.int _)) ma_nil) (hn := cons1)) (mg_one sc_colors_of_coins.nd) (mss_one (ms_set sc_colors_of_coins.nd (me_call C_one_round (hr.mono (by decide)) takesE (ma_cons (me_var 1) ma_nil)))))
    (mss_one (ms_ret (me_var 1))))))
abbrev s_first_difference : Stmt := top 11
theorem sc_first_difference : FnScope ["before", "code", "place"] ["before", "code"] (defScope s_first_difference) := ⟨rfl, rfl, rfl, by decide +kernel, rfl, by decide +kernel, by decide +kernel⟩
theorem c_first_difference (G_first_difference : GF K mg "first_difference" s_first_difference ["before", "code"]) (n_len : mg "len" = none) : Cal P w K mg base "first_difference" 1 m_first_difference := cal_of G_first_difference sc_first_difference fun f cdv A outer s H E hr => (
    (mss_cons (ms_set sc_first_difference.nd me_int)
    (mss_cons (ms_while passesE (L2.PW.pt (mw_and (mt_cmp op_ltU os_lt (me_var 2) (me_callB call_len cs_len PySem.boot_len n_len (ma_cons (me_var 0) ma_nil))) (mw_and1 (mt_cmp (op_eqU (units_ok hr)) os_eq (me_ix (me_var 0) (me_var 2)) (me_ix (me_var 1) (me_var 2)))))) (mss_one (ms_aug sc_first_difference.nd ip_add os_iadd me_int)))
    (mss_one (ms_ret (me_var 2))))))
abbrev s_coin_after : Stmt := top 12
theorem sc_coin_after : FnScope ["before", "code", "place"] ["before", "code"] (defScope s_coin_after) := ⟨rfl, rfl, rfl, by decide +kernel, rfl, by decide +kernel, by decide +kernel⟩
theorem c_coin_after (G_coin_after : GF K mg "coin_after" s_coin_after ["before", "code"]) (C_first_difference : Cal P w K mg base "first_difference" 1 m_first_difference) (g_DIGIT : ∃ u, mg "DIGIT" = some (.int 65536 u)) : Cal P w K mg base "coin_after" 2 m_coin_after := cal_of G_coin_after sc_coin_after fun f cdv A outer s H E hr => (
    (mss_cons (ms_set sc_coin_after.nd (me_call C_first_difference (hr.mono (by decide)) takesE (ma_cons (me_var 0) (ma_cons (me_var 1) ma_nil))))
    (mss_one (ms_ret (me_bin op_addU os_add (me_bin op_mulU os_mul (g_DIGIT.elim fun _ hg => me_glob (v := .int 65536) (d := .int 65536) rfl hg ⟨_, rfl⟩ (fun _ _ => RV.int _)) (me_var 2)) (me_ix (me_var 1) (me_var 2)))))))
abbrev s_coins_of_codes : Stmt := top 13
theorem sc_coins_of_codes : FnScope ["codes", "coins", "before", "code"] ["codes"] (defScope s_coins_of_codes) := ⟨rfl, rfl, rfl, by decide +kernel, rfl, by decide +kernel, by decide +kernel⟩
theorem c_coins_of_codes (G_coins_of_codes : GF K mg "coins_of_codes" s_coins_of_codes ["codes"]) (C_coin_after : Cal P w K mg base "coin_after" 2 m_coin_after) (n_tuple : mg "tuple" = none) : Cal P w K mg base "coins_of_codes" 3 m_coins_of_codes := cal_of G_coins_of_codes sc_coins_of_codes fun f cdv A outer s H E hr => (
    (mss_cons (ms_set sc_coins_of_codes.nd (me_lst ma_nil))
    (mss_cons (ms_set sc_coins_of_codes.nd (me_tup ma_nil))
    (mss_cons (ms_for passesE (mi_it (me_var 0)) (mg_one sc_coins_of_codes.nd) (mss_cons (ms_expr (me_bm PySem.F.slot_list_append PySem.F.type_list_append mt_append ms_append (me_var 1) (ma_cons (me_call C_coin_after (hr.mono (by decide)) takesE (ma_cons (me_var 2) (ma_cons (me_var 3) ma_nil))) ma_nil)))
    (mss_one (ms_set sc_coins_of_codes.nd (me_var 3)))))
    (mss_one (ms_ret (me_callTy call_tupleP cs_tuple (by decide +kernel) n_tuple (ma_cons (me_var 1) ma_nil))))))))
abbrev s_color_row : Stmt := top 27
theorem sc_color_row : FnScope ["table", "items", "item"] ["table", "items"] (defScope s_color_row) := ⟨rfl, rfl, rfl, by decide +kernel, rfl, by decide +kernel, by decide +kernel⟩
theorem c_color_row (G_color_row : GF K mg "color_row" s_color_row ["table", "items"]) (C_coins_of_codes : Cal P w K mg base "coins_of_codes" 3 m_coins_of_codes) (C_colors_of_coins : Cal P w K mg base "colors_of_coins" 3 m_colors_of_coins) (F_NodeTable_codes : FldF K mg "NodeTable" "codes") : Cal P w K mg base "color_row" 4 m_color_row := cal_of G_color_row sc_color_row fun f cdv A outer s H E hr => (
    (mss_one (ms_ret (me_call C_colors_of_coins (hr.mono (by decide)) takesE (ma_cons (me_call C_coins_of_codes (hr.mono (by decide)) takesE (ma_cons (me_lc [("item", 2)] sc_color_row.nd (mi_it (me_var 1)) (blkOk_by (N := ["table", "items", "item"]) (sc := defScope s_color_row) (own := [("item", 2)]) (by decide +kernel)) (fun _ _ _ _ _ => (mg_one sc_color_row.nd)) (fun _ _ _ _ _ => mts_nil) (fun _ _ _ _ _ => (me_ix (me_fld F_NodeTable_codes (me_var 0)) (me_var 2)))) ma_nil)) ma_nil)))))
abbrev s_is_peak : Stmt := top 19
theorem sc_is_peak : FnScope ["colors", "place"] ["colors", "place"] (defScope s_is_peak) := ⟨rfl, rfl, rfl, by decide +kernel, rfl, by decide +kernel, by decide +kernel⟩
theorem c_is_peak (G_is_peak : GF K mg "is_peak" s_is_peak ["colors", "place"]) : Cal P w K mg base "is_peak" 1 m_is_peak := cal_of G_is_peak sc_is_peak fun f cdv A outer s H E hr => (
    (mss_one (ms_ret (me_and (me_cmp op_ltU os_lt (me_ix (me_var 0) (me_bin op_sub os_sub (me_var 1) me_int)) (me_ix (me_var 0) (me_var 1))) (me_one (me_cmp op_gtU os_gt (me_ix (me_var 0) (me_var 1)) (me_ix (me_var 0) (me_bin op_addU os_add (me_var 1) me_int))))))))
abbrev s_starts_of : Stmt := top 20
theorem sc_starts_of : FnScope ["colors", "place"] ["colors"] (defScope s_starts_of) := ⟨rfl, rfl, rfl, by decide +kernel, rfl, by decide +kernel, by decide +kernel⟩
theorem c_starts_of (G_starts_of : GF K mg "starts_of" s_starts_of ["colors"]) (C_is_peak : Cal P w K mg base "is_peak" 1 m_is_peak) (n_len : mg "len" = none) (n_range : mg "range" = none) (n_tuple : mg "tuple" = none) : Cal P w K mg base "starts_of" 2 m_starts_of := cal_of G_starts_of sc_starts_of fun f cdv A outer s H E hr => (
    (mss_cons (ms_if (mt_not (mt_tru (me_var 0))) (mss_one (ms_ret (me_tup ma_nil))) mss_nil)
    (mss_one (ms_ret (me_bin op_addU os_add (me_tup (ma_cons me_int ma_nil)) (me_callTy call_tupleP cs_tuple (by decide +kernel) n_tuple (ma_cons (me_lc [("place", 1)] sc_starts_of.nd (mi_range2 (x := "range") n_range (ma_cons me_int (ma_cons (me_bin op_sub os_sub (me_callB call_len cs_len PySem.boot_len n_len (ma_cons (me_var 0) ma_nil)) me_int) ma_nil)) (hn := cons2)) (blkOk_by (N := ["colors", "place"]) (sc := defScope s_starts_of) (own := [("place", 1)]) (by decide +kernel)) (fun _ _ _ _ _ => (mg_one sc_starts_of.nd)) (fun _ _ _ _ _ => (mts_one (mt_tru (me_call C_is_peak (hr.mono (by decide)) takes0 (ma_cons (me_var 0) (ma_cons (me_var 1) ma_nil)))))) (fun _ _ _ _ _ => (me_var 1))) ma_nil)))))))
abbrev s_cut : Stmt := top 21
theorem sc_cut : FnScope ["items", "starts", "ends", "start", "end"] ["items", "starts"] (defScope s_cut) := ⟨rfl, rfl, rfl, by decide +kernel, rfl, by decide +kernel, by decide +kernel⟩
theorem c_cut (G_cut : GF K mg "cut" s_cut ["items", "starts"]) (n_len : mg "len" = none) (n_zip : mg "zip" = none) : Cal P w K mg base "cut" 1 m_cut := cal_of G_cut sc_cut fun f cdv A outer s H E hr => (
    (mss_cons (ms_set sc_cut.nd (me_bin op_addU os_add (me_slice (me_var 1) (mo_some me_int) mo_none) (me_tup (ma_cons (me_callB call_len cs_len PySem.boot_len n_len (ma_cons (me_var 0) ma_nil)) ma_nil))))
    (mss_one (ms_ret (me_lc [("start", 3), ("end", 4)] sc_cut.nd (mi_zip n_zip (ma_cons (me_var 1) (ma_cons (me_var 2) ma_nil))) (blkOk_by (N := ["items", "starts", "ends", "start", "end"]) (sc := defScope s_cut) (own := [("start", 3), ("end", 4)]) (by decide +kernel)) (fun _ _ _ _ _ => (mg_many (mgs_cons (mg_one (i := 3) sc_cut.nd) (mgs_cons (mg_one (i := 4) sc_cut.nd) mgs_nil)))) (fun _ _ _ _ _ => mts_nil) (fun _ _ _ _ _ => (me_slice (me_var 0) (mo_some (me_var 3)) (mo_some (me_var 4)))))))))
abbrev s_grow : Stmt := top 28
theorem sc_grow : FnScope ["table", "contents", "levels", "row", "items", "colors", "starts", "part"] ["table", "contents"] (defScope s_grow) := ⟨rfl, rfl, rfl, by decide +kernel, rfl, by decide +kernel, by decide +kernel⟩
theorem c_grow (G_grow : GF K mg "grow" s_grow ["table", "contents"]) (C_leaf_row : Cal P w K mg base "leaf_row" 44 m_leaf_row) (C_item_row : Cal P w K mg base "item_row" 45 m_item_row) (C_color_row : Cal P w K mg base "color_row" 4 m_color_row) (C_starts_of : Cal P w K mg base "starts_of" 2 m_starts_of) (C_cut : Cal P w K mg base "cut" 1 m_cut) (C_NodeTable_number_of : CalM P w K mg base "NodeTable" "number_of" 43 m_NodeTable_number_of) (n_len : mg "len" = none) : Cal P w K mg base "grow" 46 m_grow := cal_of G_grow sc_grow fun f cdv A outer s H E hr => (
    (mss_cons (ms_set sc_grow.nd (me_lst ma_nil))
    (mss_cons (ms_set sc_grow.nd (me_call C_leaf_row (hr.mono (by decide)) takesE (ma_cons (me_var 0) (ma_cons (me_var 1) ma_nil))))
    (mss_cons (ms_while passesE (mt_tru (me_var 3)) (mss_cons (ms_set sc_grow.nd (me_call C_item_row (hr.mono (by decide)) takesE (ma_cons (me_var 0) (ma_cons (me_var 3) ma_nil))))
    (mss_cons (ms_set sc_grow.nd (me_call C_color_row (hr.mono (by decide)) takesE (ma_cons (me_var 0) (ma_cons (me_var 4) ma_nil))))
    (mss_cons (ms_set sc_grow.nd (me_call C_starts_of (hr.mono (by decide)) takesE (ma_cons (me_var 5) ma_nil)))
    (mss_cons (ms_expr (me_bm PySem.F.slot_list_append PySem.F.type_list_append mt_append ms_append (me_var 2) (ma_cons (me_tup (ma_cons (me_var 3) (ma_cons (me_var 4) (ma_cons (me_var 5) (ma_cons (me_var 6) ma_nil))))) ma_nil)))
    (mss_cons (ms_set sc_grow.nd (me_lst ma_nil))
    (mss_one (ms_if (mt_cmp op_gtU os_gt (me_callB call_len cs_len PySem.boot_len n_len (ma_cons (me_var 4) ma_nil)) me_int) (mss_one (ms_setLc [("part", 7)] sc_grow.nd (sw_true rfl rfl rfl (by decide +kernel)) (mi_it (me_call C_cut (hr.mono (by decide)) takesE (ma_cons (me_var 4) (ma_cons (me_var 6) ma_nil)))) (blkOk_by (N := ["table", "contents", "levels", "row", "items", "colors", "starts", "part"]) (sc := defScope s_grow) (own := [("part", 7)]) (by decide +kernel)) (fun _ _ _ _ _ => (mg_one sc_grow.nd)) (fun _ _ _ _ _ => mts_nil) (fun _ _ _ _ _ => (me_meth C_NodeTable_number_of (hr.mono (by decide)) takes0 (me_var 0) (ma_cons (me_tup (ma_cons me_str (ma_cons (me_var 7) ma_nil))) ma_nil))))) mss_nil))))))))
    (mss_one (ms_ret (me_var 2)))))))
abbrev s_spans_of : Stmt := top 31
theorem sc_spans_of : FnScope ["contents", "table", "level"] ["contents"] (defScope s_spans_of) := ⟨rfl, rfl, rfl, by decide +kernel, rfl, by decide +kernel, by decide +kernel⟩
theorem c_spans_of (G_spans_of : GF K mg "spans_of" s_spans_of ["contents"]) (C_NodeTable___init__ : CalI P w K mg base "NodeTable" 1 m_NodeTable___init__) (C_grow : Cal P w K mg base "grow" 46 m_grow) (C_row_spans : Cal P w K mg base "row_spans" 1 m_row_spans) (n_tuple : mg "tuple" = none) : Cal P w K mg base "spans_of" 47 m_spans_of := cal_of G_spans_of sc_spans_of fun f cdv A outer s H E hr => (
    (mss_cons (ms_set sc_spans_of.nd (me_make0 C_NodeTable___init__ (hr.mono (by decide)) takesE))
    (mss_one (ms_ret (me_callTy call_tupleP cs_tuple (by decide +kernel) n_tuple (ma_cons (me_lc [("level", 2)] sc_spans_of.nd (mi_it (me_call C_grow (hr.mono (by decide)) takesE (ma_cons (me_var 1) (ma_cons (me_var 0) ma_nil)))) (blkOk_by (N := ["contents", "table", "level"]) (sc := defScope s_spans_of) (own := [("level", 2)]) (by decide +kernel)) (fun _ _ _ _ _ => (mg_one sc_spans_of.nd)) (fun _ _ _ _ _ => mts_nil) (fun _ _ _ _ _ => (me_call C_row_spans (hr.mono (by decide)) takes0 (ma_cons (me_var 1) (ma_cons (me_ix (me_var 2) me_int) (ma_cons me_int ma_nil)))))) ma_nil))))))
abbrev s_Growth_settled_counts : Stmt := clsAt (top 35) 2
theorem sc_Growth_settled_counts : FnScope ["self", "layer"] ["self"] (defScope s_Growth_settled_counts) := ⟨rfl, rfl, rfl, by decide +kernel, rfl, by decide +kernel, by decide +kernel⟩
theorem c_Growth_settled_counts (G_Growth_settled_counts : GM K mg "Growth" "settled_counts" "Growth.settled_counts" s_Growth_settled_counts ["self"]) (F_Growth_layers : FldF K mg "Growth" "layers") (F_Layer_count : FldF K mg "Layer" "count") (n_tuple : mg "tuple" = none) : CalM P w K mg base "Growth" "settled_counts" 1 m_Growth_settled_counts := calm_of G_Growth_settled_counts sc_Growth_settled_counts fun f cdv A outer s H E hr => (
    (mss_one (ms_ret (me_callTy call_tupleP cs_tuple (by decide +kernel) n_tuple (ma_cons (me_lc [("layer", 1)] sc_Growth_settled_counts.nd (mi_it (me_fld F_Growth_layers (me_var 0))) (blkOk_by (N := ["self", "layer"]) (sc := defScope s_Growth_settled_counts) (own := [("layer", 1)]) (by decide +kernel)) (fun _ _ _ _ _ => (mg_one sc_Growth_settled_counts.nd)) (fun _ _ _ _ _ => mts_nil) (fun _ _ _ _ _ => (me_fld F_Layer_count (me_var 1)))) ma_nil)))))
abbrev s_Growth___init__ : Stmt := clsAt (top 35) 0
theorem sc_Growth___init__ : FnScope ["self"] ["self"] (defScope s_Growth___init__) := ⟨rfl, rfl, rfl, by decide +kernel, rfl, by decide +kernel, by decide +kernel⟩
theorem c_Growth___init__ (G_Growth___init__ : GI K mg "Growth" "Growth.__init__" s_Growth___init__ ["self"]) (C_NodeTable___init__ : CalI P w K mg base "NodeTable" 1 m_NodeTable___init__) (F_Growth_table : FldF K mg "Growth" "table") (F_Growth_layers : FldF K mg "Growth" "layers") : CalI P w K mg base "Growth" 3 m_Growth___init__ := cali_of G_Growth___init__ sc_Growth___init__ fun f cdv A outer s H E hr => (
    (mss_cons (ms_putf F_Growth_table (me_var 0) (me_make0 C_NodeTable___init__ (hr.mono (by decide)) takesE))
    (mss_one (ms_putf F_Growth_layers (me_var 0) (me_lst ma_nil)))))
abbrev s_Layer_next_block : Stmt := clsAt (top 34) 3
theorem sc_Layer_next_block : FnScope ["self", "end", "block"] ["self"] (defScope s_Layer_next_block) := ⟨rfl, rfl, rfl, by decide +kernel, rfl, by decide +kernel, by decide +kernel⟩
theorem c_Layer_next_block (G_Layer_next_block : GM K mg "Layer" "next_block" "Layer.next_block" s_Layer_next_block ["self"]) (C_is_peak : Cal P w K mg base "is_peak" 1 m_is_peak) (F_Layer_row : FldF K mg "Layer" "row") (n_len : mg "len" = none) (g_BEHIND : ∃ u, mg "BEHIND" = some (.int 3 u)) (F_Layer_colors : FldF K mg "Layer" "colors") (F_Layer_start : FldF K mg "Layer" "start") (n_tuple : mg "tuple" = none) : CalM P w K mg base "Layer" "next_block" 2 m_Layer_next_block := calm_of G_Layer_next_block sc_Layer_next_block fun f cdv A outer s H E hr => (
    (mss_cons (ms_set sc_Layer_next_block.nd (me_bin op_sub os_sub (me_bin op_addU os_add (me_callB call_len cs_len PySem.boot_len n_len (ma_cons (me_fld F_Layer_row (me_var 0)) ma_nil)) me_int) (g_BEHIND.elim fun _ hg => me_glob (v := .int 3) (d := .int 3) rfl hg ⟨_, rfl⟩ (fun _ _ => RV.int _))))
    (mss_cons (ms_if (L2.PW.pt (mw_or (mt_cmp op_ltU os_lt (me_var 1) me_int) (mw_or1 (mt_not (mt_tru (me_call C_is_peak (hr.mono (by decide)) takesE (ma_cons (me_fld F_Layer_colors (me_var 0)) (ma_cons (me_var 1) ma_nil)))))))) (mss_one (ms_ret me_non)) mss_nil)
    (mss_cons (ms_set sc_Layer_next_block.nd (me_callTy call_tupleP cs_tuple (by decide +kernel) n_tuple (ma_cons (me_slice (me_fld F_Layer_row (me_var 0)) (mo_some (me_fld F_Layer_start (me_var 0))) (mo_some (me_var 1))) ma_nil)))
    (mss_cons (ms_putf F_Layer_start (me_var 0) (me_var 1))
    (mss_one (ms_ret (me_tup (ma_cons me_str (ma_cons (me_var 2) ma_nil))))))))))
abbrev s_trail_after : Stmt := top 17
theorem sc_trail_after : FnScope ["before", "coin", "trail", "k"] ["before", "coin"] (defScope s_trail_after) := ⟨rfl, rfl, rfl, by decide +kernel, rfl, by decide +kernel, by decide +kernel⟩
theorem c_trail_after (G_trail_after : GF K mg "trail_after" s_trail_after ["before", "coin"]) (C_mix : Cal P w K mg base "mix" 1 m_mix) (g_ROUNDS : ∃ u, mg "ROUNDS" = some (.int 4 u)) (n_range : mg "range" = none) (n_tuple : mg "tuple" = none) : Cal P w K mg base "trail_after" 2 m_trail_after := cal_of G_trail_after sc_trail_after fun f cdv A outer s H E hr => (
    (mss_cons (ms_set sc_trail_after.nd (me_lst (ma_cons (me_var 1) ma_nil)))
    (mss_cons (ms_for passesE (mi_range1 (x := "range") n_range (ma_cons (g_ROUNDS.elim fun _ hg => me_glob (v := .int 4) (d := .int 4) rfl hg ⟨_, rfl⟩ (fun _ _ => RV.int _)) ma_nil) (hn := cons1)) (mg_one sc_trail_after.nd) (mss_one (ms_if (mt_tru (me_var 0)) (mss_one (ms_expr (me_bm PySem.F.slot_list_append PySem.F.type_list_append mt_append ms_append (me_var 2) (ma_cons (me_call C_mix (hr.mono (by decide)) takesE (ma_cons (me_ix (me_var 0) (me_var 3)) (ma_cons (me_ix (me_var 2) (me_var 3)) ma_nil))) ma_nil)))) (mss_one (ms_expr (me_bm PySem.F.slot_list_append PySem.F.type_list_append mt_append ms_append (me_var 2) (ma_cons (me_bin op_and os_and (me_ix (me_var 2) (me_var 3)) me_int) ma_nil)))))))
    (mss_one (ms_ret (me_callTy call_tupleP cs_tuple (by decide +kernel) n_tuple (ma_cons (me_var 2) ma_nil)))))))
abbrev s_Layer_close_item : Stmt := clsAt (top 34) 2
theorem sc_Layer_close_item : FnScope ["self", "table", "item", "before"] ["self", "table"] (defScope s_Layer_close_item) := ⟨rfl, rfl, rfl, by decide +kernel, rfl, by decide +kernel, by decide +kernel⟩
theorem c_Layer_close_item (G_Layer_close_item : GM K mg "Layer" "close_item" "Layer.close_item" s_Layer_close_item ["self", "table"]) (C_NodeTable_item_number : CalM P w K mg base "NodeTable" "item_number" 44 m_NodeTable_item_number) (C_coin_after : Cal P w K mg base "coin_after" 2 m_coin_after) (C_trail_after : Cal P w K mg base "trail_after" 2 m_trail_after) (F_Layer_times : FldF K mg "Layer" "times") (F_Layer_node : FldF K mg "Layer" "node") (F_Layer_row : FldF K mg "Layer" "row") (F_NodeTable_codes : FldF K mg "NodeTable" "codes") (F_Layer_trail : FldF K mg "Layer" "trail") (F_Layer_colors : FldF K mg "Layer" "colors") : CalM P w K mg base "Layer" "close_item" 45 m_Layer_close_item := calm_of G_Layer_close_item sc_Layer_close_item fun f cdv A outer s H E hr => (
    (mss_cons (ms_set sc_Layer_close_item.nd (me_meth C_NodeTable_item_number (hr.mono (by decide)) takesE (me_var 1) (ma_cons (me_fld F_Layer_node (me_var 0)) (ma_cons (me_fld F_Layer_times (me_var 0)) ma_nil))))
    (mss_cons (ms_set sc_Layer_close_item.nd (me_tup ma_nil))
    (mss_cons (ms_if (mt_tru (me_fld F_Layer_row (me_var 0))) (mss_one (ms_set sc_Layer_close_item.nd (me_ix (me_fld F_NodeTable_codes (me_var 1)) (me_ix (me_fld F_Layer_row (me_var 0)) (me_neg me_int))))) mss_nil)
    (mss_cons (ms_putf F_Layer_trail (me_var 0) (me_call C_trail_after (hr.mono (by decide)) takesE (ma_cons (me_fld F_Layer_trail (me_var 0)) (ma_cons (me_call C_coin_after (hr.mono (by decide)) takesE (ma_cons (me_var 3) (ma_cons (me_ix (me_fld F_NodeTable_codes (me_var 1)) (me_var 2)) ma_nil))) ma_nil))))
    (mss_cons (ms_expr (me_bm PySem.F.slot_list_append PySem.F.type_list_append mt_append ms_append (me_fld F_Layer_row (me_var 0)) (ma_cons (me_var 2) ma_nil)))
    (mss_one (ms_expr (me_bm PySem.F.slot_list_append PySem.F.type_list_append mt_append ms_append (me_fld F_Layer_colors (me_var 0)) (ma_cons (me_ix (me_fld F_Layer_trail (me_var 0)) (me_neg me_int)) ma_nil))))))))))
abbrev s_Layer_add_node : Stmt := clsAt (top 34) 1
theorem sc_Layer_add_node : FnScope ["self", "table", "number"] ["self", "table", "number"] (defScope s_Layer_add_node) := ⟨rfl, rfl, rfl, by decide +kernel, rfl, by decide +kernel, by decide +kernel⟩
theorem c_Layer_add_node (G_Layer_add_node : GM K mg "Layer" "add_node" "Layer.add_node" s_Layer_add_node ["self", "table", "number"]) (C_Layer_close_item : CalM P w K mg base "Layer" "close_item" 45 m_Layer_close_item) (C_Layer_next_block : CalM P w K mg base "Layer" "next_block" 2 m_Layer_next_block) (F_Layer_count : FldF K mg "Layer" "count") (F_Layer_node : FldF K mg "Layer" "node") (F_Layer_times : FldF K mg "Layer" "times") : CalM P w K mg base "Layer" "add_node" 46 m_Layer_add_node := calm_of G_Layer_add_node sc_Layer_add_node fun f cdv A outer s H E hr => (
    (mss_cons (ms_augf F_Layer_count L2.in_add os_iadd (me_var 0) me_int)
    (mss_cons (ms_if (mt_cmp (op_eqU (units_ok hr)) os_eq (me_var 2) (me_fld F_Layer_node (me_var 0))) (mss_cons (ms_augf F_Layer_times L2.in_add os_iadd (me_var 0) me_int)
    (mss_one (ms_ret me_non))) mss_nil)
    (mss_cons (ms_if (mt_cmp op_notN os_notN (me_fld F_Layer_node (me_var 0)) me_non) (mss_one (ms_expr (me_meth C_Layer_close_item (hr.mono (by decide)) takesE (me_var 0) (ma_cons (me_var 1) ma_nil)))) mss_nil)
    (mss_cons (ms_putf F_Layer_node (me_var 0) (me_var 2))
    (mss_cons (ms_putf F_Layer_times (me_var 0) me_int)
    (mss_one (ms_ret (me_meth0 C_Layer_next_block (hr.mono (by decide)) takesE (me_var 0))))))))))
abbrev s_Layer___init__ : Stmt := clsAt (top 34) 0
theorem sc_Layer___init__ : FnScope ["self"] ["self"] (defScope s_Layer___init__) := ⟨rfl, rfl, rfl, by decide +kernel, rfl, by decide +kernel, by decide +kernel⟩
theorem c_Layer___init__ (G_Layer___init__ : GI K mg "Layer" "Layer.__init__" s_Layer___init__ ["self"]) (F_Layer_count : FldF K mg "Layer" "count") (F_Layer_node : FldF K mg "Layer" "node") (F_Layer_times : FldF K mg "Layer" "times") (F_Layer_row : FldF K mg "Layer" "row") (F_Layer_colors : FldF K mg "Layer" "colors") (F_Layer_trail : FldF K mg "Layer" "trail") (F_Layer_start : FldF K mg "Layer" "start") (F_Layer_end : FldF K mg "Layer" "end") : CalI P w K mg base "Layer" 1 m_Layer___init__ := cali_of G_Layer___init__ sc_Layer___init__ fun f cdv A outer s H E hr => (
    (mss_cons (ms_putf F_Layer_count (me_var 0) me_int)
    (mss_cons (ms_putf F_Layer_node (me_var 0) me_non)
    (mss_cons (ms_putf F_Layer_times (me_var 0) me_int)
    (mss_cons (ms_putf F_Layer_row (me_var 0) (me_lst ma_nil))
    (mss_cons (ms_putf F_Layer_colors (me_var 0) (me_lst ma_nil))
    (mss_cons (ms_putf F_Layer_trail (me_var 0) (me_tup ma_nil))
    (mss_cons (ms_putf F_Layer_start (me_var 0) me_int)
    (mss_one (ms_putf F_Layer_end (me_var 0) me_int))))))))))
abbrev s_Growth_add_element : Stmt := clsAt (top 35) 1
theorem sc_Growth_add_element : FnScope ["self", "element", "found", "number", "level", "layer", "entry", "start"] ["self", "element"] (defScope s_Growth_add_element) := ⟨rfl, rfl, rfl, by decide +kernel, rfl, by decide +kernel, by decide +kernel⟩
theorem c_Growth_add_element (G_Growth_add_element : GM K mg "Growth" "add_element" "Growth.add_element" s_Growth_add_element ["self", "element"]) (C_NodeTable_number_of : CalM P w K mg base "NodeTable" "number_of" 43 m_NodeTable_number_of) (C_Layer___init__ : CalI P w K mg base "Layer" 1 m_Layer___init__) (C_Layer_add_node : CalM P w K mg base "Layer" "add_node" 46 m_Layer_add_node) (F_Growth_table : FldF K mg "Growth" "table") (F_Growth_layers : FldF K mg "Growth" "layers") (n_len : mg "len" = none) (F_Layer_end : FldF K mg "Layer" "end") (F_NodeTable_sizes : FldF K mg "NodeTable" "sizes") : CalM P w K mg base "Growth" "add_element" 47 m_Growth_add_element := calm_of G_Growth_add_element sc_Growth_add_element fun f cdv A outer s H E hr => (
    (mss_cons (ms_set sc_Growth_add_element.nd (me_lst ma_nil))
    (mss_cons (ms_set sc_Growth_add_element.nd (me_meth C_NodeTable_number_of (hr.mono (by decide)) takesE (me_fld F_Growth_table (me_var 0)) (ma_cons (me_tup (ma_cons me_str (ma_cons (me_var 1) ma_nil))) ma_nil)))
    (mss_cons (ms_set sc_Growth_add_element.nd me_int)
    (mss_cons (ms_while passesE (mt_cmp op_notN os_notN (me_var 3) me_non) (mss_cons (ms_if (mt_cmp (op_eqU (units_ok hr)) os_eq (me_var 4) (me_callB call_len cs_len PySem.boot_len n_len (ma_cons (me_fld F_Growth_layers (me_var 0)) ma_nil))) (mss_one (ms_expr (me_bm PySem.F.slot_list_append PySem.F.type_list_append mt_append ms_append (me_fld F_Growth_layers (me_var 0)) (ma_cons (me_make0 C_Layer___init__ (hr.mono (by decide)) takesE) ma_nil)))) mss_nil)
    (mss_cons (ms_set sc_Growth_add_element.nd (me_ix (me_fld F_Growth_layers (me_var 0)) (me_var 4)))
    (mss_cons (ms_set sc_Growth_add_element.nd (me_meth C_Layer_add_node (hr.mono (by decide)) takesE (me_var 5) (ma_cons (me_fld F_Growth_table (me_var 0)) (ma_cons (me_var 3) ma_nil))))
    (mss_cons (ms_set sc_Growth_add_element.nd me_non)
    (mss_cons (ms_aug sc_Growth_add_element.nd ip_add os_iadd me_int)
    (mss_one (ms_if (mt_cmp op_notN os_notN (me_var 6) me_non) (mss_cons (ms_set sc_Growth_add_element.nd (me_meth C_NodeTable_number_of (hr.mono (by decide)) takesE (me_fld F_Growth_table (me_var 0)) (ma_cons (me_var 6) ma_nil)))
    (mss_cons (ms_set sc_Growth_add_element.nd (me_fld F_Layer_end (me_var 5)))
    (mss_cons (ms_putf F_Layer_end (me_var 5) (me_bin op_addU os_add (me_var 7) (me_ix (me_fld F_NodeTable_sizes (me_fld F_Growth_table (me_var 0))) (me_var 3))))
    (mss_one (ms_expr (me_bm PySem.F.slot_list_append PySem.F.type_list_append mt_append ms_append (me_var 2) (ma_cons (me_tup (ma_cons (me_var 4) (ma_cons (me_var 7) (ma_cons (me_fld F_Layer_end (me_var 5)) ma_nil)))) ma_nil))))))) mss_nil))))))))
    (mss_one (ms_ret (me_var 2))))))))
abbrev s_settled_of : Stmt := top 36
theorem sc_settled_of : FnScope ["contents", "growth", "element"] ["contents"] (defScope s_settled_of) := ⟨rfl, rfl, rfl, by decide +kernel, rfl, by decide +kernel, by decide +kernel⟩
theorem c_settled_of (G_settled_of : GF K mg "settled_of" s_settled_of ["contents"]) (C_Growth___init__ : CalI P w K mg base "Growth" 3 m_Growth___init__) (C_Growth_add_element : CalM P w K mg base "Growth" "add_element" 47 m_Growth_add_element) (C_Growth_settled_counts : CalM P w K mg base "Growth" "settled_counts" 1 m_Growth_settled_counts) : Cal P w K mg base "settled_of" 48 m_settled_of := cal_of G_settled_of sc_settled_of fun f cdv A outer s H E hr => (
    (mss_cons (ms_set sc_settled_of.nd (me_make0 C_Growth___init__ (hr.mono (by decide)) takesE))
    (mss_cons (ms_for passesE (mi_it (me_var 0)) (mg_one sc_settled_of.nd) (mss_one (ms_expr (me_meth C_Growth_add_element (hr.mono (by decide)) takesE (me_var 1) (ma_cons (me_var 2) ma_nil)))))
    (mss_one (ms_ret (me_meth0 C_Growth_settled_counts (hr.mono (by decide)) takesE (me_var 1)))))))
abbrev s_law_alike : Stmt := top 41
theorem sc_law_alike : FnScope ["_law_told", "_law_due", "_law_k"] ["_law_told", "_law_due"] (defScope s_law_alike) := ⟨rfl, rfl, rfl, by decide +kernel, rfl, by decide +kernel, by decide +kernel⟩
theorem c_law_alike (G_law_alike : GF K mg "_law_alike" s_law_alike ["_law_told", "_law_due"]) (n_isinstance : mg "isinstance" = none) (n_tuple : mg "tuple" = none) (n_len : mg "len" = none) (n_range : mg "range" = none) (n_str : mg "str" = none) (n_bool : mg "bool" = none) (n_int : mg "int" = none) : ∀ n : Nat, Cal P w K mg base "_law_alike" (n + 0) (m_law_alike n)
  | 0 => cal_bad G_law_alike
  | n + 1 => by
    have ih_law_alike := c_law_alike G_law_alike n_isinstance n_tuple n_len n_range n_str n_bool n_int n
    exact Cal.cast (by omega) (cal_of G_law_alike sc_law_alike fun f cdv A outer s H E hr => (
    (mss_cons (ms_if (mt_tru (me_isi .tup (me_var 1) rfl rfl n_isinstance n_tuple (by decide +kernel))) (mss_cons (ms_if (L2.PW.pt (mw_or (mt_not (mt_tru (me_isi .tup (me_var 0) rfl rfl n_isinstance n_tuple (by decide +kernel)))) (mw_or1 (mt_cmp (op_neU (units_ok hr)) os_ne (me_callB call_len cs_len PySem.boot_len n_len (ma_cons (me_var 0) ma_nil)) (me_callB call_len cs_len PySem.boot_len n_len (ma_cons (me_var 1) ma_nil)))))) (mss_one (ms_ret me_bl)) mss_nil)
    (mss_cons (ms_for passesE (mi_range1 (x := "range") n_range (ma_cons (me_callB call_len cs_len PySem.boot_len n_len (ma_cons (me_var 1) ma_nil)) ma_nil) (hn := cons1)) (mg_one sc_law_alike.nd) (mss_one (ms_if (mt_not (mt_tru (me_call ih_law_alike (hr.mono (Nat.le_refl _)) takesE (ma_cons (me_ix (me_var 0) (me_var 2)) (ma_cons (me_ix (me_var 1) (me_var 2)) ma_nil))))) (mss_one (ms_ret me_bl)) mss_nil)))
    (mss_one (ms_ret me_bl)))) mss_nil)
    (mss_cons (ms_if (mt_cmp op_isN os_isN (me_var 1) me_non) (mss_one (ms_ret (me_cmp op_isN os_isN (me_var 0) me_non))) mss_nil)
    (mss_cons (ms_if (mt_tru (me_isi .str (me_var 1) rfl rfl n_isinstance n_str (by decide +kernel))) (mss_one (ms_ret (me_and (me_isi .str (me_var 0) rfl rfl n_isinstance n_str (by decide +kernel)) (me_one (me_cmp (op_eqU (units_ok hr)) os_eq (me_var 0) (me_var 1)))))) mss_nil)
    (mss_cons (ms_if (mt_cmp (op_neU (units_ok hr)) os_ne (me_isi .bool (me_var 0) rfl rfl n_isinstance n_bool (by decide +kernel)) (me_isi .bool (me_var 1) rfl rfl n_isinstance n_bool (by decide +kernel))) (mss_one (ms_ret me_bl)) mss_nil)
    (mss_one (ms_ret (me_and (me_isi .int (me_var 0) rfl rfl n_isinstance n_int (by decide +kernel)) (me_one (me_cmp (op_eqU (units_ok hr)) os_eq (me_var 0) (me_var 1))))))))))))
abbrev s_settlements : Stmt := top 37
theorem sc_settlements : GScope ["contents", "growth", "after", "element", "level", "start", "end"] ["contents"] (defScope s_settlements) := ⟨rfl, rfl, rfl, by decide +kernel, rfl, by decide +kernel, by decide +kernel⟩
theorem c_settlements (G_settlements : GF K mg "settlements" s_settlements ["contents"]) (C_Growth_add_element : CalM P w K mg base "Growth" "add_element" 47 m_Growth_add_element) (C_Growth___init__ : CalI P w K mg base "Growth" 3 m_Growth___init__) (n_enumerate : mg "enumerate" = none) : CalY P w K mg base "settlements" 48 m_settlements := caly_of G_settlements sc_settlements fun f cdv A outer s H E pn hr => (
    (gss_c (gs_pl (W := fun c d _ H' => E c d H') (ms_set sc_settlements.nd (me_make0 C_Growth___init__ (hr.mono (by decide)) takes_gcx)))
    (gss_c (gs_fr (W := fun c d _ H' => E c d H') owns_gcx (mi_enumS (k0 := 1) n_enumerate (by decide) (ma_cons (me_var 0) ma_nil)) (mg_many (mgs_cons (mg_one (i := 2) sc_settlements.nd) (mgs_cons (mg_one (i := 3) sc_settlements.nd) mgs_nil))) (gss_c (gs_fr (W := fun c d _ H' => E c d H') owns_gcx (mi_it (me_meth C_Growth_add_element (hr.mono (by decide)) takes_gcx (me_var 1) (ma_cons (me_var 3) ma_nil))) (mg_many (mgs_cons (mg_one (i := 4) sc_settlements.nd) (mgs_cons (mg_one (i := 5) sc_settlements.nd) (mgs_cons (mg_one (i := 6) sc_settlements.nd) mgs_nil)))) (gss_c (gs_yl (W := fun c d _ H' => E c d H') (me_tup (ma_cons (me_var 2) (ma_cons (me_var 4) (ma_cons (me_var 5) (ma_cons (me_var 6) ma_nil))))))
    gss_n))
    gss_n))
    gss_n)))
abbrev s_law_large : Stmt := top 47
theorem sc_law_large : FnScope ["_law_tape_here", "_law_size", "_law_number", "_law_width", "_law_row", "_law_k"] ["_law_tape_here", "_law_size"] (defScope s_law_large) := ⟨rfl, rfl, rfl, by decide +kernel, rfl, by decide +kernel, by decide +kernel⟩
theorem c_law_large (G_law_large : GF K mg "_law_large" s_law_large ["_law_tape_here", "_law_size"]) (C_law_draw : Cal P w K mg base "_law_draw" 1 m_law_draw) (n_range : mg "range" = none) (n_int : mg "int" = none) : Cal P w K mg base "_law_large" 2 m_law_large := cal_of G_law_large sc_law_large fun f cdv A outer s H E hr => (
    (mss_cons (ms_set sc_law_large.nd (me_bin op_addU os_add me_int (me_call C_law_draw (hr.mono (by decide)) takesE (ma_cons (me_var 0) (ma_cons me_int ma_nil)))))
    (mss_cons (ms_set sc_law_large.nd (me_ix (me_lst (ma_cons me_int (ma_cons me_int (ma_cons me_int (ma_cons me_int (ma_cons me_int ma_nil)))))) (me_call C_law_draw (hr.mono (by decide)) takesE (ma_cons (me_var 0) (ma_cons me_int ma_nil)))))
    (mss_cons (ms_set sc_law_large.nd (me_lst ma_nil))
    (mss_cons (ms_for passesE (mi_range1 (x := "range") n_range (ma_cons (me_var 1) ma_nil) (hn := cons1)) (mg_one sc_law_large.nd) (mss_cons (ms_set sc_law_large.nd (me_bin op_modP os_mod (me_callTy call_int1 cs_int (by decide +kernel) n_int (ma_cons (me_bin op_mulU os_mul (me_var 2) me_int) ma_nil)) me_int))
    (mss_one (ms_expr (me_bm PySem.F.slot_list_append PySem.F.type_list_append mt_append ms_append (me_var 4) (ma_cons (me_bin op_modP os_mod (me_callTy call_int1 cs_int (by decide +kernel) n_int (ma_cons (me_var 2) ma_nil)) (me_var 3)) ma_nil))))))
    (mss_one (ms_ret (me_var 4))))))))
abbrev s_law : Stmt := top 48
theorem sc_law : FnScope ["_law_script", "_law_tape_here", "_law_contents_here", "_law_low", "_law_spans", "_law_due", "_law_before", "_law_after", "_law_counts", "_law_level", "_law_old", "_law_told", "_law_settlement"] ["_law_script"] (defScope s_law) := ⟨rfl, rfl, rfl, by decide +kernel, rfl, by decide +kernel, by decide +kernel⟩
theorem c_law_body (C_law_tape : Cal P w K mg base "_law_tape" 1 m_law_tape) (C_law_contents : Cal P w K mg base "_law_contents" 6 m_law_contents) (C_law_draw : Cal P w K mg base "_law_draw" 1 m_law_draw) (C_law_large : Cal P w K mg base "_law_large" 2 m_law_large) (C_spans_of : Cal P w K mg base "spans_of" 47 m_spans_of) (C_settled_of : Cal P w K mg base "settled_of" 48 m_settled_of) (C_settlements : CalY P w K mg base "settlements" 48 m_settlements) (C_law_alike : Cal P w K mg base "_law_alike" 40 (m_law_alike 40)) (n_len : mg "len" = none) (n_tuple : mg "tuple" = none) (n_range : mg "range" = none) (n_max : mg "max" = none) {f : Addr} (cdv : Value) (A : Around) (outer : List PySem.Env) (s : Shared) (H : Hp) (E : XK) (hr : Room 53 (A.deeper (PyProof.Rows.envOfC "law" (defScope s_law) s.heap.objs.size f cdv))) : PSs (cxOf (L2.CX P w) P w K mg base ["_law_script", "_law_tape_here", "_law_contents_here", "_law_low", "_law_spans", "_law_due", "_law_before", "_law_after", "_law_counts", "_law_level", "_law_old", "_law_told", "_law_settlement"] "law" (defScope s_law) f cdv A outer s H E) (defBody s_law) (tS (cxOf (L2.CX P w) P w K mg base ["_law_script", "_law_tape_here", "_law_contents_here", "_law_low", "_law_spans", "_law_due", "_law_before", "_law_after", "_law_counts", "_law_level", "_law_old", "_law_told", "_law_settlement"] "law" (defScope s_law) f cdv A outer s H E) (fun c d _ H' => E c d H') ((mSeq (mSet 1 (mCall m_law_tape (mCons (mVar 0) mNil)))
    (mSeq (mSet 2 (mCall m_law_contents (mCons (mVar 1) (mCons (mC (.int 32)) mNil))))
    (mSeq (mSet 3 (mC (.int 0)))
    (mSeq (mIfS (mGB (mBin eqA (mCall m_law_draw (mCons (mVar 1) (mCons (mC (.int 8)) mNil))) (mC (.int 0)))) (mSeq (mSet 2 (mBin addA (mVar 2) (mCall m_law_large (mCons (mVar 1) (mCons (mC (.int 120)) mNil)))))
    (mSet 3 (mBin subA (mCa lenA (mCons (mVar 2) mNil)) (mC (.int 24))))) mNext)
    (mSeq (mSet 4 (mCall m_spans_of (mCons (mCa tupleA (mCons (mVar 2) mNil)) mNil)))
    (mSeq (mSet 5 (mLst mNil))
    (mSeq (mSet 6 (mCall m_settled_of (mCons (mCa tupleA (mCons (mSl (mVar 2) mNoPart (mPart (mVar 3))) mNil)) mNil)))
    (mSeq (mFor (mRng (mCons (mBin addA (mVar 3) (mC (.int 1))) (mCons (mBin addA (mCa lenA (mCons (mVar 2) mNil)) (mC (.int 1))) mNil))) (.one 7) (mSeq (mSet 8 (mCall m_settled_of (mCons (mCa tupleA (mCons (mSl (mVar 2) mNoPart (mPart (mVar 7))) mNil)) mNil)))
    (mSeq (mFor (mRng (mCons (mC (.int 1)) (mCons (mCa lenA (mCons (mVar 8) mNil)) mNil))) (.one 9) (mSeq (mSet 10 (mC (.int 0)))
    (mSeq (mIfS (mGB (mBin ltA (mVar 9) (mCa lenA (mCons (mVar 6) mNil)))) (mSet 10 (mBin ixA (mVar 6) (mVar 9))) mNext)
    (mSeq (mIfS (mOr (mGB (mBin ltA (mBin ixA (mVar 8) (mVar 9)) (mVar 10))) (mOr (mGB (mBin gtA (mBin ixA (mVar 8) (mVar 9)) (mBin addA (mVar 10) (mC (.int 1))))) (mGB (mBin gtA (mBin ixA (mVar 8) (mVar 9)) (mCa lenA (mCons (mBin ixA (mVar 4) (mVar 9)) mNil)))))) (mRet (mC (.bl false))) mNext)
    (mIfS (mGB (mBin gtA (mBin ixA (mVar 8) (mVar 9)) (mVar 10))) (mExpr (mBm appendA (mVar 5) (mCons (mBin addA (mTup (mCons (mVar 7) (mCons (mVar 9) mNil))) (mBin ixA (mBin ixA (mVar 4) (mVar 9)) (mVar 10))) mNil))) mNext)))))
    (mSet 6 (mVar 8)))))
    (mSeq (mSet 11 (mTupY m_settlements (mCons (mCa tupleA (mCons (mVar 2) mNil)) mNil)))
    (mSeq (mIfS (mGB (mBin geA (mCa lenA (mCons (mVar 11) mNil)) (mCa maxA (mCons (mC (.int 1)) (mCons (mCa lenA (mCons (mVar 2) mNil)) mNil))))) (mRet (mC (.bl false))) mNext)
    (mRet (mCall (m_law_alike 40) (mCons (mCa tupleA (mCons (mLc (mSrc (mVar 11)) (.one 12) [12] (mGB (mBin gtA (mBin ixA (mVar 12) (mC (.int 0))) (mVar 3))) (mVar 12)) mNil)) (mCons (mCa tupleA (mCons (mVar 5) mNil)) mNil)))))))))))))))) := (
    (mss_cons (ms_set sc_law.nd (me_call C_law_tape (hr.mono (by decide)) takesE (ma_cons (me_var 0) ma_nil)))
    (mss_cons (ms_set sc_law.nd (me_call C_law_contents (hr.mono (by decide)) takesE (ma_cons (me_var 1) (ma_cons me_int ma_nil))))
    (mss_cons (ms_set sc_law.nd me_int)
    (mss_cons (ms_if (mt_cmp (op_eqU (units_ok hr)) os_eq (me_call C_law_draw (hr.mono (by decide)) takesE (ma_cons (me_var 1) (ma_cons me_int ma_nil))) me_int) (mss_cons (ms_set sc_law.nd (me_bin op_addU os_add (me_var 2) (me_call C_law_large (hr.mono (by decide)) takesE (ma_cons (me_var 1) (ma_cons me_int ma_nil)))))
    (mss_one (ms_set sc_law.nd (me_bin op_sub os_sub (me_callB call_len cs_len PySem.boot_len n_len (ma_cons (me_var 2) ma_nil)) me_int)))) mss_nil)
    (mss_cons (ms_set sc_law.nd (me_call C_spans_of (hr.mono (by decide)) takesE (ma_cons (me_callTy call_tupleP cs_tuple (by decide +kernel) n_tuple (ma_cons (me_var 2) ma_nil)) ma_nil)))
    (mss_cons (ms_set sc_law.nd (me_lst ma_nil))
    (mss_cons (ms_set sc_law.nd (me_call C_settled_of (hr.mono (by decide)) takesE (ma_cons (me_callTy call_tupleP cs_tuple (by decide +kernel) n_tuple (ma_cons (me_slice (me_var 2) mo_none (mo_some (me_var 3))) ma_nil)) ma_nil)))
    (mss_cons (ms_for passesE (mi_range2 (x := "range") n_range (ma_cons (me_bin op_addU os_add (me_var 3) me_int) (ma_cons (me_bin op_addU os_add (me_callB call_len cs_len PySem.boot_len n_len (ma_cons (me_var 2) ma_nil)) me_int) ma_nil)) (hn := cons2)) (mg_one sc_law.nd) (mss_cons (ms_set sc_law.nd (me_call C_settled_of (hr.mono (by decide)) takesE (ma_cons (me_callTy call_tupleP cs_tuple (by decide +kernel) n_tuple (ma_cons (me_slice (me_var 2) mo_none (mo_some (me_var 7))) ma_nil)) ma_nil)))
    (mss_cons (ms_for passesE (mi_range2 (x := "range") n_range (ma_cons me_int (ma_cons (me_callB call_len cs_len PySem.boot_len n_len (ma_cons (me_var 8) ma_nil)) ma_nil)) (hn := cons2)) (mg_one sc_law.nd) (mss_cons (ms_set sc_law.nd me_int)
    (mss_cons (ms_if (mt_cmp op_ltU os_lt (me_var 9) (me_callB call_len cs_len PySem.boot_len n_len (ma_cons (me_var 6) ma_nil))) (mss_one (ms_set sc_law.nd (me_ix (me_var 6) (me_var 9)))) mss_nil)
    (mss_cons (ms_if (L2.PW.pt (mw_or (mt_cmp op_ltU os_lt (me_ix (me_var 8) (me_var 9)) (me_var 10)) (mw_or (mt_cmp op_gtU os_gt (me_ix (me_var 8) (me_var 9)) (me_bin op_addU os_add (me_var 10) me_int)) (mw_or1 (mt_cmp op_gtU os_gt (me_ix (me_var 8) (me_var 9)) (me_callB call_len cs_len PySem.boot_len n_len (ma_cons (me_ix (me_var 4) (me_var 9)) ma_nil))))))) (mss_one (ms_ret me_bl)) mss_nil)
    (mss_one (ms_if (mt_cmp op_gtU os_gt (me_ix (me_var 8) (me_var 9)) (me_var 10)) (mss_one (ms_expr (me_bm PySem.F.slot_list_append PySem.F.type_list_append mt_append ms_append (me_var 5) (ma_cons (me_bin op_addU os_add (me_tup (ma_cons (me_var 7) (ma_cons (me_var 9) ma_nil))) (me_ix (me_ix (me_var 4) (me_var 9)) (me_var 10))) ma_nil)))) mss_nil))))))
    (mss_one (ms_set sc_law.nd (me_var 8))))))
    (mss_cons (ms_set sc_law.nd (me_tupY C_settlements (hr.mono (by decide)) n_tuple (ma_cons (me_callTy call_tupleP cs_tuple (by decide +kernel) n_tuple (ma_cons (me_var 2) ma_nil)) ma_nil)))
    (mss_cons (ms_if (mt_cmp op_ge os_ge (me_callB call_len cs_len PySem.boot_len n_len (ma_cons (me_var 11) ma_nil)) (me_callB (call_maxU rfl) cs_max PyProof.Rows.boot_max n_max (ma_cons me_int (ma_cons (me_callB call_len cs_len PySem.boot_len n_len (ma_cons (me_var 2) ma_nil)) ma_nil)))) (mss_one (ms_ret me_bl)) mss_nil)
    (mss_one (ms_ret (me_call C_law_alike (hr.mono (by decide)) takesE (ma_cons (me_callTy call_tupleP cs_tuple (by decide +kernel) n_tuple (ma_cons (me_lc [("_law_settlement", 12)] sc_law.nd (mi_it (me_var 11)) (blkOk_by (N := ["_law_script", "_law_tape_here", "_law_contents_here", "_law_low", "_law_spans", "_law_due", "_law_before", "_law_after", "_law_counts", "_law_level", "_law_old", "_law_told", "_law_settlement"]) (sc := defScope s_law) (own := [("_law_settlement", 12)]) (by decide +kernel)) (fun _ _ _ _ _ => (mg_one sc_law.nd)) (fun _ _ _ _ _ => (mts_one (mt_cmp op_gtU os_gt (me_ix (me_var 12) me_int) (me_var 3)))) (fun _ _ _ _ _ => (me_var 12))) ma_nil)) (ma_cons (me_callTy call_tupleP cs_tuple (by decide +kernel) n_tuple (ma_cons (me_var 5) ma_nil)) ma_nil))))))))))))))))
end
theorem all_mk {P : Program} {w : World} {K : PySem.W.Frag} {h : Heap} {mg : Str → Option Value} {fa : Addr} (X : K.In h) (G : h.Ns mainGlobals mg) (hfa : mg "law" = some (.ref fa))
    {f1 : Addr} {od1 an1 : Option Addr} {sl1 : Array (Option Value)} {oc1 kV1 dc1 pm1 cd1 ct1 : Value} (a1 : PySem.W.nsIn K mainGlobals "_law_tape" = some (some (.ref f1))) (l1 : K.lookup f1 = some ⟨oc1, od1, .func (PySem.W.fnOf "_law_tape" "_law_tape" (defArgs s_law_tape) (defBody s_law_tape) (defScope s_law_tape) .none kV1 dc1 pm1 an1 cd1 ct1), sl1⟩) (e1 : PySem.W.codeIn K cd1 "_law_tape" = true) (k1 : PySem.W.keepIn K (.ref f1) = true)
    {f2 : Addr} {od2 an2 : Option Addr} {sl2 : Array (Option Value)} {oc2 kV2 dc2 pm2 cd2 ct2 : Value} (a2 : PySem.W.nsIn K mainGlobals "_law_draw" = some (some (.ref f2))) (l2 : K.lookup f2 = some ⟨oc2, od2, .func (PySem.W.fnOf "_law_draw" "_law_draw" (defArgs s_law_draw) (defBody s_law_draw) (defScope s_law_draw) .none kV2 dc2 pm2 an2 cd2 ct2), sl2⟩) (e2 : PySem.W.codeIn K cd2 "_law_draw" = true) (k2 : PySem.W.keepIn K (.ref f2) = true)
    {f3 : Addr} {od3 an3 : Option Addr} {sl3 : Array (Option Value)} {oc3 kV3 dc3 pm3 cd3 ct3 : Value} (a3 : PySem.W.nsIn K mainGlobals "_law_sign" = some (some (.ref f3))) (l3 : K.lookup f3 = some ⟨oc3, od3, .func (PySem.W.fnOf "_law_sign" "_law_sign" (defArgs s_law_sign) (defBody s_law_sign) (defScope s_law_sign) .none kV3 dc3 pm3 an3 cd3 ct3), sl3⟩) (e3 : PySem.W.codeIn K cd3 "_law_sign" = true) (k3 : PySem.W.keepIn K (.ref f3) = true)
    {f4 : Addr} {od4 an4 : Option Addr} {sl4 : Array (Option Value)} {oc4 kV4 dc4 pm4 cd4 ct4 : Value} (a4 : PySem.W.nsIn K mainGlobals "_law_word" = some (some (.ref f4))) (l4 : K.lookup f4 = some ⟨oc4, od4, .func (PySem.W.fnOf "_law_word" "_law_word" (defArgs s_law_word) (defBody s_law_word) (defScope s_law_word) .none kV4 dc4 pm4 an4 cd4 ct4), sl4⟩) (e4 : PySem.W.codeIn K cd4 "_law_word" = true) (k4 : PySem.W.keepIn K (.ref f4) = true)
    {f5 : Addr} {od5 an5 : Option Addr} {sl5 : Array (Option Value)} {oc5 kV5 dc5 pm5 cd5 ct5 : Value} (a5 : PySem.W.nsIn K mainGlobals "_law_scalar" = some (some (.ref f5))) (l5 : K.lookup f5 = some ⟨oc5, od5, .func (PySem.W.fnOf "_law_scalar" "_law_scalar" (defArgs s_law_scalar) (defBody s_law_scalar) (defScope s_law_scalar) .none kV5 dc5 pm5 an5 cd5 ct5), sl5⟩) (e5 : PySem.W.codeIn K cd5 "_law_scalar" = true) (k5 : PySem.W.keepIn K (.ref f5) = true)
    {f6 : Addr} {od6 an6 : Option Addr} {sl6 : Array (Option Value)} {oc6 kV6 dc6 pm6 cd6 ct6 : Value} (a6 : PySem.W.nsIn K mainGlobals "_law_element" = some (some (.ref f6))) (l6 : K.lookup f6 = some ⟨oc6, od6, .func (PySem.W.fnOf "_law_element" "_law_element" (defArgs s_law_element) (defBody s_law_element) (defScope s_law_element) .none kV6 dc6 pm6 an6 cd6 ct6), sl6⟩) (e6 : PySem.W.codeIn K cd6 "_law_element" = true) (k6 : PySem.W.keepIn K (.ref f6) = true)
    {f7 : Addr} {od7 an7 : Option Addr} {sl7 : Array (Option Value)} {oc7 kV7 dc7 pm7 cd7 ct7 : Value} (a7 : PySem.W.nsIn K mainGlobals "_law_contents" = some (some (.ref f7))) (l7 : K.lookup f7 = some ⟨oc7, od7, .func (PySem.W.fnOf "_law_contents" "_law_contents" (defArgs s_law_contents) (defBody s_law_contents) (defScope s_law_contents) .none kV7 dc7 pm7 an7 cd7 ct7), sl7⟩) (e7 : PySem.W.codeIn K cd7 "_law_contents" = true) (k7 : PySem.W.keepIn K (.ref f7) = true)
    {C_NodeTable : Addr} (c1_NodeTable : PySem.W.nsIn K mainGlobals "NodeTable" = some (some (.ref C_NodeTable)))
    (pg_NodeTable : PySem.W.plainGet K C_NodeTable Str.empty = true)
    (hd_NodeTable : PySem.W.hasDictIn K C_NodeTable = true)
    (po_NodeTable : PySem.W.plainOver K C_NodeTable = true)
    (sa_NodeTable : PySem.W.findIn K (.ref C_NodeTable) "__setattr__" = some (some (.builtin "object.__setattr__")))
    (mk_NodeTable : PySem.W.makesIn K C_NodeTable = true)
    (kp_NodeTable : PySem.W.keepIn K (.ref C_NodeTable) = true)
    {f8 : Addr} {od8 an8 : Option Addr} {sl8 : Array (Option Value)} {oc8 kV8 dc8 pm8 cd8 ct8 : Value} (a8 : PySem.W.findIn K (.ref C_NodeTable) "__init__" = some (some (.ref f8))) (l8 : K.lookup f8 = some ⟨oc8, od8, .func (PySem.W.fnOf "__init__" "NodeTable.__init__" (defArgs s_NodeTable___init__) (defBody s_NodeTable___init__) (defScope s_NodeTable___init__) .none kV8 dc8 pm8 an8 cd8 ct8), sl8⟩) (e8 : PySem.W.codeIn K cd8 "NodeTable.__init__" = true) (k8 : PySem.W.keepIn K (.ref f8) = true)
    (i8 : PySem.W.isFn K (.ref f8) = true)
    {f9 : Addr} {od9 an9 : Option Addr} {sl9 : Array (Option Value)} {oc9 kV9 dc9 pm9 cd9 ct9 : Value} (a9 : PySem.W.nsIn K mainGlobals "row_spans" = some (some (.ref f9))) (l9 : K.lookup f9 = some ⟨oc9, od9, .func (PySem.W.fnOf "row_spans" "row_spans" (defArgs s_row_spans) (defBody s_row_spans) (defScope s_row_spans) .none kV9 dc9 pm9 an9 cd9 ct9), sl9⟩) (e9 : PySem.W.codeIn K cd9 "row_spans" = true) (k9 : PySem.W.keepIn K (.ref f9) = true)
    {f10 : Addr} {od10 an10 : Option Addr} {sl10 : Array (Option Value)} {oc10 kV10 dc10 pm10 cd10 ct10 : Value} (a10 : PySem.W.nsIn K mainGlobals "digits_of" = some (some (.ref f10))) (l10 : K.lookup f10 = some ⟨oc10, od10, .func (PySem.W.fnOf "digits_of" "digits_of" (defArgs s_digits_of) (defBody s_digits_of) (defScope s_digits_of) .none kV10 dc10 pm10 an10 cd10 ct10), sl10⟩) (e10 : PySem.W.codeIn K cd10 "digits_of" = true) (k10 : PySem.W.keepIn K (.ref f10) = true)
    {f11 : Addr} {od11 an11 : Option Addr} {sl11 : Array (Option Value)} {oc11 kV11 dc11 pm11 cd11 ct11 : Value} (a11 : PySem.W.nsIn K mainGlobals "code_of" = some (some (.ref f11))) (l11 : K.lookup f11 = some ⟨oc11, od11, .func (PySem.W.fnOf "code_of" "code_of" (defArgs s_code_of) (defBody s_code_of) (defScope s_code_of) .none kV11 dc11 pm11 an11 cd11 ct11), sl11⟩) (e11 : PySem.W.codeIn K cd11 "code_of" = true) (k11 : PySem.W.keepIn K (.ref f11) = true)
    {f12 : Addr} {od12 an12 : Option Addr} {sl12 : Array (Option Value)} {oc12 kV12 dc12 pm12 cd12 ct12 : Value} (a12 : PySem.W.nsIn K mainGlobals "run_code" = some (some (.ref f12))) (l12 : K.lookup f12 = some ⟨oc12, od12, .func (PySem.W.fnOf "run_code" "run_code" (defArgs s_run_code) (defBody s_run_code) (defScope s_run_code) .none kV12 dc12 pm12 an12 cd12 ct12), sl12⟩) (e12 : PySem.W.codeIn K cd12 "run_code" = true) (k12 : PySem.W.keepIn K (.ref f12) = true)
    {f13 : Addr} {od13 an13 : Option Addr} {sl13 : Array (Option Value)} {oc13 kV13 dc13 pm13 cd13 ct13 : Value} (a13 : PySem.W.nsIn K mainGlobals "block_code" = some (some (.ref f13))) (l13 : K.lookup f13 = some ⟨oc13, od13, .func (PySem.W.fnOf "block_code" "block_code" (defArgs s_block_code) (defBody s_block_code) (defScope s_block_code) .none kV13 dc13 pm13 an13 cd13 ct13), sl13⟩) (e13 : PySem.W.codeIn K cd13 "block_code" = true) (k13 : PySem.W.keepIn K (.ref f13) = true)
    {f14 : Addr} {od14 an14 : Option Addr} {sl14 : Array (Option Value)} {oc14 kV14 dc14 pm14 cd14 ct14 : Value} (a14 : PySem.W.findIn K (.ref C_NodeTable) "measure" = some (some (.ref f14))) (l14 : K.lookup f14 = some ⟨oc14, od14, .func (PySem.W.fnOf "measure" "NodeTable.measure" (defArgs s_NodeTable_measure) (defBody s_NodeTable_measure) (defScope s_NodeTable_measure) .none kV14 dc14 pm14 an14 cd14 ct14), sl14⟩) (e14 : PySem.W.codeIn K cd14 "NodeTable.measure" = true) (k14 : PySem.W.keepIn K (.ref f14) = true)
    (i14 : PySem.W.isFn K (.ref f14) = true)
    {f15 : Addr} {od15 an15 : Option Addr} {sl15 : Array (Option Value)} {oc15 kV15 dc15 pm15 cd15 ct15 : Value} (a15 : PySem.W.findIn K (.ref C_NodeTable) "number_of" = some (some (.ref f15))) (l15 : K.lookup f15 = some ⟨oc15, od15, .func (PySem.W.fnOf "number_of" "NodeTable.number_of" (defArgs s_NodeTable_number_of) (defBody s_NodeTable_number_of) (defScope s_NodeTable_number_of) .none kV15 dc15 pm15 an15 cd15 ct15), sl15⟩) (e15 : PySem.W.codeIn K cd15 "NodeTable.number_of" = true) (k15 : PySem.W.keepIn K (.ref f15) = true)
    (i15 : PySem.W.isFn K (.ref f15) = true)
    {f16 : Addr} {od16 an16 : Option Addr} {sl16 : Array (Option Value)} {oc16 kV16 dc16 pm16 cd16 ct16 : Value} (a16 : PySem.W.nsIn K mainGlobals "leaf_row" = some (some (.ref f16))) (l16 : K.lookup f16 = some ⟨oc16, od16, .func (PySem.W.fnOf "leaf_row" "leaf_row" (defArgs s_leaf_row) (defBody s_leaf_row) (defScope s_leaf_row) .none kV16 dc16 pm16 an16 cd16 ct16), sl16⟩) (e16 : PySem.W.codeIn K cd16 "leaf_row" = true) (k16 : PySem.W.keepIn K (.ref f16) = true)
    {f17 : Addr} {od17 an17 : Option Addr} {sl17 : Array (Option Value)} {oc17 kV17 dc17 pm17 cd17 ct17 : Value} (a17 : PySem.W.findIn K (.ref C_NodeTable) "item_number" = some (some (.ref f17))) (l17 : K.lookup f17 = some ⟨oc17, od17, .func (PySem.W.fnOf "item_number" "NodeTable.item_number" (defArgs s_NodeTable_item_number) (defBody s_NodeTable_item_number) (defScope s_NodeTable_item_number) .none kV17 dc17 pm17 an17 cd17 ct17), sl17⟩) (e17 : PySem.W.codeIn K cd17 "NodeTable.item_number" = true) (k17 : PySem.W.keepIn K (.ref f17) = true)
    (i17 : PySem.W.isFn K (.ref f17) = true)
    {f18 : Addr} {od18 an18 : Option Addr} {sl18 : Array (Option Value)} {oc18 kV18 dc18 pm18 cd18 ct18 : Value} (a18 : PySem.W.nsIn K mainGlobals "groups_of" = some (some (.ref f18))) (l18 : K.lookup f18 = some ⟨oc18, od18, .func (PySem.W.fnOf "groups_of" "groups_of" (defArgs s_groups_of) (defBody s_groups_of) (defScope s_groups_of) .none kV18 dc18 pm18 an18 cd18 ct18), sl18⟩) (e18 : PySem.W.codeIn K cd18 "groups_of" = true) (k18 : PySem.W.keepIn K (.ref f18) = true)
    {f19 : Addr} {od19 an19 : Option Addr} {sl19 : Array (Option Value)} {oc19 kV19 dc19 pm19 cd19 ct19 : Value} (a19 : PySem.W.nsIn K mainGlobals "item_row" = some (some (.ref f19))) (l19 : K.lookup f19 = some ⟨oc19, od19, .func (PySem.W.fnOf "item_row" "item_row" (defArgs s_item_row) (defBody s_item_row) (defScope s_item_row) .none kV19 dc19 pm19 an19 cd19 ct19), sl19⟩) (e19 : PySem.W.codeIn K cd19 "item_row" = true) (k19 : PySem.W.keepIn K (.ref f19) = true)
    {f20 : Addr} {od20 an20 : Option Addr} {sl20 : Array (Option Value)} {oc20 kV20 dc20 pm20 cd20 ct20 : Value} (a20 : PySem.W.nsIn K mainGlobals "mix" = some (some (.ref f20))) (l20 : K.lookup f20 = some ⟨oc20, od20, .func (PySem.W.fnOf "mix" "mix" (defArgs s_mix) (defBody s_mix) (defScope s_mix) .none kV20 dc20 pm20 an20 cd20 ct20), sl20⟩) (e20 : PySem.W.codeIn K cd20 "mix" = true) (k20 : PySem.W.keepIn K (.ref f20) = true)
    {f21 : Addr} {od21 an21 : Option Addr} {sl21 : Array (Option Value)} {oc21 kV21 dc21 pm21 cd21 ct21 : Value} (a21 : PySem.W.nsIn K mainGlobals "one_round" = some (some (.ref f21))) (l21 : K.lookup f21 = some ⟨oc21, od21, .func (PySem.W.fnOf "one_round" "one_round" (defArgs s_one_round) (defBody s_one_round) (defScope s_one_round) .none kV21 dc21 pm21 an21 cd21 ct21), sl21⟩) (e21 : PySem.W.codeIn K cd21 "one_round" = true) (k21 : PySem.W.keepIn K (.ref f21) = true)
    {f22 : Addr} {od22 an22 : Option Addr} {sl22 : Array (Option Value)} {oc22 kV22 dc22 pm22 cd22 ct22 : Value} (a22 : PySem.W.nsIn K mainGlobals "colors_of_coins" = some (some (.ref f22))) (l22 : K.lookup f22 = some ⟨oc22, od22, .func (PySem.W.fnOf "colors_of_coins" "colors_of_coins" (defArgs s_colors_of_coins) (defBody s_colors_of_coins) (defScope s_colors_of_coins) .none kV22 dc22 pm22 an22 cd22 ct22), sl22⟩) (e22 : PySem.W.codeIn K cd22 "colors_of_coins" = true) (k22 : PySem.W.keepIn K (.ref f22) = true)
    {f23 : Addr} {od23 an23 : Option Addr} {sl23 : Array (Option Value)} {oc23 kV23 dc23 pm23 cd23 ct23 : Value} (a23 : PySem.W.nsIn K mainGlobals "first_difference" = some (some (.ref f23))) (l23 : K.lookup f23 = some ⟨oc23, od23, .func (PySem.W.fnOf "first_difference" "first_difference" (defArgs s_first_difference) (defBody s_first_difference) (defScope s_first_difference) .none kV23 dc23 pm23 an23 cd23 ct23), sl23⟩) (e23 : PySem.W.codeIn K cd23 "first_difference" = true) (k23 : PySem.W.keepIn K (.ref f23) = true)
    {f24 : Addr} {od24 an24 : Option Addr} {sl24 : Array (Option Value)} {oc24 kV24 dc24 pm24 cd24 ct24 : Value} (a24 : PySem.W.nsIn K mainGlobals "coin_after" = some (some (.ref f24))) (l24 : K.lookup f24 = some ⟨oc24, od24, .func (PySem.W.fnOf "coin_after" "coin_after" (defArgs s_coin_after) (defBody s_coin_after) (defScope s_coin_after) .none kV24 dc24 pm24 an24 cd24 ct24), sl24⟩) (e24 : PySem.W.codeIn K cd24 "coin_after" = true) (k24 : PySem.W.keepIn K (.ref f24) = true)
    {f25 : Addr} {od25 an25 : Option Addr} {sl25 : Array (Option Value)} {oc25 kV25 dc25 pm25 cd25 ct25 : Value} (a25 : PySem.W.nsIn K mainGlobals "coins_of_codes" = some (some (.ref f25))) (l25 : K.lookup f25 = some ⟨oc25, od25, .func (PySem.W.fnOf "coins_of_codes" "coins_of_codes" (defArgs s_coins_of_codes) (defBody s_coins_of_codes) (defScope s_coins_of_codes) .none kV25 dc25 pm25 an25 cd25 ct25), sl25⟩) (e25 : PySem.W.codeIn K cd25 "coins_of_codes" = true) (k25 : PySem.W.keepIn K (.ref f25) = true)
    {f26 : Addr} {od26 an26 : Option Addr} {sl26 : Array (Option Value)} {oc26 kV26 dc26 pm26 cd26 ct26 : Value} (a26 : PySem.W.nsIn K mainGlobals "color_row" = some (some (.ref f26))) (l26 : K.lookup f26 = some ⟨oc26, od26, .func (PySem.W.fnOf "color_row" "color_row" (defArgs s_color_row) (defBody s_color_row) (defScope s_color_row) .none kV26 dc26 pm26 an26 cd26 ct26), sl26⟩) (e26 : PySem.W.codeIn K cd26 "color_row" = true) (k26 : PySem.W.keepIn K (.ref f26) = true)
    {f27 : Addr} {od27 an27 : Option Addr} {sl27 : Array (Option Value)} {oc27 kV27 dc27 pm27 cd27 ct27 : Value} (a27 : PySem.W.nsIn K mainGlobals "is_peak" = some (some (.ref f27))) (l27 : K.lookup f27 = some ⟨oc27, od27, .func (PySem.W.fnOf "is_peak" "is_peak" (defArgs s_is_peak) (defBody s_is_peak) (defScope s_is_peak) .none kV27 dc27 pm27 an27 cd27 ct27), sl27⟩) (e27 : PySem.W.codeIn K cd27 "is_peak" = true) (k27 : PySem.W.keepIn K (.ref f27) = true)
    {f28 : Addr} {od28 an28 : Option Addr} {sl28 : Array (Option Value)} {oc28 kV28 dc28 pm28 cd28 ct28 : Value} (a28 : PySem.W.nsIn K mainGlobals "starts_of" = some (some (.ref f28))) (l28 : K.lookup f28 = some ⟨oc28, od28, .func (PySem.W.fnOf "starts_of" "starts_of" (defArgs s_starts_of) (defBody s_starts_of) (defScope s_starts_of) .none kV28 dc28 pm28 an28 cd28 ct28), sl28⟩) (e28 : PySem.W.codeIn K cd28 "starts_of" = true) (k28 : PySem.W.keepIn K (.ref f28) = true)
    {f29 : Addr} {od29 an29 : Option Addr} {sl29 : Array (Option Value)} {oc29 kV29 dc29 pm29 cd29 ct29 : Value} (a29 : PySem.W.nsIn K mainGlobals "cut" = some (some (.ref f29))) (l29 : K.lookup f29 = some ⟨oc29, od29, .func (PySem.W.fnOf "cut" "cut" (defArgs s_cut) (defBody s_cut) (defScope s_cut) .none kV29 dc29 pm29 an29 cd29 ct29), sl29⟩) (e29 : PySem.W.codeIn K cd29 "cut" = true) (k29 : PySem.W.keepIn K (.ref f29) = true)
    {f30 : Addr} {od30 an30 : Option Addr} {sl30 : Array (Option Value)} {oc30 kV30 dc30 pm30 cd30 ct30 : Value} (a30 : PySem.W.nsIn K mainGlobals "grow" = some (some (.ref f30))) (l30 : K.lookup f30 = some ⟨oc30, od30, .func (PySem.W.fnOf "grow" "grow" (defArgs s_grow) (defBody s_grow) (defScope s_grow) .none kV30 dc30 pm30 an30 cd30 ct30), sl30⟩) (e30 : PySem.W.codeIn K cd30 "grow" = true) (k30 : PySem.W.keepIn K (.ref f30) = true)
    {f31 : Addr} {od31 an31 : Option Addr} {sl31 : Array (Option Value)} {oc31 kV31 dc31 pm31 cd31 ct31 : Value} (a31 : PySem.W.nsIn K mainGlobals "spans_of" = some (some (.ref f31))) (l31 : K.lookup f31 = some ⟨oc31, od31, .func (PySem.W.fnOf "spans_of" "spans_of" (defArgs s_spans_of) (defBody s_spans_of) (defScope s_spans_of) .none kV31 dc31 pm31 an31 cd31 ct31), sl31⟩) (e31 : PySem.W.codeIn K cd31 "spans_of" = true) (k31 : PySem.W.keepIn K (.ref f31) = true)
    {C_Growth : Addr} (c1_Growth : PySem.W.nsIn K mainGlobals "Growth" = some (some (.ref C_Growth)))
    (pg_Growth : PySem.W.plainGet K C_Growth Str.empty = true)
    (hd_Growth : PySem.W.hasDictIn K C_Growth = true)
    (po_Growth : PySem.W.plainOver K C_Growth = true)
    (sa_Growth : PySem.W.findIn K (.ref C_Growth) "__setattr__" = some (some (.builtin "object.__setattr__")))
    (mk_Growth : PySem.W.makesIn K C_Growth = true)
    (kp_Growth : PySem.W.keepIn K (.ref C_Growth) = true)
    {f32 : Addr} {od32 an32 : Option Addr} {sl32 : Array (Option Value)} {oc32 kV32 dc32 pm32 cd32 ct32 : Value} (a32 : PySem.W.findIn K (.ref C_Growth) "settled_counts" = some (some (.ref f32))) (l32 : K.lookup f32 = some ⟨oc32, od32, .func (PySem.W.fnOf "settled_counts" "Growth.settled_counts" (defArgs s_Growth_settled_counts) (defBody s_Growth_settled_counts) (defScope s_Growth_settled_counts) .none kV32 dc32 pm32 an32 cd32 ct32), sl32⟩) (e32 : PySem.W.codeIn K cd32 "Growth.settled_counts" = true) (k32 : PySem.W.keepIn K (.ref f32) = true)
    (i32 : PySem.W.isFn K (.ref f32) = true)
    {f33 : Addr} {od33 an33 : Option Addr} {sl33 : Array (Option Value)} {oc33 kV33 dc33 pm33 cd33 ct33 : Value} (a33 : PySem.W.findIn K (.ref C_Growth) "__init__" = some (some (.ref f33))) (l33 : K.lookup f33 = some ⟨oc33, od33, .func (PySem.W.fnOf "__init__" "Growth.__init__" (defArgs s_Growth___init__) (defBody s_Growth___init__) (defScope s_Growth___init__) .none kV33 dc33 pm33 an33 cd33 ct33), sl33⟩) (e33 : PySem.W.codeIn K cd33 "Growth.__init__" = true) (k33 : PySem.W.keepIn K (.ref f33) = true)
    (i33 : PySem.W.isFn K (.ref f33) = true)
    {C_Layer : Addr} (c1_Layer : PySem.W.nsIn K mainGlobals "Layer" = some (some (.ref C_Layer)))
    (pg_Layer : PySem.W.plainGet K C_Layer Str.empty = true)
    (hd_Layer : PySem.W.hasDictIn K C_Layer = true)
    (po_Layer : PySem.W.plainOver K C_Layer = true)
    (sa_Layer : PySem.W.findIn K (.ref C_Layer) "__setattr__" = some (some (.builtin "object.__setattr__")))
    (mk_Layer : PySem.W.makesIn K C_Layer = true)
    (kp_Layer : PySem.W.keepIn K (.ref C_Layer) = true)
    {f34 : Addr} {od34 an34 : Option Addr} {sl34 : Array (Option Value)} {oc34 kV34 dc34 pm34 cd34 ct34 : Value} (a34 : PySem.W.findIn K (.ref C_Layer) "next_block" = some (some (.ref f34))) (l34 : K.lookup f34 = some ⟨oc34, od34, .func (PySem.W.fnOf "next_block" "Layer.next_block" (defArgs s_Layer_next_block) (defBody s_Layer_next_block) (defScope s_Layer_next_block) .none kV34 dc34 pm34 an34 cd34 ct34), sl34⟩) (e34 : PySem.W.codeIn K cd34 "Layer.next_block" = true) (k34 : PySem.W.keepIn K (.ref f34) = true)
    (i34 : PySem.W.isFn K (.ref f34) = true)
    {f35 : Addr} {od35 an35 : Option Addr} {sl35 : Array (Option Value)} {oc35 kV35 dc35 pm35 cd35 ct35 : Value} (a35 : PySem.W.nsIn K mainGlobals "trail_after" = some (some (.ref f35))) (l35 : K.lookup f35 = some ⟨oc35, od35, .func (PySem.W.fnOf "trail_after" "trail_after" (defArgs s_trail_after) (defBody s_trail_after) (defScope s_trail_after) .none kV35 dc35 pm35 an35 cd35 ct35), sl35⟩) (e35 : PySem.W.codeIn K cd35 "trail_after" = true) (k35 : PySem.W.keepIn K (.ref f35) = true)
    {f36 : Addr} {od36 an36 : Option Addr} {sl36 : Array (Option Value)} {oc36 kV36 dc36 pm36 cd36 ct36 : Value} (a36 : PySem.W.findIn K (.ref C_Layer) "close_item" = some (some (.ref f36))) (l36 : K.lookup f36 = some ⟨oc36, od36, .func (PySem.W.fnOf "close_item" "Layer.close_item" (defArgs s_Layer_close_item) (defBody s_Layer_close_item) (defScope s_Layer_close_item) .none kV36 dc36 pm36 an36 cd36 ct36), sl36⟩) (e36 : PySem.W.codeIn K cd36 "Layer.close_item" = true) (k36 : PySem.W.keepIn K (.ref f36) = true)
    (i36 : PySem.W.isFn K (.ref f36) = true)
    {f37 : Addr} {od37 an37 : Option Addr} {sl37 : Array (Option Value)} {oc37 kV37 dc37 pm37 cd37 ct37 : Value} (a37 : PySem.W.findIn K (.ref C_Layer) "add_node" = some (some (.ref f37))) (l37 : K.lookup f37 = some ⟨oc37, od37, .func (PySem.W.fnOf "add_node" "Layer.add_node" (defArgs s_Layer_add_node) (defBody s_Layer_add_node) (defScope s_Layer_add_node) .none kV37 dc37 pm37 an37 cd37 ct37), sl37⟩) (e37 : PySem.W.codeIn K cd37 "Layer.add_node" = true) (k37 : PySem.W.keepIn K (.ref f37) = true)
    (i37 : PySem.W.isFn K (.ref f37) = true)
    {f38 : Addr} {od38 an38 : Option Addr} {sl38 : Array (Option Value)} {oc38 kV38 dc38 pm38 cd38 ct38 : Value} (a38 : PySem.W.findIn K (.ref C_Layer) "__init__" = some (some (.ref f38))) (l38 : K.lookup f38 = some ⟨oc38, od38, .func (PySem.W.fnOf "__init__" "Layer.__init__" (defArgs s_Layer___init__) (defBody s_Layer___init__) (defScope s_Layer___init__) .none kV38 dc38 pm38 an38 cd38 ct38), sl38⟩) (e38 : PySem.W.codeIn K cd38 "Layer.__init__" = true) (k38 : PySem.W.keepIn K (.ref f38) = true)
    (i38 : PySem.W.isFn K (.ref f38) = true)
    {f39 : Addr} {od39 an39 : Option Addr} {sl39 : Array (Option Value)} {oc39 kV39 dc39 pm39 cd39 ct39 : Value} (a39 : PySem.W.findIn K (.ref C_Growth) "add_element" = some (some (.ref f39))) (l39 : K.lookup f39 = some ⟨oc39, od39, .func (PySem.W.fnOf "add_element" "Growth.add_element" (defArgs s_Growth_add_element) (defBody s_Growth_add_element) (defScope s_Growth_add_element) .none kV39 dc39 pm39 an39 cd39 ct39), sl39⟩) (e39 : PySem.W.codeIn K cd39 "Growth.add_element" = true) (k39 : PySem.W.keepIn K (.ref f39) = true)
    (i39 : PySem.W.isFn K (.ref f39) = true)
    {f40 : Addr} {od40 an40 : Option Addr} {sl40 : Array (Option Value)} {oc40 kV40 dc40 pm40 cd40 ct40 : Value} (a40 : PySem.W.nsIn K mainGlobals "settled_of" = some (some (.ref f40))) (l40 : K.lookup f40 = some ⟨oc40, od40, .func (PySem.W.fnOf "settled_of" "settled_of" (defArgs s_settled_of) (defBody s_settled_of) (defScope s_settled_of) .none kV40 dc40 pm40 an40 cd40 ct40), sl40⟩) (e40 : PySem.W.codeIn K cd40 "settled_of" = true) (k40 : PySem.W.keepIn K (.ref f40) = true)
    {f41 : Addr} {od41 an41 : Option Addr} {sl41 : Array (Option Value)} {oc41 kV41 dc41 pm41 cd41 ct41 : Value} (a41 : PySem.W.nsIn K mainGlobals "_law_alike" = some (some (.ref f41))) (l41 : K.lookup f41 = some ⟨oc41, od41, .func (PySem.W.fnOf "_law_alike" "_law_alike" (defArgs s_law_alike) (defBody s_law_alike) (defScope s_law_alike) .none kV41 dc41 pm41 an41 cd41 ct41), sl41⟩) (e41 : PySem.W.codeIn K cd41 "_law_alike" = true) (k41 : PySem.W.keepIn K (.ref f41) = true)
    {f42 : Addr} {od42 an42 : Option Addr} {sl42 : Array (Option Value)} {oc42 kV42 dc42 pm42 cd42 ct42 : Value} (a42 : PySem.W.nsIn K mainGlobals "settlements" = some (some (.ref f42))) (l42 : K.lookup f42 = some ⟨oc42, od42, .func (PySem.W.fnOf "settlements" "settlements" (defArgs s_settlements) (defBody s_settlements) (defScope s_settlements) .none kV42 dc42 pm42 an42 cd42 ct42), sl42⟩) (e42 : PySem.W.codeIn K cd42 "settlements" = true) (k42 : PySem.W.keepIn K (.ref f42) = true)
    {f43 : Addr} {od43 an43 : Option Addr} {sl43 : Array (Option Value)} {oc43 kV43 dc43 pm43 cd43 ct43 : Value} (a43 : PySem.W.nsIn K mainGlobals "_law_large" = some (some (.ref f43))) (l43 : K.lookup f43 = some ⟨oc43, od43, .func (PySem.W.fnOf "_law_large" "_law_large" (defArgs s_law_large) (defBody s_law_large) (defScope s_law_large) .none kV43 dc43 pm43 an43 cd43 ct43), sl43⟩) (e43 : PySem.W.codeIn K cd43 "_law_large" = true) (k43 : PySem.W.keepIn K (.ref f43) = true)
    {f44 : Addr} {od44 an44 : Option Addr} {sl44 : Array (Option Value)} {oc44 kV44 dc44 pm44 cd44 ct44 : Value} (a44 : PySem.W.nsIn K mainGlobals "law" = some (some (.ref f44))) (l44 : K.lookup f44 = some ⟨oc44, od44, .func (PySem.W.fnOf "law" "law" (defArgs s_law) (defBody s_law) (defScope s_law) .none kV44 dc44 pm44 an44 cd44 ct44), sl44⟩) (e44 : PySem.W.codeIn K cd44 "law" = true) (k44 : PySem.W.keepIn K (.ref f44) = true)
    (z_int : PySem.W.nsIn K mainGlobals "int" = some none)
    (z_abs : PySem.W.nsIn K mainGlobals "abs" = some none)
    (z_list : PySem.W.nsIn K mainGlobals "list" = some none)
    (z_len : PySem.W.nsIn K mainGlobals "len" = some none)
    (z_max : PySem.W.nsIn K mainGlobals "max" = some none)
    (z_range : PySem.W.nsIn K mainGlobals "range" = some none)
    (nf_NodeTable_numbers : PySem.W.findIn K (.ref C_NodeTable) "numbers" = some none)
    (nf_NodeTable_entries : PySem.W.findIn K (.ref C_NodeTable) "entries" = some none)
    (nf_NodeTable_codes : PySem.W.findIn K (.ref C_NodeTable) "codes" = some none)
    (nf_NodeTable_sizes : PySem.W.findIn K (.ref C_NodeTable) "sizes" = some none)
    (z_tuple : PySem.W.nsIn K mainGlobals "tuple" = some none)
    {u_DIGIT : Tok} (z_DIGIT : PySem.W.nsIn K mainGlobals "DIGIT" = some (some (.int 65536 u_DIGIT)))
    (z_isinstance : PySem.W.nsIn K mainGlobals "isinstance" = some none)
    (z_str : PySem.W.nsIn K mainGlobals "str" = some none)
    (z_ord : PySem.W.nsIn K mainGlobals "ord" = some none)
    (z_sum : PySem.W.nsIn K mainGlobals "sum" = some none)
    (z_zip : PySem.W.nsIn K mainGlobals "zip" = some none)
    {u_ROUNDS : Tok} (z_ROUNDS : PySem.W.nsIn K mainGlobals "ROUNDS" = some (some (.int 4 u_ROUNDS)))
    (nf_Growth_layers : PySem.W.findIn K (.ref C_Growth) "layers" = some none)
    (nf_Layer_count : PySem.W.findIn K (.ref C_Layer) "count" = some none)
    (nf_Growth_table : PySem.W.findIn K (.ref C_Growth) "table" = some none)
    (nf_Layer_row : PySem.W.findIn K (.ref C_Layer) "row" = some none)
    {u_BEHIND : Tok} (z_BEHIND : PySem.W.nsIn K mainGlobals "BEHIND" = some (some (.int 3 u_BEHIND)))
    (nf_Layer_colors : PySem.W.findIn K (.ref C_Layer) "colors" = some none)
    (nf_Layer_start : PySem.W.findIn K (.ref C_Layer) "start" = some none)
    (nf_Layer_times : PySem.W.findIn K (.ref C_Layer) "times" = some none)
    (nf_Layer_node : PySem.W.findIn K (.ref C_Layer) "node" = some none)
    (nf_Layer_trail : PySem.W.findIn K (.ref C_Layer) "trail" = some none)
    (nf_Layer_end : PySem.W.findIn K (.ref C_Layer) "end" = some none)
    (z_bool : PySem.W.nsIn K mainGlobals "bool" = some none)
    (z_enumerate : PySem.W.nsIn K mainGlobals "enumerate" = some none) :
    ∃ fd : FuncData, (∀ (s : Shared) (v : Value), BindsTo s fd ⟨[v], []⟩ [("_law_script", v)]) ∧ ∀ base : Heap, K.In base → base.Ns mainGlobals mg → FnOk P w K mg base (L2.CX P w) 54 fa fd ["_law_script"] (spM K w mg m_law) := by
  have F1 := fun_mk (st := s_law_tape) l1 e1 k1
  have b1 := F1.binds (ps := ["_law_script"]) fun _ _ _ _ _ _ us hl => match us, hl with | [_], _ => rfl
  have G_law_tape : GF K mg "_law_tape" s_law_tape ["_law_script"] := ⟨_, _, PySem.W.mg_of X G a1, F1, b1⟩
  have F2 := fun_mk (st := s_law_draw) l2 e2 k2
  have b2 := F2.binds (ps := ["_law_tape_here", "_law_many"]) fun _ _ _ _ _ _ us hl => match us, hl with | [_, _], _ => rfl
  have G_law_draw : GF K mg "_law_draw" s_law_draw ["_law_tape_here", "_law_many"] := ⟨_, _, PySem.W.mg_of X G a2, F2, b2⟩
  have F3 := fun_mk (st := s_law_sign) l3 e3 k3
  have b3 := F3.binds (ps := ["_law_tape_here"]) fun _ _ _ _ _ _ us hl => match us, hl with | [_], _ => rfl
  have G_law_sign : GF K mg "_law_sign" s_law_sign ["_law_tape_here"] := ⟨_, _, PySem.W.mg_of X G a3, F3, b3⟩
  have F4 := fun_mk (st := s_law_word) l4 e4 k4
  have b4 := F4.binds (ps := ["_law_tape_here"]) fun _ _ _ _ _ _ us hl => match us, hl with | [_], _ => rfl
  have G_law_word : GF K mg "_law_word" s_law_word ["_law_tape_here"] := ⟨_, _, PySem.W.mg_of X G a4, F4, b4⟩
  have F5 := fun_mk (st := s_law_scalar) l5 e5 k5
  have b5 := F5.binds (ps := ["_law_tape_here"]) fun _ _ _ _ _ _ us hl => match us, hl with | [_], _ => rfl
  have G_law_scalar : GF K mg "_law_scalar" s_law_scalar ["_law_tape_here"] := ⟨_, _, PySem.W.mg_of X G a5, F5, b5⟩
  have F6 := fun_mk (st := s_law_element) l6 e6 k6
  have b6 := F6.binds (ps := ["_law_tape_here"]) fun _ _ _ _ _ _ us hl => match us, hl with | [_], _ => rfl
  have G_law_element : GF K mg "_law_element" s_law_element ["_law_tape_here"] := ⟨_, _, PySem.W.mg_of X G a6, F6, b6⟩
  have F7 := fun_mk (st := s_law_contents) l7 e7 k7
  have b7 := F7.binds (ps := ["_law_tape_here", "_law_most"]) fun _ _ _ _ _ _ us hl => match us, hl with | [_, _], _ => rfl
  have G_law_contents : GF K mg "_law_contents" s_law_contents ["_law_tape_here", "_law_most"] := ⟨_, _, PySem.W.mg_of X G a7, F7, b7⟩
  have F8 := fun_mk (st := s_NodeTable___init__) l8 e8 k8
  have b8 := F8.binds (ps := ["self"]) fun _ _ _ _ _ _ us hl => match us, hl with | [_], _ => rfl
  have G_NodeTable___init__ : GI K mg "NodeTable" "NodeTable.__init__" s_NodeTable___init__ ["self"] := ⟨_, _, _, PySem.W.mg_of X G c1_NodeTable, ⟨mk_NodeTable, a8, i8, kp_NodeTable⟩, F8, b8⟩
  have F9 := fun_mk (st := s_row_spans) l9 e9 k9
  have b9 := F9.binds (ps := ["table", "row", "start"]) fun _ _ _ _ _ _ us hl => match us, hl with | [_, _, _], _ => rfl
  have G_row_spans : GF K mg "row_spans" s_row_spans ["table", "row", "start"] := ⟨_, _, PySem.W.mg_of X G a9, F9, b9⟩
  have F10 := fun_mk (st := s_digits_of) l10 e10 k10
  have b10 := F10.binds (ps := ["number", "count"]) fun _ _ _ _ _ _ us hl => match us, hl with | [_, _], _ => rfl
  have G_digits_of : GF K mg "digits_of" s_digits_of ["number", "count"] := ⟨_, _, PySem.W.mg_of X G a10, F10, b10⟩
  have F11 := fun_mk (st := s_code_of) l11 e11 k11
  have b11 := F11.binds (ps := ["element"]) fun _ _ _ _ _ _ us hl => match us, hl with | [_], _ => rfl
  have G_code_of : GF K mg "code_of" s_code_of ["element"] := ⟨_, _, PySem.W.mg_of X G a11, F11, b11⟩
  have F12 := fun_mk (st := s_run_code) l12 e12 k12
  have b12 := F12.binds (ps := ["times", "child_code"]) fun _ _ _ _ _ _ us hl => match us, hl with | [_, _], _ => rfl
  have G_run_code : GF K mg "run_code" s_run_code ["times", "child_code"] := ⟨_, _, PySem.W.mg_of X G a12, F12, b12⟩
  have F13 := fun_mk (st := s_block_code) l13 e13 k13
  have b13 := F13.binds (ps := ["child_codes"]) fun _ _ _ _ _ _ us hl => match us, hl with | [_], _ => rfl
  have G_block_code : GF K mg "block_code" s_block_code ["child_codes"] := ⟨_, _, PySem.W.mg_of X G a13, F13, b13⟩
  have F14 := fun_mk (st := s_NodeTable_measure) l14 e14 k14
  have b14 := F14.binds (ps := ["self", "entry"]) fun _ _ _ _ _ _ us hl => match us, hl with | [_, _], _ => rfl
  have G_NodeTable_measure : GM K mg "NodeTable" "measure" "NodeTable.measure" s_NodeTable_measure ["self", "entry"] := ⟨_, _, _, PySem.W.mg_of X G c1_NodeTable, ⟨pg_NodeTable, hd_NodeTable, po_NodeTable, sa_NodeTable⟩, ⟨a14, i14, k14⟩, F14, b14⟩
  have F15 := fun_mk (st := s_NodeTable_number_of) l15 e15 k15
  have b15 := F15.binds (ps := ["self", "entry"]) fun _ _ _ _ _ _ us hl => match us, hl with | [_, _], _ => rfl
  have G_NodeTable_number_of : GM K mg "NodeTable" "number_of" "NodeTable.number_of" s_NodeTable_number_of ["self", "entry"] := ⟨_, _, _, PySem.W.mg_of X G c1_NodeTable, ⟨pg_NodeTable, hd_NodeTable, po_NodeTable, sa_NodeTable⟩, ⟨a15, i15, k15⟩, F15, b15⟩
  have F16 := fun_mk (st := s_leaf_row) l16 e16 k16
  have b16 := F16.binds (ps := ["table", "contents"]) fun _ _ _ _ _ _ us hl => match us, hl with | [_, _], _ => rfl
  have G_leaf_row : GF K mg "leaf_row" s_leaf_row ["table", "contents"] := ⟨_, _, PySem.W.mg_of X G a16, F16, b16⟩
  have F17 := fun_mk (st := s_NodeTable_item_number) l17 e17 k17
  have b17 := F17.binds (ps := ["self", "number", "times"]) fun _ _ _ _ _ _ us hl => match us, hl with | [_, _, _], _ => rfl
  have G_NodeTable_item_number : GM K mg "NodeTable" "item_number" "NodeTable.item_number" s_NodeTable_item_number ["self", "number", "times"] := ⟨_, _, _, PySem.W.mg_of X G c1_NodeTable, ⟨pg_NodeTable, hd_NodeTable, po_NodeTable, sa_NodeTable⟩, ⟨a17, i17, k17⟩, F17, b17⟩
  have F18 := fun_mk (st := s_groups_of) l18 e18 k18
  have b18 := F18.binds (ps := ["row"]) fun _ _ _ _ _ _ us hl => match us, hl with | [_], _ => rfl
  have G_groups_of : GF K mg "groups_of" s_groups_of ["row"] := ⟨_, _, PySem.W.mg_of X G a18, F18, b18⟩
  have F19 := fun_mk (st := s_item_row) l19 e19 k19
  have b19 := F19.binds (ps := ["table", "row"]) fun _ _ _ _ _ _ us hl => match us, hl with | [_, _], _ => rfl
  have G_item_row : GF K mg "item_row" s_item_row ["table", "row"] := ⟨_, _, PySem.W.mg_of X G a19, F19, b19⟩
  have F20 := fun_mk (st := s_mix) l20 e20 k20
  have b20 := F20.binds (ps := ["a", "b"]) fun _ _ _ _ _ _ us hl => match us, hl with | [_, _], _ => rfl
  have G_mix : GF K mg "mix" s_mix ["a", "b"] := ⟨_, _, PySem.W.mg_of X G a20, F20, b20⟩
  have F21 := fun_mk (st := s_one_round) l21 e21 k21
  have b21 := F21.binds (ps := ["numbers"]) fun _ _ _ _ _ _ us hl => match us, hl with | [_], _ => rfl
  have G_one_round : GF K mg "one_round" s_one_round ["numbers"] := ⟨_, _, PySem.W.mg_of X G a21, F21, b21⟩
  have F22 := fun_mk (st := s_colors_of_coins) l22 e22 k22
  have b22 := F22.binds (ps := ["coins"]) fun _ _ _ _ _ _ us hl => match us, hl with | [_], _ => rfl
  have G_colors_of_coins : GF K mg "colors_of_coins" s_colors_of_coins ["coins"] := ⟨_, _, PySem.W.mg_of X G a22, F22, b22⟩
  have F23 := fun_mk (st := s_first_difference) l23 e23 k23
  have b23 := F23.binds (ps := ["before", "code"]) fun _ _ _ _ _ _ us hl => match us, hl with | [_, _], _ => rfl
  have G_first_difference : GF K mg "first_difference" s_first_difference ["before", "code"] := ⟨_, _, PySem.W.mg_of X G a23, F23, b23⟩
  have F24 := fun_mk (st := s_coin_after) l24 e24 k24
  have b24 := F24.binds (ps := ["before", "code"]) fun _ _ _ _ _ _ us hl => match us, hl with | [_, _], _ => rfl
  have G_coin_after : GF K mg "coin_after" s_coin_after ["before", "code"] := ⟨_, _, PySem.W.mg_of X G a24, F24, b24⟩
  have F25 := fun_mk (st := s_coins_of_codes) l25 e25 k25
  have b25 := F25.binds (ps := ["codes"]) fun _ _ _ _ _ _ us hl => match us, hl with | [_], _ => rfl
  have G_coins_of_codes : GF K mg "coins_of_codes" s_coins_of_codes ["codes"] := ⟨_, _, PySem.W.mg_of X G a25, F25, b25⟩
  have F26 := fun_mk (st := s_color_row) l26 e26 k26
  have b26 := F26.binds (ps := ["table", "items"]) fun _ _ _ _ _ _ us hl => match us, hl with | [_, _], _ => rfl
  have G_color_row : GF K mg "color_row" s_color_row ["table", "items"] := ⟨_, _, PySem.W.mg_of X G a26, F26, b26⟩
  have F27 := fun_mk (st := s_is_peak) l27 e27 k27
  have b27 := F27.binds (ps := ["colors", "place"]) fun _ _ _ _ _ _ us hl => match us, hl with | [_, _], _ => rfl
  have G_is_peak : GF K mg "is_peak" s_is_peak ["colors", "place"] := ⟨_, _, PySem.W.mg_of X G a27, F27, b27⟩
  have F28 := fun_mk (st := s_starts_of) l28 e28 k28
  have b28 := F28.binds (ps := ["colors"]) fun _ _ _ _ _ _ us hl => match us, hl with | [_], _ => rfl
  have G_starts_of : GF K mg "starts_of" s_starts_of ["colors"] := ⟨_, _, PySem.W.mg_of X G a28, F28, b28⟩
  have F29 := fun_mk (st := s_cut) l29 e29 k29
  have b29 := F29.binds (ps := ["items", "starts"]) fun _ _ _ _ _ _ us hl => match us, hl with | [_, _], _ => rfl
  have G_cut : GF K mg "cut" s_cut ["items", "starts"] := ⟨_, _, PySem.W.mg_of X G a29, F29, b29⟩
  have F30 := fun_mk (st := s_grow) l30 e30 k30
  have b30 := F30.binds (ps := ["table", "contents"]) fun _ _ _ _ _ _ us hl => match us, hl with | [_, _], _ => rfl
  have G_grow : GF K mg "grow" s_grow ["table", "contents"] := ⟨_, _, PySem.W.mg_of X G a30, F30, b30⟩
  have F31 := fun_mk (st := s_spans_of) l31 e31 k31
  have b31 := F31.binds (ps := ["contents"]) fun _ _ _ _ _ _ us hl => match us, hl with | [_], _ => rfl
  have G_spans_of : GF K mg "spans_of" s_spans_of ["contents"] := ⟨_, _, PySem.W.mg_of X G a31, F31, b31⟩
  have F32 := fun_mk (st := s_Growth_settled_counts) l32 e32 k32
  have b32 := F32.binds (ps := ["self"]) fun _ _ _ _ _ _ us hl => match us, hl with | [_], _ => rfl
  have G_Growth_settled_counts : GM K mg "Growth" "settled_counts" "Growth.settled_counts" s_Growth_settled_counts ["self"] := ⟨_, _, _, PySem.W.mg_of X G c1_Growth, ⟨pg_Growth, hd_Growth, po_Growth, sa_Growth⟩, ⟨a32, i32, k32⟩, F32, b32⟩
  have F33 := fun_mk (st := s_Growth___init__) l33 e33 k33
  have b33 := F33.binds (ps := ["self"]) fun _ _ _ _ _ _ us hl => match us, hl with | [_], _ => rfl
  have G_Growth___init__ : GI K mg "Growth" "Growth.__init__" s_Growth___init__ ["self"] := ⟨_, _, _, PySem.W.mg_of X G c1_Growth, ⟨mk_Growth, a33, i33, kp_Growth⟩, F33, b33⟩
  have F34 := fun_mk (st := s_Layer_next_block) l34 e34 k34
  have b34 := F34.binds (ps := ["self"]) fun _ _ _ _ _ _ us hl => match us, hl with | [_], _ => rfl
  have G_Layer_next_block : GM K mg "Layer" "next_block" "Layer.next_block" s_Layer_next_block ["self"] := ⟨_, _, _, PySem.W.mg_of X G c1_Layer, ⟨pg_Layer, hd_Layer, po_Layer, sa_Layer⟩, ⟨a34, i34, k34⟩, F34, b34⟩
  have F35 := fun_mk (st := s_trail_after) l35 e35 k35
  have b35 := F35.binds (ps := ["before", "coin"]) fun _ _ _ _ _ _ us hl => match us, hl with | [_, _], _ => rfl
  have G_trail_after : GF K mg "trail_after" s_trail_after ["before", "coin"] := ⟨_, _, PySem.W.mg_of X G a35, F35, b35⟩
  have F36 := fun_mk (st := s_Layer_close_item) l36 e36 k36
  have b36 := F36.binds (ps := ["self", "table"]) fun _ _ _ _ _ _ us hl => match us, hl with | [_, _], _ => rfl
  have G_Layer_close_item : GM K mg "Layer" "close_item" "Layer.close_item" s_Layer_close_item ["self", "table"] := ⟨_, _, _, PySem.W.mg_of X G c1_Layer, ⟨pg_Layer, hd_Layer, po_Layer, sa_Layer⟩, ⟨a36, i36, k36⟩, F36, b36⟩
  have F37 := fun_mk (st := s_Layer_add_node) l37 e37 k37
  have b37 := F37.binds (ps := ["self", "table", "number"]) fun _ _ _ _ _ _ us hl => match us, hl with | [_, _, _], _ => rfl
  have G_Layer_add_node : GM K mg "Layer" "add_node" "Layer.add_node" s_Layer_add_node ["self", "table", "number"] := ⟨_, _, _, PySem.W.mg_of X G c1_Layer, ⟨pg_Layer, hd_Layer, po_Layer, sa_Layer⟩, ⟨a37, i37, k37⟩, F37, b37⟩
  have F38 := fun_mk (st := s_Layer___init__) l38 e38 k38
  have b38 := F38.binds (ps := ["self"]) fun _ _ _ _ _ _ us hl => match us, hl with | [_], _ => rfl
  have G_Layer___init__ : GI K mg "Layer" "Layer.__init__" s_Layer___init__ ["self"] := ⟨_, _, _, PySem.W.mg_of X G c1_Layer, ⟨mk_Layer, a38, i38, kp_Layer⟩, F38, b38⟩
  have F39 := fun_mk (st := s_Growth_add_element) l39 e39 k39
  have b39 := F39.binds (ps := ["self", "element"]) fun _ _ _ _ _ _ us hl => match us, hl with | [_, _], _ => rfl
  have G_Growth_add_element : GM K mg "Growth" "add_element" "Growth.add_element" s_Growth_add_element ["self", "element"] := ⟨_, _, _, PySem.W.mg_of X G c1_Growth, ⟨pg_Growth, hd_Growth, po_Growth, sa_Growth⟩, ⟨a39, i39, k39⟩, F39, b39⟩
  have F40 := fun_mk (st := s_settled_of) l40 e40 k40
  have b40 := F40.binds (ps := ["contents"]) fun _ _ _ _ _ _ us hl => match us, hl with | [_], _ => rfl
  have G_settled_of : GF K mg "settled_of" s_settled_of ["contents"] := ⟨_, _, PySem.W.mg_of X G a40, F40, b40⟩
  have F41 := fun_mk (st := s_law_alike) l41 e41 k41
  have b41 := F41.binds (ps := ["_law_told", "_law_due"]) fun _ _ _ _ _ _ us hl => match us, hl with | [_, _], _ => rfl
  have G_law_alike : GF K mg "_law_alike" s_law_alike ["_law_told", "_law_due"] := ⟨_, _, PySem.W.mg_of X G a41, F41, b41⟩
  have F42 := fun_mk (st := s_settlements) l42 e42 k42
  have b42 := F42.binds (ps := ["contents"]) fun _ _ _ _ _ _ us hl => match us, hl with | [_], _ => rfl
  have G_settlements : GF K mg "settlements" s_settlements ["contents"] := ⟨_, _, PySem.W.mg_of X G a42, F42, b42⟩
  have F43 := fun_mk (st := s_law_large) l43 e43 k43
  have b43 := F43.binds (ps := ["_law_tape_here", "_law_size"]) fun _ _ _ _ _ _ us hl => match us, hl with | [_, _], _ => rfl
  have G_law_large : GF K mg "_law_large" s_law_large ["_law_tape_here", "_law_size"] := ⟨_, _, PySem.W.mg_of X G a43, F43, b43⟩
  have F44 := fun_mk (st := s_law) l44 e44 k44
  have b44 := F44.binds (ps := ["_law_script"]) fun _ _ _ _ _ _ us hl => match us, hl with | [_], _ => rfl
  have G_law : GF K mg "law" s_law ["_law_script"] := ⟨_, _, PySem.W.mg_of X G a44, F44, b44⟩
  have n_int : mg "int" = none := PySem.W.mg_none_of X G z_int
  have n_abs : mg "abs" = none := PySem.W.mg_none_of X G z_abs
  have n_list : mg "list" = none := PySem.W.mg_none_of X G z_list
  have n_len : mg "len" = none := PySem.W.mg_none_of X G z_len
  have n_max : mg "max" = none := PySem.W.mg_none_of X G z_max
  have n_range : mg "range" = none := PySem.W.mg_none_of X G z_range
  have F_NodeTable_numbers : FldF K mg "NodeTable" "numbers" := ⟨_, PySem.W.mg_of X G c1_NodeTable, ⟨pg_NodeTable, hd_NodeTable, po_NodeTable, sa_NodeTable⟩, nf_NodeTable_numbers⟩
  have F_NodeTable_entries : FldF K mg "NodeTable" "entries" := ⟨_, PySem.W.mg_of X G c1_NodeTable, ⟨pg_NodeTable, hd_NodeTable, po_NodeTable, sa_NodeTable⟩, nf_NodeTable_entries⟩
  have F_NodeTable_codes : FldF K mg "NodeTable" "codes" := ⟨_, PySem.W.mg_of X G c1_NodeTable, ⟨pg_NodeTable, hd_NodeTable, po_NodeTable, sa_NodeTable⟩, nf_NodeTable_codes⟩
  have F_NodeTable_sizes : FldF K mg "NodeTable" "sizes" := ⟨_, PySem.W.mg_of X G c1_NodeTable, ⟨pg_NodeTable, hd_NodeTable, po_NodeTable, sa_NodeTable⟩, nf_NodeTable_sizes⟩
  have n_tuple : mg "tuple" = none := PySem.W.mg_none_of X G z_tuple
  have g_DIGIT : ∃ u, mg "DIGIT" = some (.int 65536 u) := ⟨_, PySem.W.mg_of X G z_DIGIT⟩
  have n_isinstance : mg "isinstance" = none := PySem.W.mg_none_of X G z_isinstance
  have n_str : mg "str" = none := PySem.W.mg_none_of X G z_str
  have n_ord : mg "ord" = none := PySem.W.mg_none_of X G z_ord
  have n_sum : mg "sum" = none := PySem.W.mg_none_of X G z_sum
  have n_zip : mg "zip" = none := PySem.W.mg_none_of X G z_zip
  have g_ROUNDS : ∃ u, mg "ROUNDS" = some (.int 4 u) := ⟨_, PySem.W.mg_of X G z_ROUNDS⟩
  have F_Growth_layers : FldF K mg "Growth" "layers" := ⟨_, PySem.W.mg_of X G c1_Growth, ⟨pg_Growth, hd_Growth, po_Growth, sa_Growth⟩, nf_Growth_layers⟩
  have F_Layer_count : FldF K mg "Layer" "count" := ⟨_, PySem.W.mg_of X G c1_Layer, ⟨pg_Layer, hd_Layer, po_Layer, sa_Layer⟩, nf_Layer_count⟩
  have F_Growth_table : FldF K mg "Growth" "table" := ⟨_, PySem.W.mg_of X G c1_Growth, ⟨pg_Growth, hd_Growth, po_Growth, sa_Growth⟩, nf_Growth_table⟩
  have F_Layer_row : FldF K mg "Layer" "row" := ⟨_, PySem.W.mg_of X G c1_Layer, ⟨pg_Layer, hd_Layer, po_Layer, sa_Layer⟩, nf_Layer_row⟩
  have g_BEHIND : ∃ u, mg "BEHIND" = some (.int 3 u) := ⟨_, PySem.W.mg_of X G z_BEHIND⟩
  have F_Layer_colors : FldF K mg "Layer" "colors" := ⟨_, PySem.W.mg_of X G c1_Layer, ⟨pg_Layer, hd_Layer, po_Layer, sa_Layer⟩, nf_Layer_colors⟩
  have F_Layer_start : FldF K mg "Layer" "start" := ⟨_, PySem.W.mg_of X G c1_Layer, ⟨pg_Layer, hd_Layer, po_Layer, sa_Layer⟩, nf_Layer_start⟩
  have F_Layer_times : FldF K mg "Layer" "times" := ⟨_, PySem.W.mg_of X G c1_Layer, ⟨pg_Layer, hd_Layer, po_Layer, sa_Layer⟩, nf_Layer_times⟩
  have F_Layer_node : FldF K mg "Layer" "node" := ⟨_, PySem.W.mg_of X G c1_Layer, ⟨pg_Layer, hd_Layer, po_Layer, sa_Layer⟩, nf_Layer_node⟩
  have F_Layer_trail : FldF K mg "Layer" "trail" := ⟨_, PySem.W.mg_of X G c1_Layer, ⟨pg_Layer, hd_Layer, po_Layer, sa_Layer⟩, nf_Layer_trail⟩
  have F_Layer_end : FldF K mg "Layer" "end" := ⟨_, PySem.W.mg_of X G c1_Layer, ⟨pg_Layer, hd_Layer, po_Layer, sa_Layer⟩, nf_Layer_end⟩
  have n_bool : mg "bool" = none := PySem.W.mg_none_of X G z_bool
  have n_enumerate : mg "enumerate" = none := PySem.W.mg_none_of X G z_enumerate
  have e := hfa.symm.trans (PySem.W.mg_of X G a44)
  cases e
  refine ⟨PySem.W.fnOf "law" "law" (defArgs s_law) (defBody s_law) (defScope s_law) .none kV44 dc44 pm44 an44 cd44 ct44, fun s v => .of_eq rfl, fun base _ _ => ?_⟩
  have C_law_tape : Cal P w K mg base "_law_tape" 1 m_law_tape := c_law_tape G_law_tape n_int n_abs n_list
  have C_law_draw : Cal P w K mg base "_law_draw" 1 m_law_draw := c_law_draw G_law_draw n_len n_int n_abs n_max
  have C_law_sign : Cal P w K mg base "_law_sign" 2 m_law_sign := c_law_sign G_law_sign C_law_draw
  have C_law_word : Cal P w K mg base "_law_word" 3 m_law_word := c_law_word G_law_word C_law_draw C_law_sign n_range
  have C_law_scalar : Cal P w K mg base "_law_scalar" 4 m_law_scalar := c_law_scalar G_law_scalar C_law_draw C_law_word
  have C_law_element : Cal P w K mg base "_law_element" 5 m_law_element := c_law_element G_law_element C_law_scalar C_law_draw
  have C_law_contents : Cal P w K mg base "_law_contents" 6 m_law_contents := c_law_contents G_law_contents C_law_draw C_law_element n_range n_len
  have C_NodeTable___init__ : CalI P w K mg base "NodeTable" 1 m_NodeTable___init__ := c_NodeTable___init__ G_NodeTable___init__ F_NodeTable_numbers F_NodeTable_entries F_NodeTable_codes F_NodeTable_sizes
  have C_row_spans : Cal P w K mg base "row_spans" 1 m_row_spans := c_row_spans G_row_spans F_NodeTable_sizes n_tuple
  have C_digits_of : Cal P w K mg base "digits_of" 1 m_digits_of := c_digits_of G_digits_of n_range g_DIGIT
  have C_code_of : Cal P w K mg base "code_of" 41 (m_code_of 40) := (c_code_of G_code_of C_digits_of n_isinstance n_tuple n_str n_len n_ord 40)
  have C_run_code : Cal P w K mg base "run_code" 2 m_run_code := c_run_code G_run_code C_digits_of
  have C_block_code : Cal P w K mg base "block_code" 1 m_block_code := c_block_code G_block_code n_len n_tuple
  have C_NodeTable_measure : CalM P w K mg base "NodeTable" "measure" 42 m_NodeTable_measure := c_NodeTable_measure G_NodeTable_measure C_code_of C_run_code C_block_code F_NodeTable_codes F_NodeTable_sizes n_sum
  have C_NodeTable_number_of : CalM P w K mg base "NodeTable" "number_of" 43 m_NodeTable_number_of := c_NodeTable_number_of G_NodeTable_number_of C_NodeTable_measure F_NodeTable_numbers F_NodeTable_entries n_len
  have C_leaf_row : Cal P w K mg base "leaf_row" 44 m_leaf_row := c_leaf_row G_leaf_row C_NodeTable_number_of
  have C_NodeTable_item_number : CalM P w K mg base "NodeTable" "item_number" 44 m_NodeTable_item_number := c_NodeTable_item_number G_NodeTable_item_number C_NodeTable_number_of
  have C_groups_of : Cal P w K mg base "groups_of" 1 m_groups_of := c_groups_of G_groups_of n_len
  have C_item_row : Cal P w K mg base "item_row" 45 m_item_row := c_item_row G_item_row C_groups_of C_NodeTable_item_number n_tuple
  have C_mix : Cal P w K mg base "mix" 1 m_mix := c_mix G_mix
  have C_one_round : Cal P w K mg base "one_round" 2 m_one_round := c_one_round G_one_round C_mix n_zip n_tuple
  have C_colors_of_coins : Cal P w K mg base "colors_of_coins" 3 m_colors_of_coins := c_colors_of_coins G_colors_of_coins C_one_round g_ROUNDS n_range
  have C_first_difference : Cal P w K mg base "first_difference" 1 m_first_difference := c_first_difference G_first_difference n_len
  have C_coin_after : Cal P w K mg base "coin_after" 2 m_coin_after := c_coin_after G_coin_after C_first_difference g_DIGIT
  have C_coins_of_codes : Cal P w K mg base "coins_of_codes" 3 m_coins_of_codes := c_coins_of_codes G_coins_of_codes C_coin_after n_tuple
  have C_color_row : Cal P w K mg base "color_row" 4 m_color_row := c_color_row G_color_row C_coins_of_codes C_colors_of_coins F_NodeTable_codes
  have C_is_peak : Cal P w K mg base "is_peak" 1 m_is_peak := c_is_peak G_is_peak
  have C_starts_of : Cal P w K mg base "starts_of" 2 m_starts_of := c_starts_of G_starts_of C_is_peak n_len n_range n_tuple
  have C_cut : Cal P w K mg base "cut" 1 m_cut := c_cut G_cut n_len n_zip
  have C_grow : Cal P w K mg base "grow" 46 m_grow := c_grow G_grow C_leaf_row C_item_row C_color_row C_starts_of C_cut C_NodeTable_number_of n_len
  have C_spans_of : Cal P w K mg base "spans_of" 47 m_spans_of := c_spans_of G_spans_of C_NodeTable___init__ C_grow C_row_spans n_tuple
  have C_Growth_settled_counts : CalM P w K mg base "Growth" "settled_counts" 1 m_Growth_settled_counts := c_Growth_settled_counts G_Growth_settled_counts F_Growth_layers F_Layer_count n_tuple
  have C_Growth___init__ : CalI P w K mg base "Growth" 3 m_Growth___init__ := c_Growth___init__ G_Growth___init__ C_NodeTable___init__ F_Growth_table F_Growth_layers
  have C_Layer_next_block : CalM P w K mg base "Layer" "next_block" 2 m_Layer_next_block := c_Layer_next_block G_Layer_next_block C_is_peak F_Layer_row n_len g_BEHIND F_Layer_colors F_Layer_start n_tuple
  have C_trail_after : Cal P w K mg base "trail_after" 2 m_trail_after := c_trail_after G_trail_after C_mix g_ROUNDS n_range n_tuple
  have C_Layer_close_item : CalM P w K mg base "Layer" "close_item" 45 m_Layer_close_item := c_Layer_close_item G_Layer_close_item C_NodeTable_item_number C_coin_after C_trail_after F_Layer_times F_Layer_node F_Layer_row F_NodeTable_codes F_Layer_trail F_Layer_colors
  have C_Layer_add_node : CalM P w K mg base "Layer" "add_node" 46 m_Layer_add_node := c_Layer_add_node G_Layer_add_node C_Layer_close_item C_Layer_next_block F_Layer_count F_Layer_node F_Layer_times
  have C_Layer___init__ : CalI P w K mg base "Layer" 1 m_Layer___init__ := c_Layer___init__ G_Layer___init__ F_Layer_count F_Layer_node F_Layer_times F_Layer_row F_Layer_colors F_Layer_trail F_Layer_start F_Layer_end
  have C_Growth_add_element : CalM P w K mg base "Growth" "add_element" 47 m_Growth_add_element := c_Growth_add_element G_Growth_add_element C_NodeTable_number_of C_Layer___init__ C_Layer_add_node F_Growth_table F_Growth_layers n_len F_Layer_end F_NodeTable_sizes
  have C_settled_of : Cal P w K mg base "settled_of" 48 m_settled_of := c_settled_of G_settled_of C_Growth___init__ C_Growth_add_element C_Growth_settled_counts
  have C_law_alike : Cal P w K mg base "_law_alike" 40 (m_law_alike 40) := (c_law_alike G_law_alike n_isinstance n_tuple n_len n_range n_str n_bool n_int 40)
  have C_settlements : CalY P w K mg base "settlements" 48 m_settlements := c_settlements G_settlements C_Growth_add_element C_Growth___init__ n_enumerate
  have C_law_large : Cal P w K mg base "_law_large" 2 m_law_large := c_law_large G_law_large C_law_draw n_range n_int
  exact fn_ok F44 sc_law (c_law_body C_law_tape C_law_contents C_law_draw C_law_large C_spans_of C_settled_of C_settlements C_law_alike n_len n_tuple n_range n_max)
end Law
open PySem PySem.W PyProof.Rows
theorem PySem.Challenge.cw_sameshape_k31_settlements_as_they_come_holds : PySem.Challenge.rw_sameshape_k31_settlements_as_they_come.Holds := by
  w_on; o_law; k_head; (case hw => w_witness2)
  k_fill
  refine ML.law_end (l := PySem.Challenge.rw_sameshape_k31_settlements_as_they_come) (k := 54) (x := "_law_script") (m := Law.m_law) rfl rfl ⟨rfl, by decide, by decide⟩ (fun w h Y => PySem.W.kIn_of Y) Law.law_true ?F
  case F =>
    intro w mg fa h KX G hmg
    refine' Law.all_mk KX G hmg ?a1 ?l1 ?e1 ?k1 ?a2 ?l2 ?e2 ?k2 ?a3 ?l3 ?e3 ?k3 ?a4 ?l4 ?e4 ?k4 ?a5 ?l5 ?e5 ?k5 ?a6 ?l6 ?e6 ?k6 ?a7 ?l7 ?e7 ?k7 ?c1_NodeTable ?pg_NodeTable ?hd_NodeTable ?po_NodeTable ?sa_NodeTable ?mk_NodeTable ?kp_NodeTable ?a8 ?l8 ?e8 ?k8 ?i8 ?a9 ?l9 ?e9 ?k9 ?a10 ?l10 ?e10 ?k10 ?a11 ?l11 ?e11 ?k11 ?a12 ?l12 ?e12 ?k12 ?a13 ?l13 ?e13 ?k13 ?a14 ?l14 ?e14 ?k14 ?i14 ?a15 ?l15 ?e15 ?k15 ?i15 ?a16 ?l16 ?e16 ?k16 ?a17 ?l17 ?e17 ?k17 ?i17 ?a18 ?l18 ?e18 ?k18 ?a19 ?l19 ?e19 ?k19 ?a20 ?l20 ?e20 ?k20 ?a21 ?l21 ?e21 ?k21 ?a22 ?l22 ?e22 ?k22 ?a23 ?l23 ?e23 ?k23 ?a24 ?l24 ?e24 ?k24 ?a25 ?l25 ?e25 ?k25 ?a26 ?l26 ?e26 ?k26 ?a27 ?l27 ?e27 ?k27 ?a28 ?l28 ?e28 ?k28 ?a29 ?l29 ?e29 ?k29 ?a30 ?l30 ?e30 ?k30 ?a31 ?l31 ?e31 ?k31 ?c1_Growth ?pg_Growth ?hd_Growth ?po_Growth ?sa_Growth ?mk_Growth ?kp_Growth ?a32 ?l32 ?e32 ?k32 ?i32 ?a33 ?l33 ?e33 ?k33 ?i33 ?c1_Layer ?pg_Layer ?hd_Layer ?po_Layer ?sa_Layer ?mk_Layer ?kp_Layer ?a34 ?l34 ?e34 ?k34 ?i34 ?a35 ?l35 ?e35 ?k35 ?a36 ?l36 ?e36 ?k36 ?i36 ?a37 ?l37 ?e37 ?k37 ?i37 ?a38 ?l38 ?e38 ?k38 ?i38 ?a39 ?l39 ?e39 ?k39 ?i39 ?a40 ?l40 ?e40 ?k40 ?a41 ?l41 ?e41 ?k41 ?a42 ?l42 ?e42 ?k42 ?a43 ?l43 ?e43 ?k43 ?a44 ?l44 ?e44 ?k44 ?z_int ?z_abs ?z_list ?z_len ?z_max ?z_range ?nf_NodeTable_numbers ?nf_NodeTable_entries ?nf_NodeTable_codes ?nf_NodeTable_sizes ?z_tuple ?z_DIGIT ?z_isinstance ?z_str ?z_ord ?z_sum ?z_zip ?z_ROUNDS ?nf_Growth_layers ?nf_Layer_count ?nf_Growth_table ?nf_Layer_row ?z_BEHIND ?nf_Layer_colors ?nf_Layer_start ?nf_Layer_times ?nf_Layer_node ?nf_Layer_trail ?nf_Layer_end ?z_bool ?z_enumerate
    (case a1 => k_is); (case l1 => k_is); (case e1 => k_is); (case k1 => k_is); (case a2 => k_is); (case l2 => k_is); (case e2 => k_is); (case k2 => k_is); (case a3 => k_is); (case l3 => k_is); (case e3 => k_is); (case k3 => k_is); (case a4 => k_is); (case l4 => k_is); (case e4 => k_is); (case k4 => k_is); (case a5 => k_is); (case l5 => k_is); (case e5 => k_is); (case k5 => k_is); (case a6 => k_is); (case l6 => k_is); (case e6 => k_is); (case k6 => k_is); (case a7 => k_is); (case l7 => k_is); (case e7 => k_is); (case k7 => k_is); (case c1_NodeTable => k_is); (case pg_NodeTable => k_is); (case hd_NodeTable => k_is); (case po_NodeTable => k_is); (case sa_NodeTable => k_is); (case mk_NodeTable => k_is); (case kp_NodeTable => k_is); (case a8 => k_is); (case l8 => k_is); (case e8 => k_is); (case k8 => k_is); (case i8 => k_is); (case a9 => k_is); (case l9 => k_is); (case e9 => k_is); (case k9 => k_is); (case a10 => k_is); (case l10 => k_is); (case e10 => k_is); (case k10 => k_is); (case a11 => k_is); (case l11 => k_is); (case e11 => k_is); (case k11 => k_is); (case a12 => k_is); (case l12 => k_is); (case e12 => k_is); (case k12 => k_is); (case a13 => k_is); (case l13 => k_is); (case e13 => k_is); (case k13 => k_is); (case a14 => k_is); (case l14 => k_is); (case e14 => k_is); (case k14 => k_is); (case i14 => k_is); (case a15 => k_is); (case l15 => k_is); (case e15 => k_is); (case k15 => k_is); (case i15 => k_is); (case a16 => k_is); (case l16 => k_is); (case e16 => k_is); (case k16 => k_is); (case a17 => k_is); (case l17 => k_is); (case e17 => k_is); (case k17 => k_is); (case i17 => k_is); (case a18 => k_is); (case l18 => k_is); (case e18 => k_is); (case k18 => k_is); (case a19 => k_is); (case l19 => k_is); (case e19 => k_is); (case k19 => k_is); (case a20 => k_is); (case l20 => k_is); (case e20 => k_is); (case k20 => k_is); (case a21 => k_is); (case l21 => k_is); (case e21 => k_is); (case k21 => k_is); (case a22 => k_is); (case l22 => k_is); (case e22 => k_is); (case k22 => k_is); (case a23 => k_is); (case l23 => k_is); (case e23 => k_is); (case k23 => k_is); (case a24 => k_is); (case l24 => k_is); (case e24 => k_is); (case k24 => k_is); (case a25 => k_is); (case l25 => k_is); (case e25 => k_is); (case k25 => k_is); (case a26 => k_is); (case l26 => k_is); (case e26 => k_is); (case k26 => k_is); (case a27 => k_is); (case l27 => k_is); (case e27 => k_is); (case k27 => k_is); (case a28 => k_is); (case l28 => k_is); (case e28 => k_is); (case k28 => k_is); (case a29 => k_is); (case l29 => k_is); (case e29 => k_is); (case k29 => k_is); (case a30 => k_is); (case l30 => k_is); (case e30 => k_is); (case k30 => k_is); (case a31 => k_is); (case l31 => k_is); (case e31 => k_is); (case k31 => k_is); (case c1_Growth => k_is); (case pg_Growth => k_is); (case hd_Growth => k_is); (case po_Growth => k_is); (case sa_Growth => k_is); (case mk_Growth => k_is); (case kp_Growth => k_is); (case a32 => k_is); (case l32 => k_is); (case e32 => k_is); (case k32 => k_is); (case i32 => k_is); (case a33 => k_is); (case l33 => k_is); (case e33 => k_is); (case k33 => k_is); (case i33 => k_is); (case c1_Layer => k_is); (case pg_Layer => k_is); (case hd_Layer => k_is); (case po_Layer => k_is); (case sa_Layer => k_is); (case mk_Layer => k_is); (case kp_Layer => k_is); (case a34 => k_is); (case l34 => k_is); (case e34 => k_is); (case k34 => k_is); (case i34 => k_is); (case a35 => k_is); (case l35 => k_is); (case e35 => k_is); (case k35 => k_is); (case a36 => k_is); (case l36 => k_is); (case e36 => k_is); (case k36 => k_is); (case i36 => k_is); (case a37 => k_is); (case l37 => k_is); (case e37 => k_is); (case k37 => k_is); (case i37 => k_is); (case a38 => k_is); (case l38 => k_is); (case e38 => k_is); (case k38 => k_is); (case i38 => k_is); (case a39 => k_is); (case l39 => k_is); (case e39 => k_is); (case k39 => k_is); (case i39 => k_is); (case a40 => k_is); (case l40 => k_is); (case e40 => k_is); (case k40 => k_is); (case a41 => k_is); (case l41 => k_is); (case e41 => k_is); (case k41 => k_is); (case a42 => k_is); (case l42 => k_is); (case e42 => k_is); (case k42 => k_is); (case a43 => k_is); (case l43 => k_is); (case e43 => k_is); (case k43 => k_is); (case a44 => k_is); (case l44 => k_is); (case e44 => k_is); (case k44 => k_is); (case z_int => k_is); (case z_abs => k_is); (case z_list => k_is); (case z_len => k_is); (case z_max => k_is); (case z_range => k_is); (case nf_NodeTable_numbers => k_is); (case nf_NodeTable_entries => k_is); (case nf_NodeTable_codes => k_is); (case nf_NodeTable_sizes => k_is); (case z_tuple => k_is); (case z_DIGIT => k_is); (case z_isinstance => k_is); (case z_str => k_is); (case z_ord => k_is); (case z_sum => k_is); (case z_zip => k_is); (case z_ROUNDS => k_is); (case nf_Growth_layers => k_is); (case nf_Layer_count => k_is); (case nf_Growth_table => k_is); (case nf_Layer_row => k_is); (case z_BEHIND => k_is); (case nf_Layer_colors => k_is); (case nf_Layer_start => k_is); (case nf_Layer_times => k_is); (case nf_Layer_node => k_is); (case nf_Layer_trail => k_is); (case nf_Layer_end => k_is); (case z_bool => k_is); (case z_enumerate => k_is)
