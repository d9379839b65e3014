import PyProof.Rows.All
import Wide.All
import OpenK.AllK
import Wide.FinOn
import HandS.ForMost
import HandS.ForExc
import HandS.Wide
import HandS.WideBits
import HandS.TupAny
import HandS.TupMul
import HandS.IsInst
import HandS.CallSlots
import HandS.Zip
import HandS.Rev
import HandS.Style
import HandS.Dict
import KE.KeyNested
import KE.KDictKeyed
import HandS.Lambda
import HandS.EndBits
import KE.KExcSuper
import KE.KSuper
import KE.KExcIs
import HandS.ExcField
import HandS.ExcIs
import HandS.TryMany
import HandS.Conv
import KE.GoesEnum
import HandS.TupLen
import HandS.Deep
import HandS.More
import HandS.SortInts
import KE.KDictWalk
import HandS.SortKw
import KE.SortKeyHeap
import PyProof.TupleOfSeq
import PyProof.ReprRoads
import PyProof.ReprText
import KE.LtData
import KE.DataCmp
import PyProof.FactsAll.tuple_2
import HandS.DictTup
import KE.KDictItemsList
import KE.KDictPairs
import HandS.EndTab
import HandS.Property
import HandS.NamedTupGet
import HandS.Defaults
import PyProof.SeqIndex
import PyProof.FactsAll.tuple_3
import PyProof.MaxThree
import PySem.Challenge.RW_sameshape_k27_whole_joins_share_nodes
set_option Elab.async false
set_option linter.all false
set_option maxRecDepth 100000
set_option maxHeartbeats 8000000
namespace ML
open PySem PySem.Spec L2
inductive A where
  | non | bl (b : Bool) | int (i : Int) | str (x : Str) | tup (xs : List A) | scr (xs : List A) | ref (i : Nat)
inductive Ob2 where
  | dct (kvs : List (PySem.NestedKey × A))
  | frd (kvs : List (PySem.NestedKey × A))
  | ins (cls : Str) (fs : List (Str × A))
  | tab (n : Str)
inductive Ob where
  | lst (xs : List A)
  | oth (u : Ob2)
structure Er where
  cls : Str
  fs : List (Str × A)
inductive R (α : Type) where
  | ok (a : α) (st : List Ob) | er (e : Er) (st : List Ob) | bad
abbrev Store := List Ob
abbrev Env := List (Option A)
def R.bind {α β : Type} (r : R α) (f : α → Store → R β) : R β := match r with
  | .ok a st => f a st
  | .er e st => .er e st
  | .bad => .bad
abbrev MX := Env → Store → R A
abbrev MT := Env → Store → R Bool
abbrev MA := Env → Store → R (List A)
def KTup (K : PySem.W.Frag) (a : Addr) (xs : List V) : Prop := ∃ (o : Obj) (its : Array Value) (n : Nat), K.lookup a = some o ∧ o.cls = .type "tuple" ∧ o.dict = none ∧ o.data = .seq its n ∧ its.size ≤ sizeLine ∧ Vals xs its.toList
def KLst (K : PySem.W.Frag) (a : Addr) (xs : List V) : Prop := ∃ (o : Obj) (its : Array Value) (n : Nat), K.lookup a = some o ∧ o.cls = .type "list" ∧ o.dict = none ∧ o.data = .seq its n ∧ its.size ≤ sizeLine ∧ Vals xs its.toList
def HPl (H : Hp) (a : Addr) (xs : List V) : Prop := ∃ o : Obj, o.dict = none ∧ H a = some (.frz o (.tup xs))
def StT (K : PySem.W.Frag) (φ : List Addr) (H : Hp) (a : Addr) (xs : List V) : Prop := (HPl H a xs ∧ a ∉ φ) ∨ KTup K a xs
abbrev NewT (H : Hp) (xs : List V) (Q : V → Hp → Prop) : Prop := ∀ (p : Addr) (o : Obj), o.dict = none → H p = none → Q (.ref p) (upd H p (.frz o (.tup xs)))
def StL (K : PySem.W.Frag) (φ : List Addr) (H : Hp) (a : Addr) (xs : List V) : Prop := ((∃ o, H a = some (.frz o (.lst xs))) ∧ a ∉ φ) ∨ KLst K a xs
mutual
inductive RV (K : PySem.W.Frag) (φ : List Addr) (H : Hp) : V → A → Prop
  | non : RV K φ H .non .non
  | bl (b : Bool) : RV K φ H (.bl b) (.bl b)
  | int (i : Int) : RV K φ H (.int i) (.int i)
  | str (x : Str) : RV K φ H (.str x) (.str x)
  | tup {a : Addr} {xs : List V} {ds : List A} : StT K φ H a xs → RVs K φ H xs ds → RV K φ H (.ref a) (.tup ds)
  | scr {a : Addr} {xs : List V} {ds : List A} : StL K φ H a xs → RVs K φ H xs ds → RV K φ H (.ref a) (.scr ds)
  | ref {a : Addr} {i : Nat} : φ[i]? = some a → RV K φ H (.ref a) (.ref i)
inductive RVs (K : PySem.W.Frag) (φ : List Addr) (H : Hp) : List V → List A → Prop
  | nil : RVs K φ H [] []
  | cons {v : V} {vs : List V} {d : A} {ds : List A} : RV K φ H v d → RVs K φ H vs ds → RVs K φ H (v :: vs) (d :: ds)
end
mutual
def aOf : PySem.NestedKey → A
  | .none => .non
  | .num i => .int i
  | .text x => .str x
  | .tup ks => .tup (aOfs ks)
def aOfs : List PySem.NestedKey → List A
  | [] => []
  | k :: ks => aOf k :: aOfs ks
end
mutual
def keyOf : A → Option PySem.NestedKey
  | .non => some .none
  | .int i => some (.num i)
  | .str x => some (.text x)
  | .tup xs => match keysOf xs with
    | some ks => some (.tup ks)
    | none => none
  | _ => none
def keysOf : List A → Option (List PySem.NestedKey)
  | [] => some []
  | x :: xs => match keyOf x, keysOf xs with
    | some k, some ks => some (k :: ks)
    | _, _ => none
end
def nk : Key → PySem.NestedKey
  | .inl i => .num i
  | .inr x => .text x
def DRaw (w : World) (a : Addr) (xs : List (PySem.NestedKey × Addr × Value)) (h : Heap) : Prop :=
  ∃ o es ep, h.get? a = some o ∧ o.ExactDict ∧ o.data = .dict es ep ∧ es.toList = xs.map (fun x => ⟨x.1.hash w, .ref x.2.1, x.2.2⟩) ∧ (xs.map (·.1)).Nodup
def RDk (K : PySem.W.Frag) (φ : List Addr) (H : Hp) (a : Addr) (kvs : List (PySem.NestedKey × A)) : Prop :=
  ∃ ks : List (Key × V), H a = some (.dK ks) ∧ kvs.map (·.1) = ks.map (fun x => nk x.1) ∧ RVs K φ H (ks.map (·.2)) (kvs.map (·.2))
def RDt (K : PySem.W.Frag) (w : World) (φ : List Addr) (H : Hp) (a : Addr) (kvs : List (PySem.NestedKey × A)) : Prop :=
  ∃ (xs : List (PySem.NestedKey × Addr × Value)) (vs : List V), kvs ≠ [] ∧ H a = some (.ext (DRaw w a xs)) ∧ (a == sysModules) = false ∧ xs.length ≤ sizeLine ∧ xs.map (·.1) = kvs.map (·.1) ∧
    (∀ x ∈ xs, RV K φ H (.ref x.2.1) (aOf x.1) ∧ x.1.depth ≤ 8) ∧ Vals vs (xs.map (·.2.2)) ∧ RVs K φ H vs (kvs.map (·.2))
def RDz (K : PySem.W.Frag) (w : World) (φ : List Addr) (H : Hp) (od : Obj) (a : Addr) (kvs : List (PySem.NestedKey × A)) : Prop :=
  ∃ (xs : List (PySem.NestedKey × Addr × Value)) (vs : List V), kvs ≠ [] ∧ H a = some (.frz od (.ext (DRaw w a xs))) ∧ (a == sysModules) = false ∧ xs.length ≤ sizeLine ∧ xs.map (·.1) = kvs.map (·.1) ∧
    (∀ x ∈ xs, RV K φ H (.ref x.2.1) (aOf x.1) ∧ x.1.depth ≤ 8) ∧ Vals vs (xs.map (·.2.2)) ∧ RVs K φ H vs (kvs.map (·.2))
def TabIs (K : PySem.W.Frag) (mg : Str → Option Value) (n : Str) (p : Addr) : Prop := ∃ (f c : Addr) (fo co : Obj) (fd : FuncData) (vs : Array Value),
  mg n = some (.ref f) ∧ K.lookup f = some fo ∧ fo.data = .func fd ∧ fd.code = .ref c ∧ K.lookup c = some co ∧ co.data = .fields vs ∧ vs[11]? = some (.ref p)
def RO2 (K : PySem.W.Frag) (w : World) (mg : Str → Option Value) (φ : List Addr) (H : Hp) (a : Addr) : Ob2 → Prop
  | .dct kvs => RDk K φ H a kvs ∨ RDt K w φ H a kvs
  | .frd kvs => (∃ (od : Obj) (ks : List (Key × V)), H a = some (.frz od (.dK ks)) ∧ kvs.map (·.1) = ks.map (fun x => nk x.1) ∧ RVs K φ H (ks.map (·.2)) (kvs.map (·.2))) ∨ ∃ od, RDz K w φ H od a kvs
  | .ins cls fs => ∃ (C dx : Addr) (vs : List V), mg cls = some (.ref C) ∧ H a = some (.ins C dx ((fs.map (·.1)).zip vs)) ∧ H dx = some (.own a) ∧ dx ∉ φ ∧ RVs K φ H vs (fs.map (·.2))
  | .tab n => TabIs K mg n a ∧ ∃ ps : Array Value, H a = some (.tbl ps) ∧ PySem.TriplesOk ps.toList ∧ ∀ (pos : Pos) (cv : Value), codeAmong pos ps.toList = some cv → ∃ c, cv = .ref c ∧ H c = some (LamX.CodeO c (n ++ ".<locals>." ++ "<lambda>")) ∧ c ∉ φ
def RO (K : PySem.W.Frag) (w : World) (mg : Str → Option Value) (φ : List Addr) (H : Hp) (a : Addr) : Ob → Prop
  | .lst ds => ∃ xs, H a = some (.lst xs) ∧ RVs K φ H xs ds
  | .oth u => RO2 K w mg φ H a u
structure RS (K : PySem.W.Frag) (w : World) (mg : Str → Option Value) (φ : List Addr) (H : Hp) (st : Store) : Prop where
  len : φ.length = st.length
  nd : φ.Nodup
  all : ∀ (i : Nat) (a : Addr) (o : Ob), φ[i]? = some a → st[i]? = some o → RO K w mg φ H a o
structure Ext (φ : List Addr) (H : Hp) (φ' : List Addr) (H' : Hp) : Prop where
  pre : ∃ t, φ' = φ ++ t
  fr : ∀ a o, a ∉ φ → H a = some o → H' a = some o ∧ a ∉ φ'
  fz : ∀ a o u, H a = some (.frz o u) → H' a = some (.frz o u)
structure RE (K : PySem.W.Frag) (φ : List Addr) (H : Hp) (σ : St) (ρ : Env) : Prop where
  len : σ.length = ρ.length
  all : ∀ (i : Nat) (d : A), ρ[i]? = some (some d) → ∃ v, σ[i]? = some (some v) ∧ RV K φ H v d
def RErr (K : PySem.W.Frag) (mg : Str → Option Value) (φ : List Addr) (H : Hp) (c : Value) (d : Option Addr) (e : Er) : Prop :=
  mg e.cls = some c ∧ ((e.fs = [] ∧ d = none) ∨ ∃ dx xs, d = some dx ∧ H dx = some (.xd xs) ∧ dx ∉ φ ∧ xs.map (·.1) = e.fs.map (·.1) ∧ RVs K φ H (xs.map (·.2)) (e.fs.map (·.2)))
section
variable {K : PySem.W.Frag} {w : World} {φ φ' φ2 : List Addr} {H H' H2 : Hp} {st : Store} {σ : St} {ρ : Env} {mg : Str → Option Value}
theorem Ext.refl : Ext φ H φ H := ⟨⟨[], by simp⟩, fun a o n h => ⟨h, n⟩, fun _ _ _ h => h⟩
theorem Ext.trans (a : Ext φ H φ' H') (b : Ext φ' H' φ2 H2) : Ext φ H φ2 H2 := by
  obtain ⟨⟨t, rfl⟩, f1, z1⟩ := a
  obtain ⟨⟨u, rfl⟩, f2, z2⟩ := b
  refine ⟨⟨t ++ u, by simp⟩, fun a o n h => ?_, fun a o u h => z2 _ _ _ (z1 _ _ _ h)⟩
  obtain ⟨h1, n1⟩ := f1 a o n h
  exact f2 a o n1 h1
theorem Ext.get (e : Ext φ H φ' H') {i : Nat} {a : Addr} (h : φ[i]? = some a) : φ'[i]? = some a := by
  obtain ⟨t, rfl⟩ := e.pre
  rw [List.getElem?_append_left (List.getElem?_eq_some_iff.mp h).1]
  exact h
theorem StT.sq {a : Addr} {xs : List V} (h : StT K φ H a xs) : SqT K H a xs := h.elim (fun ⟨⟨o, _, x⟩, _⟩ => .inl (.inr ⟨o, x⟩)) fun ⟨o, its, n, h1, h2, _, h3, h4, h5⟩ => .inr ⟨o, its, n, h1, h2, h3, h4, h5⟩
theorem StL.sq {a : Addr} {xs : List V} (h : StL K φ H a xs) : SqL K H a xs := h.elim (fun ⟨⟨o, x⟩, _⟩ => .inl (.inr ⟨o, x⟩)) .inr
theorem StT.ext {a : Addr} {xs : List V} (h : StT K φ H a xs) (e : Ext φ H φ' H') : StT K φ' H' a xs := by
  rcases h with ⟨⟨o, hd, h⟩, n⟩ | h
  · obtain ⟨x, m⟩ := e.fr _ _ n h
    exact .inl ⟨⟨o, hd, x⟩, m⟩
  · exact .inr h
theorem StL.ext {a : Addr} {xs : List V} (h : StL K φ H a xs) (e : Ext φ H φ' H') : StL K φ' H' a xs := by
  rcases h with ⟨⟨o, h⟩, n⟩ | h
  · obtain ⟨x, m⟩ := e.fr _ _ n h
    exact .inl ⟨⟨o, x⟩, m⟩
  · exact .inr h
mutual
theorem RV.ext (e : Ext φ H φ' H') : ∀ {v : V} {d : A}, RV K φ H v d → RV K φ' H' v d
  | _, _, .non => .non
  | _, _, .bl b => .bl b
  | _, _, .int i => .int i
  | _, _, .str x => .str x
  | _, _, .tup h q => .tup (h.ext e) (RVs.ext e q)
  | _, _, .scr h q => .scr (h.ext e) (RVs.ext e q)
  | _, _, .ref h => .ref (e.get h)
theorem RVs.ext (e : Ext φ H φ' H') : ∀ {vs : List V} {ds : List A}, RVs K φ H vs ds → RVs K φ' H' vs ds
  | _, _, .nil => .nil
  | _, _, .cons h q => .cons (RV.ext e h) (RVs.ext e q)
end
theorem RVs.length : ∀ {vs : List V} {ds : List A}, RVs K φ H vs ds → vs.length = ds.length
  | _, _, .nil => rfl
  | _, _, .cons _ q => by rw [List.length_cons, List.length_cons, q.length]
theorem RVs.get : ∀ {vs : List V} {ds : List A} {i : Nat} {d : A}, RVs K φ H vs ds → ds[i]? = some d → ∃ v, vs[i]? = some v ∧ RV K φ H v d
  | _, _, _, _, .nil, h => by simp at h
  | _, _, 0, _, .cons q _, h => by simp at h; subst h; exact ⟨_, rfl, q⟩
  | _, _, i + 1, d, .cons _ q, h => by
    obtain ⟨v, h1, h2⟩ := RVs.get (i := i) (d := d) q (by simpa using h)
    exact ⟨v, by simpa using h1, h2⟩
theorem RVs.app : ∀ {vs ws : List V} {ds es : List A}, RVs K φ H vs ds → RVs K φ H ws es → RVs K φ H (vs ++ ws) (ds ++ es)
  | _, _, _, _, .nil, q => q
  | _, _, _, _, .cons h r, q => .cons h (r.app q)
theorem RVs.take : ∀ {vs : List V} {ds : List A} (n : Nat), RVs K φ H vs ds → RVs K φ H (vs.take n) (ds.take n)
  | _, _, 0, _ => .nil
  | _, _, _ + 1, .nil => .nil
  | _, _, n + 1, .cons h q => .cons h (q.take n)
theorem RVs.drop : ∀ {vs : List V} {ds : List A} (n : Nat), RVs K φ H vs ds → RVs K φ H (vs.drop n) (ds.drop n)
  | _, _, 0, q => q
  | _, _, _ + 1, .nil => .nil
  | _, _, n + 1, .cons _ q => q.drop n
theorem RVs.set {v : V} {d : A} (h : RV K φ H v d) : ∀ {vs : List V} {ds : List A} (i : Nat), RVs K φ H vs ds → RVs K φ H (vs.set i v) (ds.set i d)
  | _, _, _, .nil => .nil
  | _, _, 0, .cons _ q => .cons h q
  | _, _, i + 1, .cons r q => .cons r (q.set h i)
theorem RVs.flat {vs : List V} {ds : List A} (q : RVs K φ H vs ds) : ∀ n : Nat, RVs K φ H (List.replicate n vs).flatten (List.replicate n ds).flatten
  | 0 => .nil
  | n + 1 => by
    rw [List.replicate_succ, List.replicate_succ, List.flatten_cons, List.flatten_cons]
    exact q.app (q.flat n)
theorem RVs.dropLast : ∀ {vs : List V} {ds : List A}, RVs K φ H vs ds → RVs K φ H vs.dropLast ds.dropLast
  | _, _, .nil => .nil
  | _, _, .cons _ .nil => .nil
  | _, _, .cons r (.cons r2 q) => .cons r (RVs.dropLast (.cons r2 q))
theorem RVs.ints : ∀ {vs : List V} {ns : List Int}, RVs K φ H vs (ns.map A.int) → vs = ns.map V.int
  | [], [], _ => rfl
  | [], _ :: _, h => by cases h
  | _ :: _, [], h => by cases h
  | v :: vs, n :: ns, h => by
    cases h with
    | cons h q =>
      cases h
      rw [RVs.ints q, List.map_cons]
theorem RVs.mkInts : ∀ (ns : List Int), RVs K φ H (ns.map V.int) (ns.map A.int)
  | [] => .nil
  | n :: ns => .cons (.int n) (RVs.mkInts ns)
theorem RE.ext (r : RE K φ H σ ρ) (e : Ext φ H φ' H') : RE K φ' H' σ ρ := ⟨r.len, fun i d h => by
  obtain ⟨v, h1, h2⟩ := r.all i d h
  exact ⟨v, h1, h2.ext e⟩⟩
theorem RE.set (r : RE K φ H σ ρ) {v : V} {d : A} (h : RV K φ H v d) (i : Nat) : RE K φ H (σ.set i (some v)) (ρ.set i (some d)) := ⟨by rw [List.length_set, List.length_set, r.len], fun j x hj => by
  by_cases e : i = j
  · subst e
    have hl : i < ρ.length := by
      have := (List.getElem?_eq_some_iff.mp hj).1
      rwa [List.length_set] at this
    rw [List.getElem?_set_self hl] at hj
    cases hj
    refine ⟨v, ?_, h⟩
    rw [List.getElem?_set_self (by rw [r.len]; exact hl)]
  · rw [List.getElem?_set_ne e] at hj
    obtain ⟨w, h1, h2⟩ := r.all j x hj
    exact ⟨w, by rw [List.getElem?_set_ne e]; exact h1, h2⟩⟩
theorem RE.setNone (r : RE K φ H σ ρ) (i : Nat) : RE K φ H (σ.set i none) (ρ.set i none) := ⟨by rw [List.length_set, List.length_set, r.len], fun j x hj => by
  by_cases e : i = j
  · subst e
    have hl : i < ρ.length := by
      have := (List.getElem?_eq_some_iff.mp hj).1
      rwa [List.length_set] at this
    rw [List.getElem?_set_self hl] at hj
    cases hj
  · rw [List.getElem?_set_ne e] at hj
    obtain ⟨w, h1, h2⟩ := r.all j x hj
    exact ⟨w, by rw [List.getElem?_set_ne e]; exact h1, h2⟩⟩
def wipeA (ρ : Env) : List Nat → Env
  | [] => ρ
  | v :: vs => (wipeA ρ vs).set v none
theorem RE.wipe (r : RE K φ H σ ρ) : ∀ vs : List Nat, RE K φ H (wipe σ vs) (wipeA ρ vs)
  | [] => r
  | v :: vs => (RE.wipe r vs).setNone v
theorem RO2.isO {a : Addr} : ∀ {u : Ob2}, RO2 K w mg φ H a u → ∃ o, H a = some o ∧ ∀ xs, o ≠ .lst xs
  | .dct _, .inl ⟨_, h, _⟩ => ⟨_, h, fun _ z => by cases z⟩
  | .dct _, .inr ⟨_, _, _, h, _⟩ => ⟨_, h, fun _ z => by cases z⟩
  | .frd _, .inl ⟨_, _, h, _⟩ => ⟨_, h, fun _ z => by cases z⟩
  | .frd _, .inr ⟨_, _, _, _, h, _⟩ => ⟨_, h, fun _ z => by cases z⟩
  | .ins _ _, ⟨_, _, _, _, h, _⟩ => ⟨_, h, fun _ z => by cases z⟩
  | .tab _, ⟨_, _, h, _⟩ => ⟨_, h, fun _ z => by cases z⟩
theorem RO2.ext {a : Addr} (e : Ext φ H φ' H') (k : H' a = H a) : ∀ {u : Ob2}, RO2 K w mg φ H a u → RO2 K w mg φ' H' a u
  | .dct _, .inl ⟨ks, h1, h2, h3⟩ => .inl ⟨ks, by rw [k]; exact h1, h2, h3.ext e⟩
  | .dct _, .inr ⟨xs, vs, h0, h1, h2, h3, h4, h5, h6, h7⟩ => .inr ⟨xs, vs, h0, by rw [k]; exact h1, h2, h3, h4, fun x hx => ⟨(h5 x hx).1.ext e, (h5 x hx).2⟩, h6, h7.ext e⟩
  | .frd _, .inl ⟨od, ks, h1, h2, h3⟩ => .inl ⟨od, ks, by rw [k]; exact h1, h2, h3.ext e⟩
  | .frd _, .inr ⟨od, xs, vs, h0, h1, h2, h3, h4, h5, h6, h7⟩ => .inr ⟨od, xs, vs, h0, by rw [k]; exact h1, h2, h3, h4, fun x hx => ⟨(h5 x hx).1.ext e, (h5 x hx).2⟩, h6, h7.ext e⟩
  | .ins _ _, ⟨C, dx, vs, h0, h1, h2, h3, h4⟩ => by
    obtain ⟨y1, y2⟩ := e.fr _ _ h3 h2
    exact ⟨C, dx, vs, h0, by rw [k]; exact h1, y1, y2, h4.ext e⟩
  | .tab _, ⟨h0, ps, h1, h2, h3⟩ => ⟨h0, ps, by rw [k]; exact h1, h2, fun pos cv hc => by
    obtain ⟨c, z1, z2, z3⟩ := h3 pos cv hc
    obtain ⟨y1, y2⟩ := e.fr _ _ z3 z2
    exact ⟨c, z1, y1, y2⟩⟩
theorem RO2.map {a : Addr} (up : ∀ v d, RV K φ H v d → RV K φ' H' v d) (ups : ∀ vs ds, RVs K φ H vs ds → RVs K φ' H' vs ds) (k : H' a = H a) (ko : ∀ dx o, dx ∉ φ → H dx = some o → (∀ xs, o ≠ .lst xs) → H' dx = some o ∧ dx ∉ φ') :
    ∀ {u : Ob2}, RO2 K w mg φ H a u → RO2 K w mg φ' H' a u
  | .dct _, .inl ⟨ks, h1, h2, h3⟩ => .inl ⟨ks, by rw [k]; exact h1, h2, ups _ _ h3⟩
  | .dct _, .inr ⟨xs, vs, h0, h1, h2, h3, h4, h5, h6, h7⟩ => .inr ⟨xs, vs, h0, by rw [k]; exact h1, h2, h3, h4, fun x hx => ⟨up _ _ (h5 x hx).1, (h5 x hx).2⟩, h6, ups _ _ h7⟩
  | .frd _, .inl ⟨od, ks, h1, h2, h3⟩ => .inl ⟨od, ks, by rw [k]; exact h1, h2, ups _ _ h3⟩
  | .frd _, .inr ⟨od, xs, vs, h0, h1, h2, h3, h4, h5, h6, h7⟩ => .inr ⟨od, xs, vs, h0, by rw [k]; exact h1, h2, h3, h4, fun x hx => ⟨up _ _ (h5 x hx).1, (h5 x hx).2⟩, h6, ups _ _ h7⟩
  | .ins _ _, ⟨C, dx, vs, h0, h1, h2, h3, h4⟩ => by
    obtain ⟨y1, y2⟩ := ko _ _ h3 h2 (fun _ z => by cases z)
    exact ⟨C, dx, vs, h0, by rw [k]; exact h1, y1, y2, ups _ _ h4⟩
  | .tab _, ⟨h0, ps, h1, h2, h3⟩ => ⟨h0, ps, by rw [k]; exact h1, h2, fun pos cv hc => by
    obtain ⟨c, z1, z2, z3⟩ := h3 pos cv hc
    obtain ⟨y1, y2⟩ := ko _ _ z3 z2 (fun _ z => by unfold LamX.CodeO at z; cases z)
    exact ⟨c, z1, y1, y2⟩⟩
theorem RS.notin (r : RS K w mg φ H st) {p : Addr} (h : H p = none) : p ∉ φ := fun z => by
  obtain ⟨i, hi, e⟩ := List.getElem_of_mem z
  have h1 : φ[i]? = some p := by rw [List.getElem?_eq_getElem hi, e]
  have h2 : i < st.length := by rw [← r.len]; exact hi
  have h3 := r.all i p st[i] h1 (List.getElem?_eq_getElem h2)
  cases ho : st[i] with
  | lst ds =>
    rw [ho] at h3
    obtain ⟨xs, q, _⟩ := h3
    rw [h] at q
    cases q
  | oth u =>
    rw [ho] at h3
    obtain ⟨o, q, _⟩ := RO2.isO h3
    rw [h] at q
    cases q
theorem ext_new {p : Addr} {o : HO} (h : H p = none) : Ext φ H φ (upd H p o) := ⟨⟨[], by simp⟩, fun a o n q => ⟨by rw [upd_ne (ne_of_none q h)]; exact q, n⟩, fun a o u q => by rw [upd_ne (ne_of_none q h)]; exact q⟩
theorem RS.ext (r : RS K w mg φ H st) (e : Ext φ H φ H') (k : ∀ a ∈ φ, H' a = H a) : RS K w mg φ H' st := ⟨r.len, r.nd, fun i a o h1 h2 => by
  have h3 := r.all i a o h1 h2
  cases o with
  | lst ds =>
    obtain ⟨xs, q, q2⟩ := h3
    exact ⟨xs, by rw [k a (List.mem_of_getElem? h1)]; exact q, q2.ext e⟩
  | oth u => exact RO2.ext e (k a (List.mem_of_getElem? h1)) h3⟩
theorem RS.new (r : RS K w mg φ H st) {p : Addr} {o : HO} (h : H p = none) : RS K w mg φ (upd H p o) st := r.ext (ext_new h) fun a ha => upd_ne fun z => r.notin h (z ▸ ha)
theorem RV.newTup (r : RS K w mg φ H st) {p : Addr} {ob : Obj} {xs : List V} {ds : List A} (hd : ob.dict = none) (h : H p = none) (q : RVs K φ H xs ds) : RV K φ (upd H p (.frz ob (.tup xs))) (.ref p) (.tup ds) :=
  .tup (.inl ⟨⟨ob, hd, upd_same⟩, r.notin h⟩) (q.ext (ext_new h))
theorem new_tup {X : Cx} {pins : List (Addr × Obj)} {σ : L2.St} {H : Hp} {s : Shared} {its : List Value} {xs : List V} {Q : V → Hp → Prop} (I : Inv X pins σ H s) (r : Vals xs its) (hz : xs.length ≤ sizeLine) (q : NewT H xs Q) :
    EP X pins σ Q (.ref s.heap.objs.size) { s with heap := s.heap.push { cls := .type "tuple", data := .seq its.toArray } } :=
  ⟨.ref s.heap.objs.size, _, I.laid (t' := s.toks) (o := .frz { cls := .type "tuple", data := .seq its.toArray } (.tup xs)) (fun b ob q => Heap.get?_push_of_some _ q) (Nat.le_refl _) ⟨Heap.get?_push_size _ rfl, hz, its, r, PyProof.Rows.IsTup.new _ _⟩, rfl, q _ _ rfl (I.hok.fresh (Nat.le_refl _))⟩
def tTupP (t : TA) : TE := fun σ H Q => t σ H fun xs H1 => xs.length ≤ sizeLine ∧ NewT H1 xs Q
theorem pe_tupP {X : Cx} {es : List Expr} {t : TA} {x1 : Nat} {pos : Pos} (h : PA X es t) : PE X (.Tuple es x1 pos) (tTupP t) :=
  ⟨fun pins s σ H Q I hq => wpAny_Tuple_spliced (thn (h.run pos pins s σ H _ I hq) fun us s1 ⟨xs, H1, I1, r, z, q⟩ => ⟨by rw [← r.length]; exact z, new_tup I1 r z q⟩)⟩
theorem ext_alloc {p : Addr} {o : HO} (r : RS K w mg φ H st) (h : H p = none) : Ext φ H (φ ++ [p]) (upd H p o) := ⟨⟨[p], rfl⟩, fun a u n q => by
  have ne : a ≠ p := ne_of_none q h
  refine ⟨by rw [upd_ne ne]; exact q, fun z => ?_⟩
  rcases List.mem_append.mp z with z | z
  · exact n z
  · exact ne (by simpa using z), fun a o u q => by rw [upd_ne (ne_of_none q h)]; exact q⟩
theorem RS.alloc (r : RS K w mg φ H st) {p : Addr} {xs : List V} {ds : List A} (h : H p = none) (q : RVs K φ H xs ds) : RS K w mg (φ ++ [p]) (upd H p (.lst xs)) (st ++ [.lst ds]) := by
  have e := ext_alloc (o := .lst xs) r h
  refine ⟨by simp [r.len], ?_, fun i a o h1 h2 => ?_⟩
  · rw [List.nodup_append]
    refine ⟨r.nd, by simp, fun a ha b hb z => ?_⟩
    have : b = p := by simpa using hb
    subst this
    subst z
    exact r.notin h ha
  · by_cases hi : i < φ.length
    · rw [List.getElem?_append_left hi] at h1
      rw [List.getElem?_append_left (by rw [← r.len]; exact hi)] at h2
      have h3 := r.all i a o h1 h2
      have na : a ≠ p := fun z => r.notin h (z ▸ List.mem_of_getElem? h1)
      cases o with
      | lst ds' =>
        obtain ⟨ys, y1, y2⟩ := h3
        exact ⟨ys, by rw [upd_ne na]; exact y1, y2.ext e⟩
      | oth u => exact RO2.ext e (upd_ne na) h3
    · have hi2 : i = φ.length := by
        have := (List.getElem?_eq_some_iff.mp h1).1
        rw [List.length_append, List.length_singleton] at this
        omega
      subst hi2
      rw [List.getElem?_append_right (Nat.le_refl _)] at h1
      rw [List.getElem?_append_right (by rw [r.len]; exact Nat.le_refl _)] at h2
      simp at h1
      rw [r.len] at h2
      simp at h2
      subst h1
      subst h2
      exact ⟨xs, upd_same, q.ext e⟩
theorem RV.newLst (r : RS K w mg φ H st) {p : Addr} {H' : Hp} : RV K (φ ++ [p]) H' (.ref p) (.ref st.length) := .ref (by
  rw [List.getElem?_append_right (by rw [r.len]; exact Nat.le_refl _), r.len]
  simp)
theorem RS.write (r : RS K w mg φ H st) {i : Nat} {p : Addr} {zs : List A} {ys : List V} {ds : List A} (hp : φ[i]? = some p) (ho : st[i]? = some (.lst zs)) (q : RVs K φ H ys ds) : Ext φ H φ (upd H p (.lst ys)) ∧ RS K w mg φ (upd H p (.lst ys)) (st.set i (.lst ds)) := by
  have hm : p ∈ φ := List.mem_of_getElem? hp
  have e : Ext φ H φ (upd H p (.lst ys)) := ⟨⟨[], by simp⟩, fun a u n q => ⟨by rw [upd_ne (show a ≠ p from fun z => n (by rw [z]; exact hm))]; exact q, n⟩, fun a o u q => by
    obtain ⟨_, hl, _⟩ := r.all i p _ hp ho
    rw [upd_ne (show a ≠ p from fun z => by rw [z, hl] at q; cases q)]
    exact q⟩
  refine ⟨e, by rw [List.length_set]; exact r.len, r.nd, fun j a u h1 h2 => ?_⟩
  by_cases hj : i = j
  · subst hj
    rw [hp] at h1
    cases h1
    rw [List.getElem?_set_self (List.getElem?_eq_some_iff.mp ho).1] at h2
    cases h2
    exact ⟨ys, upd_same, q.ext e⟩
  · rw [List.getElem?_set_ne hj] at h2
    have h3 := r.all j a u h1 h2
    have na : a ≠ p := fun z => by
      subst z
      obtain ⟨l1, e1⟩ := List.getElem?_eq_some_iff.mp hp
      obtain ⟨l2, e2⟩ := List.getElem?_eq_some_iff.mp h1
      exact hj ((List.getElem_inj r.nd).mp (e1.trans e2.symm))
    cases u with
    | lst ds' =>
      obtain ⟨zs, y1, y2⟩ := h3
      exact ⟨zs, by rw [upd_ne na]; exact y1, y2.ext e⟩
    | oth u => exact RO2.ext e (upd_ne na) h3
theorem RS.lst (r : RS K w mg φ H st) {i : Nat} {p : Addr} {ds : List A} (hp : φ[i]? = some p) (ho : st[i]? = some (.lst ds)) : ∃ xs, H p = some (.lst xs) ∧ RVs K φ H xs ds := r.all i p _ hp ho
theorem RErr.ext {c : Value} {d : Option Addr} {x : Er} (r : RErr K mg φ H c d x) (e : Ext φ H φ' H') : RErr K mg φ' H' c d x := by
  obtain ⟨h1, h2 | ⟨dx, xs, q1, q2, q3, q4, q5⟩⟩ := r
  · exact ⟨h1, .inl h2⟩
  · obtain ⟨y1, y2⟩ := e.fr _ _ q3 q2
    exact ⟨h1, .inr ⟨dx, xs, q1, y1, y2, q4, q5.ext e⟩⟩
end
abbrev WH := Value → Option Addr → Hp → Prop
def Pst {α β : Type} (K : PySem.W.Frag) (w : World) (mg : Str → Option Value) (Rl : List Addr → Hp → β → α → Prop) (W : WH) (φ : List Addr) (H : Hp) (r : R α) (Q : β → Hp → Prop) : Prop := match r with
  | .ok a st => ∀ φ' v H', Ext φ H φ' H' → RS K w mg φ' H' st → Rl φ' H' v a → Q v H'
  | .er e st => ∀ φ' c d H', Ext φ H φ' H' → RS K w mg φ' H' st → RErr K mg φ' H' c d e → W c d H'
  | .bad => False
abbrev rlB : List Addr → Hp → Bool → Bool → Prop := fun _ _ x y => x = y
def tG {α β : Type} (K : PySem.W.Frag) (w : World) (mg : Str → Option Value) (Rl : List Addr → Hp → β → α → Prop) (W : WX) (m : Env → Store → R α) : St → Hp → (β → Hp → Prop) → Prop := fun σ H Q =>
  ∃ φ ρ st, RS K w mg φ H st ∧ RE K φ H σ ρ ∧ Pst K w mg Rl (fun c d H' => W c d σ H') φ H (m ρ st) Q
abbrev tE (X : Cx) (W : WX) (m : MX) : TE := tG X.K X.w X.mg (RV X.K) W m
abbrev tT (X : Cx) (W : WX) (m : MT) : TT := tG X.K X.w X.mg rlB W m
abbrev tA (X : Cx) (W : WX) (m : MA) : TA := tG X.K X.w X.mg (RVs X.K) W m
section
variable {K : PySem.W.Frag} {w : World} {φ φ' : List Addr} {H H' : Hp} {st : Store} {mg : Str → Option Value} {α β γ δ : Type} {W : WH}
variable {Rl : List Addr → Hp → β → α → Prop} {Rl2 : List Addr → Hp → δ → γ → Prop}
theorem Pst.mono {r : R α} {Q : β → Hp → Prop} (h : Pst K w mg Rl W φ H r Q) (e : Ext φ H φ' H') : Pst K w mg Rl W φ' H' r Q := by
  cases r with
  | ok a st => exact fun φ2 v H2 e2 s q => h φ2 v H2 (e.trans e2) s q
  | er x st => exact fun φ2 c d H2 e2 s q => h φ2 c d H2 (e.trans e2) s q
  | bad => exact h
theorem Pst.seq {r : R α} {f : α → Store → R γ} {Q1 : β → Hp → Prop} {Q : δ → Hp → Prop} (h : Pst K w mg Rl2 W φ H (r.bind f) Q)
    (k : ∀ φ1 a x H1 st1, Ext φ H φ1 H1 → RS K w mg φ1 H1 st1 → Rl φ1 H1 x a → Pst K w mg Rl2 W φ1 H1 (f a st1) Q → Q1 x H1) : Pst K w mg Rl W φ H r Q1 := by
  cases r with
  | ok a st => exact fun φ1 v H1 e s q => k φ1 a v H1 st e s q (Pst.mono h e)
  | er x st => exact h
  | bad => exact h
theorem Pst.imp {r : R α} {Q Q' : β → Hp → Prop} (h : Pst K w mg Rl W φ H r Q) (k : ∀ v H', Q v H' → Q' v H') : Pst K w mg Rl W φ H r Q' := by
  cases r with
  | ok a st => exact fun φ2 v H2 e2 s q => k _ _ (h φ2 v H2 e2 s q)
  | er x st => exact h
  | bad => exact h
theorem Pst.ok {a : α} {v : β} {Q : β → Hp → Prop} (h : Pst K w mg Rl W φ H (.ok a st) Q) (s : RS K w mg φ H st) (q : Rl φ H v a) : Q v H := h φ v H Ext.refl s q
end
section
variable {X : Cx} {e : Expr} {es : List Expr} {t t' : TE}
theorem _root_.L2.PE.imp (h : PE X e t) (k : ∀ σ H Q, t' σ H Q → t σ H Q) : PE X e t' := ⟨fun pins s σ H Q I q => h.run pins s σ H Q I (k _ _ _ q)⟩
theorem _root_.L2.PT.imp {t t' : TT} (h : PT X e t) (k : ∀ σ H Q, t' σ H Q → t σ H Q) : PT X e t' := ⟨fun pins s σ H Q I q => h.run pins s σ H Q I (k _ _ _ q)⟩
theorem PWimp {t t' : TT} (h : L2.PW X e t) (k : ∀ σ H Q, t' σ H Q → t σ H Q) : L2.PW X e t' := ⟨fun w pins s σ H Q I q => h.run w pins s σ H Q I (k _ _ _ q)⟩
theorem _root_.L2.PA.imp {t t' : TA} (h : PA X es t) (k : ∀ σ H Q, t' σ H Q → t σ H Q) : PA X es t' := ⟨fun pos pins s σ H Q I q => h.run pos pins s σ H Q I (k _ _ _ q)⟩
theorem OpR.or {f : Value → Value → Sem Value} {r r' : R2} (h : OpR X f r) (h' : OpR X f r') : OpR X f (fun x y H Q => r x y H Q ∨ r' x y H Q) := fun pins s σ H x y v u Q I a b q =>
  q.elim (h pins s σ H x y v u Q I a b) (h' pins s σ H x y v u Q I a b)
theorem CallR.or {f : Value} {r r' : List V → Hp → VK → Prop} (h : CallR X f r) (h' : CallR X f r') : CallR X f (fun xs H Q => r xs H Q ∨ r' xs H Q) := fun pins s σ H xs us Q I a q =>
  q.elim (h pins s σ H xs us Q I a) (h' pins s σ H xs us Q I a)
end
end ML
namespace ML
open PySem PySem.Spec L2
mutual
def dataW (f : Nat → Option PyData) : A → Option PyData
  | .non => some .none
  | .bl b => some (.bool b)
  | .int i => some (.int i)
  | .str x => some (.str x)
  | .tup xs => (dataWs f xs).map .tuple
  | .scr xs => (dataWs f xs).map .list
  | .ref i => f i
def dataWs (f : Nat → Option PyData) : List A → Option (List PyData)
  | [] => some []
  | x :: xs => match dataW f x, dataWs f xs with
    | some d, some ds => some (d :: ds)
    | _, _ => none
end
def derefN : Nat → Store → Nat → Option PyData
  | 0, _, _ => none
  | n + 1, st, i => match st[i]? with
    | some (.lst xs) => (dataWs (derefN n st) xs).map .list
    | _ => none
def dataOf (st : Store) (a : A) : Option PyData := dataW (derefN 4 st) a
section
variable {K : PySem.W.Frag} {w : World} {mg : Str → Option Value} {φ φ' : List Addr} {H H' : Hp} {st : Store}
mutual
theorem dataW_ok {f : Nat → Option PyData} (hf : ∀ i d p, f i = some d → φ[i]? = some p → Dp K H (.ref p) d) : ∀ {v : V} {a : A} {d : PyData}, RV K φ H v a → dataW f a = some d → Dp K H v d
  | _, _, _, .non, h => by simp only [dataW] at h; cases h; exact .non
  | _, _, _, .bl b, h => by simp only [dataW] at h; cases h; exact .bl b
  | _, _, _, .int i, h => by simp only [dataW] at h; cases h; exact .int i
  | _, _, _, .str x, h => by simp only [dataW] at h; cases h; exact .str x
  | _, _, _, .tup (ds := ds) q r, h => by
    simp only [dataW] at h
    cases e : dataWs f ds with
    | none => rw [e] at h; cases h
    | some es =>
      rw [e] at h
      cases h
      exact .tup q.sq (dataWs_ok hf r e)
  | _, _, _, .scr (ds := ds) q r, h => by
    simp only [dataW] at h
    cases e : dataWs f ds with
    | none => rw [e] at h; cases h
    | some es =>
      rw [e] at h
      cases h
      exact .lst q.sq (dataWs_ok hf r e)
  | _, _, _, .ref q, h => by
    simp only [dataW] at h
    exact hf _ _ _ h q
theorem dataWs_ok {f : Nat → Option PyData} (hf : ∀ i d p, f i = some d → φ[i]? = some p → Dp K H (.ref p) d) : ∀ {vs : List V} {as : List A} {ds : List PyData}, RVs K φ H vs as → dataWs f as = some ds → DpAll K H vs ds
  | _, _, _, .nil, h => by simp only [dataWs] at h; cases h; exact .nil
  | _, _, _, .cons (d := x) (ds := xs) q r, h => by
    simp only [dataWs] at h
    cases e1 : dataW f x with
    | none => rw [e1] at h; cases h
    | some d =>
      cases e2 : dataWs f xs with
      | none => rw [e1, e2] at h; cases h
      | some ds =>
        rw [e1, e2] at h
        cases h
        exact .cons (dataW_ok hf q e1) (dataWs_ok hf r e2)
end
theorem derefN_ok (rs : RS K w mg φ H st) : ∀ (n i : Nat) (d : PyData) (p : Addr), derefN n st i = some d → φ[i]? = some p → Dp K H (.ref p) d
  | 0, _, _, _, h, _ => by cases h
  | n + 1, i, d, p, h, hp => by
    unfold derefN at h
    cases e : st[i]? with
    | none => rw [e] at h; cases h
    | some o =>
      cases o with
      | oth u => rw [e] at h; cases h
      | lst xs =>
        rw [e] at h
        obtain ⟨ys, h1, h2⟩ := rs.lst hp e
        cases e2 : dataWs (derefN n st) xs with
        | none => simp only [e2] at h; cases h
        | some ds =>
          simp only [e2] at h
          cases h
          exact .lst (.inl (.inl h1)) (dataWs_ok (derefN_ok rs n) h2 e2)
theorem dataOf_ok (rs : RS K w mg φ H st) {v : V} {a : A} {d : PyData} (r : RV K φ H v a) (h : dataOf st a = some d) : Dp K H v d := dataW_ok (derefN_ok rs 4) r h
end
def addA : A → A → Store → R A
  | .int i, .int j, st => .ok (.int (i + j)) st
  | .str x, .str y, st => if x.length + y.length ≤ sizeLine then .ok (.str (x ++ y)) st else .bad
  | .tup xs, .tup ys, st => if xs.length + ys.length ≤ sizeLine then .ok (.tup (xs ++ ys)) st else .bad
  | .ref i, .ref j, st => match st[i]?, st[j]? with
    | some (.lst xs), some (.lst ys) => if xs.length + ys.length ≤ sizeLine then .ok (.ref st.length) (st ++ [.lst (xs ++ ys)]) else .bad
    | _, _ => .bad
  | _, _, _ => .bad
def subA : A → A → Store → R A
  | .int i, .int j, st => .ok (.int (i - j)) st
  | _, _, _ => .bad
abbrev CMulA (i j : Int) : Prop := ((-(2 ^ 64) < i ∧ i < 2 ^ 64) ∨ (-(2 ^ 64) < j ∧ j < 2 ^ 64)) ∨ (Builtin.Int.intBits i : Int) + (Builtin.Int.intBits j : Int) ≤ 134217728
def mulA : A → A → Store → R A
  | .int i, .int j, st => if CMulA i j then .ok (.int (i * j)) st else .bad
  | .ref i, .int k, st => match st[i]? with
    | some (.lst xs) => if -(2 ^ 63) ≤ k ∧ k < 2 ^ 63 ∧ xs.length * k.toNat ≤ sizeLine then .ok (.ref st.length) (st ++ [.lst (List.replicate k.toNat xs).flatten]) else .bad
    | _ => .bad
  | .tup xs, .int k, st => if 0 ≤ k ∧ k ≤ 1000000 ∧ xs.length * k.toNat ≤ sizeLine then .ok (.tup (List.replicate k.toNat xs).flatten) st else .bad
  | _, _, _ => .bad
def fdivA : A → A → Store → R A
  | .int i, .int j, st => if 0 < j ∧ j.natAbs.log2 < 9000 then .ok (.int (i / j)) st else .bad
  | _, _, _ => .bad
def modA : A → A → Store → R A
  | .int i, .int j, st => if 0 < j then .ok (.int (i % j)) st else .bad
  | _, _, _ => .bad
def powA : A → A → Store → R A
  | .int i, .int j, st => if 0 ≤ j ∧ j ≤ 1000000 ∧ i.natAbs < 2 ^ 64 then .ok (.int (i ^ j.toNat)) st else .bad
  | _, _, _ => .bad
def andA : A → A → Store → R A
  | .int i, .int j, st => .ok (.int (Builtin.bitAnd i j)) st
  | _, _, _ => .bad
def xorA : A → A → Store → R A
  | .int i, .int j, st => .ok (.int (Builtin.bitXor i j)) st
  | _, _, _ => .bad
def shrA : A → A → Store → R A
  | .int i, .int j, st => if 0 ≤ j then .ok (.int (i / 2 ^ j.toNat)) st else .bad
  | _, _, _ => .bad
def negA : A → Store → R A
  | .int i, st => .ok (.int (-i)) st
  | _, _ => .bad
def ltA : A → A → Store → R A
  | .int i, .int j, st => .ok (.bl (decide (i < j))) st
  | .str x, .str y, st => .ok (.bl (decide (x.cps.toList < y.cps.toList))) st
  | _, _, _ => .bad
def gtA : A → A → Store → R A
  | .int i, .int j, st => .ok (.bl (decide (j < i))) st
  | .str x, .str y, st => .ok (.bl (decide (y.cps.toList < x.cps.toList))) st
  | _, _, _ => .bad
def geA : A → A → Store → R A
  | .int i, .int j, st => .ok (.bl (decide (j ≤ i))) st
  | _, _, _ => .bad
def eqS : A → A → Option Bool
  | .int i, .int j => some (decide (i = j))
  | .str x, .str y => some (decide (x = y))
  | .bl a, .bl b => some (decide (a = b))
  | .non, .non => some true
  | .int _, .str _ => some false
  | .str _, .int _ => some false
  | .non, .int _ => some false
  | .int _, .non => some false
  | .non, .str _ => some false
  | .str _, .non => some false
  | _, _ => none
theorem eqS_ok {K : PySem.W.Frag} {φ : List Addr} {H : Hp} {x y : V} {a b : A} {k : Bool} (ra : RV K φ H x a) (rb : RV K φ H y b) (h : eqS a b = some k) : scal x y = true ∧ decide (x = y) = k := by
  cases ra <;> cases rb <;> first | (cases h; exact ⟨rfl, by simp⟩) | cases h
def eqB (x y : A) (st : Store) : Option Bool := match eqS x y with
  | some b => some b
  | none => match dataOf st x, dataOf st y with
    | some d, some e => if SeqAt.shaped d = true ∧ SeqAt.shaped e = true then some (PyData.eqv d e) else none
    | _, _ => none
def eqA (x y : A) (st : Store) : R A := match eqB x y st with
  | some b => .ok (.bl b) st
  | none => .bad
def isNonA : A → Bool
  | .non => true
  | _ => false
def isNA : A → A → Store → R A
  | x, .non, st => .ok (.bl (isNonA x)) st
  | _, _, _ => .bad
def notNA : A → A → Store → R A
  | x, .non, st => .ok (.bl (!isNonA x)) st
  | _, _, _ => .bad
def OpS (X : Cx) (r : R2) (g : A → A → Store → R A) : Prop := ∀ (W : WH) (φ : List Addr) (H : Hp) (st : Store) (x y : V) (a b : A) (Q : VK), RS X.K X.w X.mg φ H st → RV X.K φ H x a → RV X.K φ H y b → Pst X.K X.w X.mg (RV X.K) W φ H (g a b st) Q → r x y H Q
section
variable {X : Cx} {W : WX} {a b e : Expr} {es : List Expr} {ma mb : MX} {pos : Pos}
def mVar (i : Nat) : MX := fun ρ st => match ρ[i]? with
  | some (some a) => .ok a st
  | _ => .bad
def mC (a : A) : MX := fun _ st => .ok a st
theorem me_var (i : Nat) {x : Str} {pos : Pos} (hN : X.N[i]? = some x := by rfl) (hv : Vis X.env.scope x := by first | exact Or.inl rfl | exact Or.inr (Or.inl rfl) | exact Or.inr (Or.inr rfl)) (hd : (x == ("__debug__" : Str)) = false := by decide)
    (hcd : (x == ("__classdict__" : Str)) = false := by decide) : PE X (.Name x pos) (tE X W (mVar i)) := (pv i hN hv hd hcd).imp fun σ H Q ⟨φ, ρ, st, rs, re, h⟩ => by
  unfold mVar at h
  cases q : ρ[i]? with
  | none => rw [q] at h; exact h.elim
  | some o =>
    cases o with
    | none => rw [q] at h; exact h.elim
    | some d =>
      rw [q] at h
      obtain ⟨v, h1, h2⟩ := re.all i d q
      exact ⟨v, h1, h.ok rs h2⟩
theorem me_int {i : Int} {j pos} : PE X (.Constant (.int i) j pos) (tE X W (mC (.int i))) := pe_int.imp fun _ _ _ ⟨_, _, _, rs, _, h⟩ => h.ok rs (.int i)
theorem me_bl {b : Bool} {j pos} : PE X (.Constant (.bool b) j pos) (tE X W (mC (.bl b))) := pe_bl.imp fun _ _ _ ⟨_, _, _, rs, _, h⟩ => h.ok rs (.bl b)
theorem me_non {j pos} : PE X (.Constant .none j pos) (tE X W (mC .non)) := pe_non.imp fun _ _ _ ⟨_, _, _, rs, _, h⟩ => h.ok rs .non
theorem me_str {x : Str} {j pos} : PE X (.Constant (.str x) j pos) (tE X W (mC (.str x))) := pe_str.imp fun _ _ _ ⟨_, _, _, rs, _, h⟩ => h.ok rs (.str x)
theorem me_glob {x : Str} {v : V} {u : Value} {d : A} {pos : Pos} (hg : Gl X x) (hm : X.mg x = some u) (r : RelV v u) (hv : ∀ φ H, RV X.K φ H v d) (hd : (x == ("__debug__" : Str)) = false := by decide) : PE X (.Name x pos) (tE X W (mC d)) :=
  (pe_glob hg hm r hd).imp fun _ H _ ⟨φ, _, _, rs, _, h⟩ => h.ok rs (hv φ H)
def mBin (g : A → A → Store → R A) (ma mb : MX) : MX := fun ρ st => (ma ρ st).bind fun x st1 => (mb ρ st1).bind fun y st2 => g x y st2
def mUn (g : A → Store → R A) (ma : MX) : MX := fun ρ st => (ma ρ st).bind fun x st1 => g x st1
theorem bin_ok {r : R2} {g : A → A → Store → R A} (hg : OpS X r g) {σ : L2.St} {H : Hp} {Q : VK} (h : tE X W (mBin g ma mb) σ H Q) : tOp r (tE X W ma) (tE X W mb) σ H Q := by
  obtain ⟨φ, ρ, st, rs, re, h⟩ := h
  exact ⟨φ, ρ, st, rs, re, h.seq fun φ1 a x H1 st1 e1 rs1 rv1 h1 => ⟨φ1, ρ, st1, rs1, re.ext e1, h1.seq fun φ2 b y H2 st2 e2 rs2 rv2 h2 => hg _ _ _ _ _ _ _ _ _ rs2 (rv1.ext e2) rv2 h2⟩⟩
theorem me_bin {op : Operator} {r : R2} {g : A → A → Store → R A} (ho : OpR X (binaryOp op) r) (hg : OpS X r g) (ha : PE X a (tE X W ma)) (hb : PE X b (tE X W mb)) : PE X (.BinOp a op b pos) (tE X W (mBin g ma mb)) := (pe_op ho ha hb).imp fun _ _ _ h => bin_ok hg h
theorem me_cmp {op : CmpOp} {r : R2} {g : A → A → Store → R A} (ho : OpR X (compareOp op) r) (hg : OpS X r g) (ha : PE X a (tE X W ma)) (hb : PE X b (tE X W mb)) (hm : behindInMarks op b = false := by first | exact nomark _ | rfl) : PE X (.Compare a [op] [b] pos) (tE X W (mBin g ma mb)) := (pe_cmpR ho ha hb hm).imp fun _ _ _ h => bin_ok hg h
theorem me_neg (ha : PE X a (tE X W ma)) : PE X (.UnaryOp .USub a pos) (tE X W (mUn negA ma)) := (pe_un un_neg ha).imp fun σ H Q ⟨φ, ρ, st, rs, re, h⟩ => by
  refine ⟨φ, ρ, st, rs, re, h.seq fun φ1 a x H1 st1 e1 rs1 rv1 h1 => ?_⟩
  cases rv1 with
  | int i => exact ⟨i, rfl, h1.ok rs1 (.int _)⟩
  | _ => exact (show False from h1).elim
def truA : A → Store → R Bool
  | .non, st => .ok false st
  | .bl b, st => .ok b st
  | .int i, st => .ok (i != 0) st
  | .str x, st => if x.length ≤ sizeLine then .ok ((x.length : Int) != 0) st else .bad
  | .tup xs, st => .ok (!xs.isEmpty) st
  | .scr xs, st => .ok (!xs.isEmpty) st
  | .ref i, st => match st[i]? with
    | some (.lst xs) => .ok (!xs.isEmpty) st
    | _ => .bad
def mTru (ma : MX) : MT := fun ρ st => (ma ρ st).bind truA
def mAnd (ma mb : MT) : MT := fun ρ st => (ma ρ st).bind fun x st1 => if x = true then mb ρ st1 else .ok false st1
def mOr (ma mb : MT) : MT := fun ρ st => (ma ρ st).bind fun x st1 => if x = true then .ok true st1 else mb ρ st1
def mNot (ma : MT) : MT := fun ρ st => (ma ρ st).bind fun x st1 => .ok (!x) st1
theorem RVs.empty {K : PySem.W.Frag} {φ : List Addr} {H : Hp} {xs : List V} {ds : List A} (q : RVs K φ H xs ds) : xs.isEmpty = ds.isEmpty := by
  cases q <;> rfl
theorem tru_ok' {K : PySem.W.Frag} {mg : Str → Option Value} {W : WH} {φ : List Addr} {H : Hp} {st : Store} {x : V} {a : A} {Q : Bool → Hp → Prop} (rs : RS K w mg φ H st) (r : RV K φ H x a) (h : Pst K w mg rlB W φ H (truA a st) Q) : ∃ k, TruV K x H k ∧ Q k H := by
  cases r with
  | non => exact ⟨false, rfl, h.ok rs rfl⟩
  | bl b => exact ⟨b, rfl, h.ok rs rfl⟩
  | int i => exact ⟨_, rfl, h.ok rs rfl⟩
  | str x =>
    by_cases hz : x.length ≤ sizeLine
    · rw [truA, if_pos hz] at h
      exact ⟨_, ⟨hz, rfl⟩, h.ok rs rfl⟩
    · rw [truA, if_neg hz] at h
      exact h.elim
  | tup q q2 => exact ⟨_, .inr (.inl ⟨_, q.sq, rfl⟩), h.ok rs (by rw [q2.empty])⟩
  | scr q q2 => exact ⟨_, .inl ⟨_, q.sq, rfl⟩, h.ok rs (by rw [q2.empty])⟩
  | @ref p i q =>
    unfold truA at h
    simp only at h
    cases e : st[i]? with
    | none => rw [e] at h; exact h.elim
    | some o =>
      cases o with
      | oth u => rw [e] at h; exact h.elim
      | lst ds =>
        rw [e] at h
        obtain ⟨xs, h1, h2⟩ := rs.lst q e
        exact ⟨_, .inl ⟨_, .inl (.inl h1), rfl⟩, h.ok rs (by rw [h2.empty])⟩
theorem mt_tru (ha : PE X a (tE X W ma)) (he : ∀ whole, isTrue a X.env whole = (do let v ← whole; standAt a.pos; holding [v] (truthy v)) := by intro _; rfl) : PT X a (tT X W (mTru ma)) := (pt_truth ha he).imp fun σ H Q ⟨φ, ρ, st, rs, re, h⟩ => by
  refine ⟨φ, ρ, st, rs, re, h.seq fun φ1 a x H1 st1 e1 rs1 rv1 h1 => ?_⟩
  exact tru_ok' rs1 rv1 h1
def getB : A → Store → R Bool
  | .bl b, st => .ok b st
  | _, _ => .bad
def mGB (ma : MX) : MT := fun ρ st => (ma ρ st).bind getB
theorem getB_ok {K : PySem.W.Frag} {mg : Str → Option Value} {W : WH} {φ : List Addr} {H : Hp} {st : Store} {x : V} {a : A} {Q : Bool → Hp → Prop} (rs : RS K w mg φ H st) (r : RV K φ H x a) (h : Pst K w mg rlB W φ H (getB a st) Q) : ∃ k, x = .bl k ∧ Q k H := by
  cases r with
  | bl b => exact ⟨b, rfl, h.ok rs rfl⟩
  | _ => exact (show False from h).elim
theorem mt_cmp {op : CmpOp} {r : R2} {g : A → A → Store → R A} (ho : OpR X (compareOp op) r) (hg : OpS X r g) (ha : PE X a (tE X W ma)) (hb : PE X b (tE X W mb)) (hm : behindInMarks op b = false := by first | exact nomark _ | rfl) : PT X (.Compare a [op] [b] pos) (tT X W (mGB (mBin g ma mb))) := (pt_cmpR ho ha hb hm).imp fun σ H Q h => by
  refine bin_ok (W := W) hg ?_
  obtain ⟨φ, ρ, st, rs, re, h⟩ := h
  exact ⟨φ, ρ, st, rs, re, h.seq fun φ1 a x H1 st1 e1 rs1 rv1 h1 => getB_ok rs1 rv1 h1⟩
variable {ta tb : MT} {rest : List Expr}
theorem mw_and1 (ha : PT X a (tT X W ta)) : L2.PW X (.BoolOp .And [a] pos) (tT X W ta) := pw_and1 ha
theorem mw_or1 (ha : PT X a (tT X W ta)) : L2.PW X (.BoolOp .Or [a] pos) (tT X W ta) := pw_or1 ha
theorem mw_and (ha : PT X a (tT X W ta)) (hb : L2.PW X (.BoolOp .And (b :: rest) pos) (tT X W tb)) : L2.PW X (.BoolOp .And (a :: b :: rest) pos) (tT X W (mAnd ta tb)) := PWimp (pw_and ha hb) fun σ H Q ⟨φ, ρ, st, rs, re, h⟩ => by
  refine ⟨φ, ρ, st, rs, re, h.seq fun φ1 a x H1 st1 e1 rs1 rv1 h1 => ?_⟩
  subst rv1
  cases x with
  | true => exact iteT ⟨φ1, ρ, st1, rs1, re.ext e1, h1⟩
  | false => exact iteF (h1.ok rs1 rfl)
theorem mw_or (ha : PT X a (tT X W ta)) (hb : L2.PW X (.BoolOp .Or (b :: rest) pos) (tT X W tb)) : L2.PW X (.BoolOp .Or (a :: b :: rest) pos) (tT X W (mOr ta tb)) := PWimp (pw_or ha hb) fun σ H Q ⟨φ, ρ, st, rs, re, h⟩ => by
  refine ⟨φ, ρ, st, rs, re, h.seq fun φ1 a x H1 st1 e1 rs1 rv1 h1 => ?_⟩
  subst rv1
  cases x with
  | false => exact iteF ⟨φ1, ρ, st1, rs1, re.ext e1, h1⟩
  | true => exact iteT (h1.ok rs1 rfl)
theorem mt_not (ha : PT X a (tT X W ta)) : PT X (.UnaryOp .Not a pos) (tT X W (mNot ta)) := (pt_not ha).imp fun σ H Q ⟨φ, ρ, st, rs, re, h⟩ => by
  refine ⟨φ, ρ, st, rs, re, h.seq fun φ1 a x H1 st1 e1 rs1 rv1 h1 => ?_⟩
  exact h1.ok rs1 (by rw [show x = a from rv1])
def mAndV (ma mb : MX) : MX := fun ρ st => (ma ρ st).bind fun x st1 => (getB x st1).bind fun k st2 => if k = true then mb ρ st2 else .ok (.bl false) st2
theorem me_one {op} (ha : PE X a (tE X W ma)) : PE X (.BoolOp op [a] pos) (tE X W ma) := pe_one ha
theorem getB_seq {K : PySem.W.Frag} {mg : Str → Option Value} {W : WH} {φ : List Addr} {H : Hp} {st : Store} {x : V} {a : A} {f : Bool → Store → R A} {Q : VK} (r : RV K φ H x a) (h : Pst K w mg (RV K) W φ H ((getB a st).bind f) Q) : ∃ k, x = .bl k ∧ Pst K w mg (RV K) W φ H (f k st) Q := by
  cases r with
  | bl b => exact ⟨b, rfl, h⟩
  | _ => exact (show False from h).elim
theorem me_and (ha : PE X a (tE X W ma)) (hb : PE X (.BoolOp .And (b :: rest) pos) (tE X W mb)) : PE X (.BoolOp .And (a :: b :: rest) pos) (tE X W (mAndV ma mb)) := (pe_and ha hb).imp fun σ H Q ⟨φ, ρ, st, rs, re, h⟩ => by
  refine ⟨φ, ρ, st, rs, re, h.seq fun φ1 a x H1 st1 e1 rs1 rv1 h1 => ?_⟩
  obtain ⟨k, hk, h2⟩ := getB_seq rv1 h1
  refine ⟨k, hk, ?_⟩
  cases k with
  | true => exact iteT ⟨φ1, ρ, st1, rs1, re.ext e1, h2⟩
  | false => exact iteF (h2.ok rs1 (.bl _))
def mNil : MA := fun _ st => .ok [] st
def mCons (ma : MX) (mr : MA) : MA := fun ρ st => (ma ρ st).bind fun x st1 => (mr ρ st1).bind fun xs st2 => .ok (x :: xs) st2
theorem ma_nil : PA X [] (tA X W mNil) := pa_nil.imp fun _ _ _ ⟨_, _, _, rs, _, h⟩ => h.ok rs .nil
variable {mr : MA}
theorem ma_cons (ha : PE X e (tE X W ma)) (hr : PA X es (tA X W mr)) (hs : starEach (e :: es) X.env = (false, eval e X.env) :: starEach es X.env := by rfl) : PA X (e :: es) (tA X W (mCons ma mr)) := (pa_cons ha hr hs).imp fun σ H Q ⟨φ, ρ, st, rs, re, h⟩ =>
  ⟨φ, ρ, st, rs, re, h.seq fun φ1 a x H1 st1 e1 rs1 rv1 h1 => ⟨φ1, ρ, st1, rs1, re.ext e1, h1.seq fun φ2 b y H2 st2 e2 rs2 rv2 h2 => h2.ok rs2 (.cons (rv1.ext e2) rv2)⟩⟩
def mTup (ms : MA) : MX := fun ρ st => (ms ρ st).bind fun xs st1 => if xs.length ≤ sizeLine then .ok (.tup xs) st1 else .bad
def mLst (ms : MA) : MX := fun ρ st => (ms ρ st).bind fun xs st1 => if xs.length ≤ sizeLine then .ok (.ref st1.length) (st1 ++ [.lst xs]) else .bad
theorem me_tup {x1} (h : PA X es (tA X W mr)) : PE X (.Tuple es x1 pos) (tE X W (mTup mr)) := (pe_tupP h).imp fun σ H Q ⟨φ, ρ, st, rs, re, h⟩ => by
  refine ⟨φ, ρ, st, rs, re, h.seq fun φ1 as xs H1 st1 e1 rs1 rv1 h1 => ?_⟩
  by_cases hz : as.length ≤ sizeLine
  · rw [if_pos hz] at h1
    exact ⟨by rw [rv1.length]; exact hz, fun p o hd hp => h1 φ1 _ _ (ext_new hp) (rs1.new hp) (.newTup rs1 hd hp rv1)⟩
  · rw [if_neg hz] at h1
    exact h1.elim
theorem me_lst (h : PA X es (tA X W mr)) : PE X (.List es pos) (tE X W (mLst mr)) := (pe_lst h).imp fun σ H Q ⟨φ, ρ, st, rs, re, h⟩ => by
  refine ⟨φ, ρ, st, rs, re, h.seq fun φ1 as xs H1 st1 e1 rs1 rv1 h1 => ?_⟩
  by_cases hz : as.length ≤ sizeLine
  · rw [if_pos hz] at h1
    exact ⟨by rw [rv1.length]; exact hz, fun p hp => h1 _ _ _ (ext_alloc rs1 hp) (rs1.alloc hp rv1) (.newLst rs1)⟩
  · rw [if_neg hz] at h1
    exact h1.elim
end
section
open PyProof.Rows
theorem tuple_mul_same (l : Addr) (items : Array Value) (n : Nat) (dd : Option Addr) (sl : Array (Option Value)) (x : Int) (u : Tok) (c0 : (decide (x < -(2 ^ 63)) || decide (x ≥ 2 ^ 63)) = false) (c1 : (items.isEmpty || x == 1) = true) :
    Meets (Builtin.«tuple.__mul__» ⟨[.ref l, .int x u], []⟩) (fun _ R s => s.heap.get? l = some { cls := .type "tuple", dict := dd, data := .seq items n, slots := sl } ∧
      R (.ok (.ret (Value.ref l))) s) :=
  .of_wp fun prog w A R s h => by
    obtain ⟨hp, g, d, tk, os⟩ := s
    obtain ⟨hl, h⟩ := h
    have f1 := AutoSeq1.idx_int
    wp_walk using wpAny_loadPart' hl
    repeat (first
      | (refine wpAny_ite_false (decide_eq_false (by rw [c0]; exact Bool.false_ne_true)) ?_; wp_walk using wpAny_loadPart' hl)
      | (refine wpAny_ite_true (decide_eq_true (by rw [c1])) ?_; wp_walk using wpAny_loadPart' hl))
    exact ⟨_, rfl, h⟩
theorem tuple_mul_none (l : Addr) (items : Array Value) (n : Nat) (dd : Option Addr) (sl : Array (Option Value)) (x : Int) (u : Tok) (c0 : (decide (x < -(2 ^ 63)) || decide (x ≥ 2 ^ 63)) = false) (c1 : (items.isEmpty || x == 1) = false) (c2 : (decide (x ≤ 0) || items.isEmpty) = true) :
    Meets (Builtin.«tuple.__mul__» ⟨[.ref l, .int x u], []⟩) (fun _ R s => s.heap.get? l = some { cls := .type "tuple", dict := dd, data := .seq items n, slots := sl } ∧
      R (.ok (.ret (Value.ref s.heap.objs.size))) { s with heap := s.heap.push { cls := Value.type "tuple", data := Data.seq #[] }, toks := s.toks }) :=
  .of_wp fun prog w A R s h => by
    obtain ⟨hp, g, d, tk, os⟩ := s
    obtain ⟨hl, h⟩ := h
    have f1 := AutoSeq1.idx_int
    wp_walk using wpAny_loadPart' hl
    repeat (first
      | (refine wpAny_ite_false (decide_eq_false (by rw [c0]; exact Bool.false_ne_true)) ?_; wp_walk using wpAny_loadPart' hl)
      | (refine wpAny_ite_false (decide_eq_false (by rw [c1]; exact Bool.false_ne_true)) ?_; wp_walk using wpAny_loadPart' hl)
      | (refine wpAny_ite_true (decide_eq_true (by rw [c2])) ?_; wp_walk using wpAny_loadPart' hl))
    exact ⟨_, rfl, h⟩
def rRepU (K : PySem.W.Frag) : R2 := fun x y H Q => ∃ l k xs, x = .ref l ∧ y = .int k ∧ SqT K H l xs ∧ 0 ≤ k ∧ k ≤ 1000000 ∧ xs.length * k.toNat ≤ sizeLine ∧
  (((xs = [] ∨ k = 1) ∧ Q (.ref l) H) ∨ (xs ≠ [] ∧ k ≠ 1 ∧ NewT H (List.replicate k.toNat xs).flatten Q))
section
variable {X : Cx}
theorem op_repU : OpR X (binaryOp .Mult) (rRepU X.K) := by
  intro pins s σ H x y v u Q I rx ry h
  obtain ⟨l, k, xs, rfl, rfl, hT, h1, h2, hz, q⟩ := h
  cases rx
  obtain ⟨t, rfl⟩ := ry
  obtain ⟨its, r, ⟨⟨cls, dd, data, sl⟩, ho, hc, n, hd⟩, hs⟩ := I.tuple hT
  simp only at hc hd
  subst hc hd
  have hle : its.length = xs.length := r.length.symm
  have hsz0 : its.toArray.size = xs.length := by rw [List.size_toArray, hle]
  have c0 : (decide (k < -(2 ^ 63)) || decide (k ≥ 2 ^ 63)) = false := by
    rw [decide_eq_false (by omega), decide_eq_false (by omega)] <;> rfl
  rcases q with ⟨hq, q⟩ | ⟨hne, hk1, q⟩
  · have c1 : (its.toArray.isEmpty || k == 1) = true := by
      rcases hq with e | e
      · subst e
        have : its = [] := List.eq_nil_of_length_eq_zero (by rw [hle]; rfl)
        subst this
        rfl
      · subst e
        simp
    refine wpAny_binaryOp_repeat_ref (T := "tuple") (U := "int") (by decide) ⟨_, ho, rfl⟩ (fun s' => typeIs_int s' k t) noFill_tuple_mul F.fills_int_mul F.slot_int_rmul repeat_tuple F.slot_int_index.lookup
      (call_meets F.slot_int_rmul (typeIs_int s k t) F.entry_int_rmul (F.args_int_rmul_2 _ _) (int_rmul_tuple k t l its.toArray n dd sl)
        ⟨ho, rfl, ⟨_, ho, rfl⟩, call_meets F.slot_tuple_mul ⟨_, ho, rfl⟩ F.entry_tuple_mul (F.args_tuple_mul_2 _ _) (tuple_mul_same l its.toArray n dd sl k t c0 c1) ⟨ho, ?_⟩⟩)
    exact ⟨.ref l, H, I, rfl, q⟩
  · have hn : its ≠ [] := fun e => hne (by
      rw [e] at hle
      exact List.eq_nil_of_length_eq_zero hle.symm)
    have hi : its.toArray.isEmpty = false := by
      cases its with
      | nil => exact absurd rfl hn
      | cons a b => rfl
    have c1 : (its.toArray.isEmpty || k == 1) = false := by
      rw [hi, Bool.false_or]
      exact beq_eq_false_iff_ne.mpr hk1
    by_cases k0 : k = 0
    · subst k0
      have c2 : (decide ((0 : Int) ≤ 0) || its.toArray.isEmpty) = true := by simp
      refine wpAny_binaryOp_repeat_ref (T := "tuple") (U := "int") (by decide) ⟨_, ho, rfl⟩ (fun s' => typeIs_int s' 0 t) noFill_tuple_mul F.fills_int_mul F.slot_int_rmul repeat_tuple F.slot_int_index.lookup
        (call_meets F.slot_int_rmul (typeIs_int s 0 t) F.entry_int_rmul (F.args_int_rmul_2 _ _) (int_rmul_tuple 0 t l its.toArray n dd sl)
          ⟨ho, rfl, ⟨_, ho, rfl⟩, call_meets F.slot_tuple_mul ⟨_, ho, rfl⟩ F.entry_tuple_mul (F.args_tuple_mul_2 _ _) (tuple_mul_none l its.toArray n dd sl 0 t c0 c1 c2) ⟨ho, ?_⟩⟩)
      exact new_tup (its := []) (xs := []) I .nil (Nat.zero_le _) q
    · have c2 : (decide (k ≤ 0) || its.toArray.isEmpty) = false := by
        rw [hi, Bool.or_false]
        exact decide_eq_false (by omega)
      have hm : ((its.toArray.size : Nat) : Int) * k ≤ 16777216 := by
        rw [hsz0]
        have e1 : ((xs.length * k.toNat : Nat) : Int) = ((xs.length : Nat) : Int) * k := by
          rw [Int.natCast_mul, Int.toNat_of_nonneg h1]
        rw [← e1]
        rw [sizeLine_eq] at hz
        omega
      have flen : (List.replicate k.toNat its).flatten.length ≤ sizeLine := by
        rw [PyProof.Rows.lm_len_rep_flat, hle, Nat.mul_comm]
        exact hz
      have c4 : Builtin.Tuple.tupleTooMany (((its.toArray.size : Nat) : Int) * k) = false := by
        unfold Builtin.Tuple.tupleTooMany
        rw [sizeLine_eq]
        exact decide_eq_false (by omega)
      refine wpAny_binaryOp_repeat_ref (T := "tuple") (U := "int") (by decide) ⟨_, ho, rfl⟩ (fun s' => typeIs_int s' k t) noFill_tuple_mul F.fills_int_mul F.slot_int_rmul repeat_tuple F.slot_int_index.lookup
        (call_meets F.slot_int_rmul (typeIs_int s k t) F.entry_int_rmul (F.args_int_rmul_2 _ _) (int_rmul_tuple k t l its.toArray n dd sl)
          ⟨ho, rfl, ⟨_, ho, rfl⟩, call_meets F.slot_tuple_mul ⟨_, ho, rfl⟩ F.entry_tuple_mul (F.args_tuple_mul_2 _ _) (tuple_mulW l its.toArray n dd sl k t c0 c1 c2 (by omega) c4 (by rw [size_rep, List.size_toArray]; exact flen)) ⟨ho, ?_⟩⟩)
      rw [size_rep]
      exact new_tup I (r.rep k.toNat) (by rw [PyProof.Rows.lm_len_rep_flat, Nat.mul_comm]; exact hz) q
end
end
section
variable {X : Cx}
def rCatP (K : PySem.W.Frag) : R2 := fun x y H Q => ∃ a b xs ys, x = .ref a ∧ y = .ref b ∧ SqT K H a xs ∧ SqT K H b ys ∧ xs.length + ys.length ≤ sizeLine ∧ (xs = [] → Q (.ref b) H) ∧ (ys = [] → Q (.ref a) H) ∧ NewT H (xs ++ ys) Q
theorem op_catP : OpR X (binaryOp .Add) (rCatP X.K) := by
  intro pins s σ H x y v u Q I rx ry ⟨a, b, xs, ys, ex, ey, ha, hb, hz, q0, q1, q2⟩
  subst ex ey
  cases rx
  cases ry
  obtain ⟨its, r1, p1, _⟩ := I.tuple ha
  obtain ⟨jts, r2, p2, _⟩ := I.tuple hb
  by_cases hx : xs = []
  · subst hx
    cases r1
    exact cat_tup0 p1 p2 ⟨.ref b, H, I, rfl, q0 rfl⟩
  · exact HT.cat_tup p1 p2 (fun z => hx (r1.nil_iff.mp z)) (fun z => ⟨.ref a, H, I, rfl, q1 (r2.nil_iff.mp z)⟩) (fun z => new_tup I (r1.append r2) (by rw [List.length_append]; exact hz) q2) (by rw [← r1.length, ← r2.length]; exact hz)
abbrev rAddU (K : PySem.W.Frag) : R2 := fun x y H Q => (rI0 (fun i j => .int (i + j)) x y H Q ∨ (∃ i j, x = .str i ∧ y = .str j ∧ i.length + j.length ≤ sizeLine ∧ Q (.str (i ++ j)) H)) ∨ (rCatP K x y H Q ∨ rCat x y H Q)
theorem op_addU : OpR X (binaryOp .Add) (rAddU X.K) := OpR.or (OpR.or op_add op_add_str) (OpR.or op_catP op_cat)
theorem os_add : OpS X (rAddU X.K) addA := fun W φ H st x y a b Q rs ra rb h => by
  cases ra with
  | int i =>
    cases rb with
    | int j => exact .inl (.inl ⟨i, j, rfl, rfl, h.ok rs (.int _)⟩)
    | _ => exact (show False from h).elim
  | str i =>
    cases rb with
    | str j =>
      unfold addA at h
      simp only at h
      split at h
      · rename_i hz
        exact .inl (.inr ⟨i, j, rfl, rfl, hz, h.ok rs (.str _)⟩)
      · exact (show False from h).elim
    | _ => exact (show False from h).elim
  | @tup p xs ds q qs =>
    cases rb with
    | @tup p2 ys es q' qs' =>
      unfold addA at h
      simp only at h
      split at h
      · rename_i hz
        rw [← qs.length, ← qs'.length] at hz
        refine .inr (.inl ⟨p, p2, xs, ys, rfl, rfl, q.sq, q'.sq, hz, fun e => ?_, fun e => ?_, fun p3 o hd hp => ?_⟩)
        · subst e
          cases qs
          exact h.ok rs (.tup q' qs')
        · subst e
          cases qs'
          rw [List.append_nil] at h
          exact h.ok rs (.tup q qs)
        · exact h _ _ _ (ext_new hp) (rs.new hp) (.newTup rs hd hp (qs.app qs'))
      · exact (show False from h).elim
    | _ => exact (show False from h).elim
  | @ref p i q =>
    cases rb with
    | @ref p2 j q2 =>
      unfold addA at h
      simp only at h
      cases e1 : st[i]? with
      | none => rw [e1] at h; exact h.elim
      | some o1 =>
        cases o1 with
        | oth u => rw [e1] at h; exact h.elim
        | lst xs =>
          cases e2 : st[j]? with
          | none => rw [e1, e2] at h; exact h.elim
          | some o2 =>
            cases o2 with
            | oth u => rw [e1, e2] at h; exact h.elim
            | lst ys =>
              rw [e1, e2] at h
              simp only at h
              obtain ⟨vs, h1, h1'⟩ := rs.lst q e1
              obtain ⟨ws, h2, h2'⟩ := rs.lst q2 e2
              split at h
              · rename_i hz
                rw [← h1'.length, ← h2'.length] at hz
                exact .inr (.inr ⟨p, p2, vs, ws, rfl, rfl, h1, h2, hz, fun p3 hp => h _ _ _ (ext_alloc rs hp) (rs.alloc hp (h1'.app h2')) (.newLst rs)⟩)
              · exact (show False from h).elim
    | _ => exact (show False from h).elim
  | _ => exact (show False from h).elim
theorem os_int {C : Int → Int → Prop} [∀ i j, Decidable (C i j)] {g : Int → Int → Int} {f : A → A → Store → R A} (hf : ∀ i j st, f (.int i) (.int j) st = if C i j then .ok (.int (g i j)) st else .bad)
    (hn : ∀ a b st, (∀ i j, ¬ (a = .int i ∧ b = .int j)) → f a b st = .bad) : OpS X (rI C fun i j => .int (g i j)) f := fun W φ H st x y a b Q rs ra rb h => by
  by_cases hab : ∃ i j, a = .int i ∧ b = .int j
  · obtain ⟨i, j, rfl, rfl⟩ := hab
    cases ra
    cases rb
    rw [hf] at h
    by_cases hc : C i j
    · rw [if_pos hc] at h
      exact ⟨i, j, rfl, rfl, hc, h.ok rs (.int _)⟩
    · rw [if_neg hc] at h
      exact h.elim
  · rw [hn a b st fun i j z => hab ⟨i, j, z⟩] at h
    exact h.elim
theorem os_int0 {g : Int → Int → Int} {f : A → A → Store → R A} (hf : ∀ i j st, f (.int i) (.int j) st = .ok (.int (g i j)) st)
    (hn : ∀ a b st, (∀ i j, ¬ (a = .int i ∧ b = .int j)) → f a b st = .bad) : OpS X (rI0 fun i j => .int (g i j)) f := fun W φ H st x y a b Q rs ra rb h => by
  by_cases hab : ∃ i j, a = .int i ∧ b = .int j
  · obtain ⟨i, j, rfl, rfl⟩ := hab
    cases ra
    cases rb
    rw [hf] at h
    exact ⟨i, j, rfl, rfl, h.ok rs (.int _)⟩
  · rw [hn a b st fun i j z => hab ⟨i, j, z⟩] at h
    exact h.elim
theorem os_intB {g : Int → Int → Bool} {f : A → A → Store → R A} (hf : ∀ i j st, f (.int i) (.int j) st = .ok (.bl (g i j)) st)
    (hn : ∀ a b st, (∀ i j, ¬ (a = .int i ∧ b = .int j)) → f a b st = .bad) : OpS X (rI0 fun i j => .bl (g i j)) f := fun W φ H st x y a b Q rs ra rb h => by
  by_cases hab : ∃ i j, a = .int i ∧ b = .int j
  · obtain ⟨i, j, rfl, rfl⟩ := hab
    cases ra
    cases rb
    rw [hf] at h
    exact ⟨i, j, rfl, rfl, h.ok rs (.bl _)⟩
  · rw [hn a b st fun i j z => hab ⟨i, j, z⟩] at h
    exact h.elim
theorem os_sub : OpS X (rI0 fun i j => .int (i - j)) subA := os_int0 (fun _ _ _ => rfl) fun a b st h => by
  cases a <;> cases b <;> first | rfl | exact absurd ⟨rfl, rfl⟩ (h _ _)
theorem os_and : OpS X (rI0 fun i j => .int (Builtin.bitAnd i j)) andA := os_int0 (fun _ _ _ => rfl) fun a b st h => by
  cases a <;> cases b <;> first | rfl | exact absurd ⟨rfl, rfl⟩ (h _ _)
theorem os_xor : OpS X (rI0 fun i j => .int (Builtin.bitXor i j)) xorA := os_int0 (fun _ _ _ => rfl) fun a b st h => by
  cases a <;> cases b <;> first | rfl | exact absurd ⟨rfl, rfl⟩ (h _ _)
theorem os_ge : OpS X (rI0 fun i j => .bl (decide (j ≤ i))) geA := os_intB (fun _ _ _ => rfl) fun a b st h => by
  cases a <;> cases b <;> first | rfl | exact absurd ⟨rfl, rfl⟩ (h _ _)
theorem os_pow : OpS X (rI CPow fun i j => .int (i ^ j.toNat)) powA := os_int (C := fun i j => 0 ≤ j ∧ j ≤ 1000000 ∧ i.natAbs < 2 ^ 64) (fun _ _ _ => rfl) fun a b st h => by
  cases a <;> cases b <;> first | rfl | exact absurd ⟨rfl, rfl⟩ (h _ _)
theorem os_shr : OpS X (rI (fun _ j => 0 ≤ j) fun i j => .int (i / 2 ^ j.toNat)) shrA := os_int (C := fun _ j => 0 ≤ j) (fun _ _ _ => rfl) fun a b st h => by
  cases a <;> cases b <;> first | rfl | exact absurd ⟨rfl, rfl⟩ (h _ _)
theorem os_fdiv : OpS X (rI CDivW fun i j => .int (i / j)) fdivA := os_int (C := fun _ j => 0 < j ∧ j.natAbs.log2 < 9000) (fun _ _ _ => rfl) fun a b st h => by
  cases a <;> cases b <;> first | rfl | exact absurd ⟨rfl, rfl⟩ (h _ _)
theorem op_modP : OpR X (binaryOp .Mod) (rI (fun _ j => 0 < j) fun i j => .int (i % j)) := fun pins s σ H x y v u Q I rx ry ⟨i, j, e1, e2, hc, q⟩ =>
  op_modN pins s σ H x y v u Q I rx ry ⟨i, j, e1, e2, (show j ≠ 0 from fun z => by subst z; exact absurd hc (by decide)), by show Q (.int (i.fmod j)) H; rw [Int.fmod_eq_emod_of_nonneg i (Int.le_of_lt hc)]; exact q⟩
theorem os_mod : OpS X (rI (fun _ j => 0 < j) fun i j => .int (i % j)) modA := os_int (C := fun _ j => 0 < j) (fun _ _ _ => rfl) fun a b st h => by
  cases a <;> cases b <;> first | rfl | exact absurd ⟨rfl, rfl⟩ (h _ _)
abbrev rMulU (K : PySem.W.Frag) : R2 := fun x y H Q => (rI CMul (fun i j => .int (i * j)) x y H Q ∨ rI CMulX (fun i j => .int (i * j)) x y H Q) ∨ (rRep x y H Q ∨ rRepU K x y H Q)
theorem op_mulU : OpR X (binaryOp .Mult) (rMulU X.K) := OpR.or (OpR.or op_mul op_mulX) (OpR.or op_rep op_repU)
theorem os_mul : OpS X (rMulU X.K) mulA := fun W φ H st x y a b Q rs ra rb h => by
  cases ra with
  | int i =>
    cases rb with
    | int j =>
      unfold mulA at h
      simp only at h
      split at h
      · rename_i hz
        exact hz.elim (fun hz => .inl (.inl ⟨i, j, rfl, rfl, hz, h.ok rs (.int _)⟩)) (fun hz => .inl (.inr ⟨i, j, rfl, rfl, hz, h.ok rs (.int _)⟩))
      · exact (show False from h).elim
    | _ => exact (show False from h).elim
  | @ref p i q =>
    cases rb with
    | int k =>
      unfold mulA at h
      simp only at h
      cases e1 : st[i]? with
      | none => rw [e1] at h; exact h.elim
      | some o1 =>
        cases o1 with
        | oth u => rw [e1] at h; exact h.elim
        | lst xs =>
          rw [e1] at h
          simp only at h
          obtain ⟨vs, h1, h1'⟩ := rs.lst q e1
          split at h
          · rename_i hz
            rw [← h1'.length] at hz
            exact .inr (.inl ⟨p, k, vs, rfl, rfl, h1, hz.1, hz.2.1, hz.2.2, fun p3 hp => h _ _ _ (ext_alloc rs hp) (rs.alloc hp (h1'.flat _)) (.newLst rs)⟩)
          · exact (show False from h).elim
    | _ => exact (show False from h).elim
  | @tup p xs ds q qs =>
    cases rb with
    | int k =>
      unfold mulA at h
      simp only at h
      split at h
      · rename_i hz
        rw [← qs.length] at hz
        refine .inr (.inr ⟨p, k, xs, rfl, rfl, q.sq, hz.1, hz.2.1, hz.2.2, ?_⟩)
        by_cases c : xs = [] ∨ k = 1
        · refine .inl ⟨c, ?_⟩
          rcases c with e | e
          · subst e
            cases qs
            have e2 : (List.replicate k.toNat ([] : List A)).flatten = [] := by simp
            rw [e2] at h
            exact h.ok rs (.tup q .nil)
          · subst e
            have e2 : (List.replicate (1 : Int).toNat ds).flatten = ds := by simp
            rw [e2] at h
            exact h.ok rs (.tup q qs)
        · refine .inr ⟨fun e => c (.inl e), fun e => c (.inr e), fun p3 o hd hp => ?_⟩
          exact h _ _ _ (ext_new hp) (rs.new hp) (.newTup rs hd hp (qs.flat _))
      · exact (show False from h).elim
    | _ => exact (show False from h).elim
  | _ => exact (show False from h).elim
abbrev rLtU : R2 := fun x y H Q => rI0 (fun i j => .bl (decide (i < j))) x y H Q ∨ (∃ i j : Str, x = .str i ∧ y = .str j ∧ Q (.bl (decide (i.cps.toList < j.cps.toList))) H)
abbrev rGtU : R2 := fun x y H Q => rI0 (fun i j => .bl (decide (j < i))) x y H Q ∨ (∃ i j : Str, x = .str i ∧ y = .str j ∧ Q (.bl (decide (j.cps.toList < i.cps.toList))) H)
theorem op_ltU : OpR X (compareOp .Lt) rLtU := OpR.or op_lt op_lt_str
theorem op_gtU : OpR X (compareOp .Gt) rGtU := OpR.or op_gt op_gt_str
theorem os_lt : OpS X rLtU ltA := fun W φ H st x y a b Q rs ra rb h => by
  cases ra with
  | int i =>
    cases rb with
    | int j => exact .inl ⟨i, j, rfl, rfl, h.ok rs (.bl _)⟩
    | _ => exact (show False from h).elim
  | str i =>
    cases rb with
    | str j => exact .inr ⟨i, j, rfl, rfl, h.ok rs (.bl _)⟩
    | _ => exact (show False from h).elim
  | _ => exact (show False from h).elim
theorem os_gt : OpS X rGtU gtA := fun W φ H st x y a b Q rs ra rb h => by
  cases ra with
  | int i =>
    cases rb with
    | int j => exact .inl ⟨i, j, rfl, rfl, h.ok rs (.bl _)⟩
    | _ => exact (show False from h).elim
  | str i =>
    cases rb with
    | str j => exact .inr ⟨i, j, rfl, rfl, h.ok rs (.bl _)⟩
    | _ => exact (show False from h).elim
  | _ => exact (show False from h).elim
abbrev rEqU (K : PySem.W.Frag) : R2 := fun x y H Q => rEq x y H Q ∨ rEqD K x y H Q
theorem op_eqU (hu : X.A.units + 64 < cLine) : OpR X (compareOp .Eq) (rEqU X.K) := OpR.or op_eq (op_eqD hu)
theorem eqB_ok {K : PySem.W.Frag} {φ : List Addr} {H : Hp} {st : Store} {x y : V} {a b : A} {k : Bool} (rs : RS K w mg φ H st) (ra : RV K φ H x a) (rb : RV K φ H y b) (h : eqB a b st = some k) :
    (scal x y = true ∧ decide (x = y) = k) ∨ ∃ d e, Dp K H x d ∧ Dp K H y e ∧ SeqAt.shaped d = true ∧ SeqAt.shaped e = true ∧ PyData.eqv d e = k := by
  unfold eqB at h
  cases e0 : eqS a b with
  | some b' => rw [e0] at h; cases h; exact .inl (eqS_ok ra rb e0)
  | none =>
    rw [e0] at h
    simp only at h
    cases e1 : dataOf st a with
    | none => rw [e1] at h; cases h
    | some d =>
      cases e2 : dataOf st b with
      | none => rw [e1, e2] at h; cases h
      | some e =>
        rw [e1, e2] at h
        simp only at h
        by_cases hs : SeqAt.shaped d = true ∧ SeqAt.shaped e = true
        · rw [if_pos hs] at h
          cases h
          exact .inr ⟨d, e, dataOf_ok rs ra e1, dataOf_ok rs rb e2, hs.1, hs.2, rfl⟩
        · rw [if_neg hs] at h
          cases h
theorem os_eq : OpS X (rEqU X.K) eqA := fun W φ H st x y a b Q rs ra rb h => by
  unfold eqA at h
  cases e : eqB a b st with
  | none => rw [e] at h; exact (show False from h).elim
  | some k =>
    rw [e] at h
    rcases eqB_ok rs ra rb e with ⟨h1, h2⟩ | ⟨d, e, h1, h2, h3, h4, h5⟩
    · exact .inl ⟨h1, by rw [h2]; exact h.ok rs (.bl _)⟩
    · exact .inr ⟨d, e, h1, h2, h3, h4, by rw [h5]; exact h.ok rs (.bl _)⟩
theorem isNon_eq {K : PySem.W.Frag} {φ : List Addr} {H : Hp} {x : V} {a : A} (r : RV K φ H x a) : decide (x = .non) = isNonA a := by
  cases r <;> rfl
theorem os_isN : OpS X (fun x y H Q => y = .non ∧ Q (.bl (decide (x = .non))) H) isNA := fun W φ H st x y a b Q rs ra rb h => by
  cases rb with
  | non =>
    refine ⟨rfl, ?_⟩
    rw [isNon_eq ra]
    have h' : Pst X.K X.w X.mg (RV X.K) W φ H (.ok (A.bl (isNonA a)) st) Q := by cases a <;> exact h
    exact h'.ok rs (RV.bl _)
  | _ => cases a <;> exact (show False from h).elim
theorem os_notN : OpS X (fun x y H Q => y = .non ∧ Q (.bl (!decide (x = .non))) H) notNA := fun W φ H st x y a b Q rs ra rb h => by
  cases rb with
  | non =>
    refine ⟨rfl, ?_⟩
    rw [isNon_eq ra]
    have h' : Pst X.K X.w X.mg (RV X.K) W φ H (.ok (A.bl (!isNonA a)) st) Q := by cases a <;> exact h
    exact h'.ok rs (RV.bl _)
  | _ => cases a <;> exact (show False from h).elim
end
end ML
namespace ML
open PySem PySem.Spec L2
section
variable {X : Cx} {W : WX} {a b e : Expr} {es : List Expr} {ma mb : MX} {ms : MA} {pos : Pos}
theorem atI_rv {K : PySem.W.Frag} {φ : List Addr} {H : Hp} {vs : List V} {ds : List A} {i : Int} {d : A} (q : RVs K φ H vs ds) (h : atI ds i = some d) : ∃ v, atI vs i = some v ∧ RV K φ H v d := by
  unfold atI at h ⊢
  rw [q.length]
  cases e : ixN ds.length i with
  | none => rw [e] at h; cases h
  | some j =>
    rw [e] at h
    exact q.get h
def ixA : A → A → Store → R A
  | .tup xs, .int i, st => match atI xs i with
    | some d => .ok d st
    | none => .bad
  | .scr xs, .int i, st => match atI xs i with
    | some d => .ok d st
    | none => .bad
  | .str z, .int i, st => if z.length ≤ sizeLine then match atI z.cps.toList i with
    | some c => .ok (.str ⟨#[c]⟩) st
    | none => .bad else .bad
  | .ref r, .int i, st => match st[r]? with
    | some (.lst xs) => match atI xs i with
      | some d => .ok d st
      | none => .bad
    | _ => .bad
  | _, _, _ => .bad
theorem os_ix : OpS X (rIx X.K) ixA := fun W φ H st x y a b Q rs ra rb h => by
  cases ra with
  | @tup p xs ds q qs =>
    cases rb with
    | int i =>
      unfold ixA at h
      simp only at h
      cases e : atI ds i with
      | none => rw [e] at h; exact h.elim
      | some d =>
        rw [e] at h
        obtain ⟨v, h1, h2⟩ := atI_rv qs e
        exact .inr (.inl ⟨p, xs, i, v, rfl, rfl, q.sq, h1, h.ok rs h2⟩)
    | _ => exact (show False from h).elim
  | @scr p xs ds q qs =>
    cases rb with
    | int i =>
      unfold ixA at h
      simp only at h
      cases e : atI ds i with
      | none => rw [e] at h; exact h.elim
      | some d =>
        rw [e] at h
        obtain ⟨v, h1, h2⟩ := atI_rv qs e
        exact .inl ⟨p, xs, i, v, rfl, rfl, q.sq, h1, h.ok rs h2⟩
    | _ => exact (show False from h).elim
  | str z =>
    cases rb with
    | int i =>
      unfold ixA at h
      simp only at h
      split at h
      · rename_i hz
        cases e : atI z.cps.toList i with
        | none => rw [e] at h; exact h.elim
        | some c =>
          rw [e] at h
          exact .inr (.inr ⟨z, i, c, rfl, rfl, hz, e, h.ok rs (.str _)⟩)
      · exact h.elim
    | _ => exact (show False from h).elim
  | @ref p r q =>
    cases rb with
    | int i =>
      unfold ixA at h
      simp only at h
      cases e1 : st[r]? with
      | none => rw [e1] at h; exact h.elim
      | some o =>
        cases o with
        | oth u => rw [e1] at h; exact h.elim
        | lst ds =>
          rw [e1] at h
          simp only at h
          obtain ⟨vs, h1, h1'⟩ := rs.lst q e1
          cases e : atI ds i with
          | none => rw [e] at h; exact h.elim
          | some d =>
            rw [e] at h
            obtain ⟨v, h2, h3⟩ := atI_rv h1' e
            exact .inl ⟨p, vs, i, v, rfl, rfl, .inl (.inl h1), h2, h.ok rs h3⟩
    | _ => exact (show False from h).elim
  | _ => cases rb <;> exact (show False from h).elim
theorem me_ix (ha : PE X a (tE X W ma)) (hb : PE X b (tE X W mb)) (hs : PlainIx b := by exact fun _ _ => rfl) : PE X (.Subscript a b pos) (tE X W (mBin ixA ma mb)) := (pe_ix ix_seq ha hb hs).imp fun _ _ _ h => bin_ok os_ix h
abbrev MO := Env → Store → R (Option Int)
abbrev rlO : List Addr → Hp → Option Int → Option Int → Prop := fun _ _ x y => x = y
abbrev tO (X : Cx) (W : WX) (m : MO) : TO := tG X.K X.w X.mg rlO W m
def mNoPart : MO := fun _ st => .ok none st
def getI : A → Store → R Int
  | .int i, st => .ok i st
  | _, _ => .bad
def mPart (m : MX) : MO := fun ρ st => (m ρ st).bind fun x st1 => (getI x st1).bind fun i st2 => .ok (some i) st2
theorem POimp {o : Option Expr} {t t' : TO} (h : PO X o t) (k : ∀ σ H Q, t' σ H Q → t σ H Q) : PO X o t' := ⟨fun pins s σ H Q I q => h.run pins s σ H Q I (k _ _ _ q)⟩
theorem mo_none : PO X none (tO X W mNoPart) := POimp po_none fun _ _ _ ⟨_, _, _, rs, _, h⟩ => h.ok rs rfl
theorem mo_some (ha : PE X a (tE X W ma)) : PO X (some a) (tO X W (mPart ma)) := POimp (po_some ha) fun σ H Q ⟨φ, ρ, st, rs, re, h⟩ => by
  refine ⟨φ, ρ, st, rs, re, h.seq fun φ1 a x H1 st1 e1 rs1 rv1 h1 => ?_⟩
  cases rv1 with
  | int i => exact ⟨i, rfl, h1.ok rs1 rfl⟩
  | _ => exact (show False from h1).elim
def cutA {α : Type} (xs : List α) (lo hi : Option Int) : List α := (xs.drop (HT.sIx xs.length 0 lo)).take (HT.sIx xs.length xs.length hi - HT.sIx xs.length 0 lo)
def slA : A → Option Int → Option Int → Store → R A
  | .tup xs, lo, hi, st => .ok (.tup (cutA xs lo hi)) st
  | .scr xs, lo, hi, st => .ok (.ref st.length) (st ++ [.lst (cutA xs lo hi)])
  | .str z, lo, hi, st => if z.length ≤ sizeLine then .ok (.str (cutS z lo hi)) st else .bad
  | .ref r, lo, hi, st => match st[r]? with
    | some (.lst xs) => .ok (.ref st.length) (st ++ [.lst (cutA xs lo hi)])
    | _ => .bad
  | _, _, _, _ => .bad
theorem cut_rv {K : PySem.W.Frag} {φ : List Addr} {H : Hp} {vs : List V} {ds : List A} (q : RVs K φ H vs ds) (lo hi : Option Int) : RVs K φ H (cutV vs lo hi) (cutA ds lo hi) := by
  unfold cutV cutA
  rw [q.length]
  exact (q.drop _).take _
theorem cut_all {α : Type} {xs : List α} {lo hi : Option Int} (h : HT.sIx xs.length 0 lo = 0 ∧ HT.sIx xs.length xs.length hi = xs.length) : cutA xs lo hi = xs := by
  unfold cutA
  rw [h.1, h.2]
  simp
def rSlP (K : PySem.W.Frag) : V → Option Int → Option Int → Hp → VK → Prop := fun x lo hi H Q => ∃ a xs, x = .ref a ∧ SqT K H a xs ∧ (HT.sIx xs.length 0 lo = 0 ∧ HT.sIx xs.length xs.length hi = xs.length → Q (.ref a) H) ∧ NewT H (cutV xs lo hi) Q
theorem sl_tupP : SlR X (rSlP X.K) := by
  intro pins s σ H x v vl vu lo hi sl Q I rx hs pl pu ⟨a, xs, ex, hx, q1, q2⟩
  subst ex
  cases rx
  obtain ⟨its, r, ht, hz⟩ := I.tuple hx
  have hn : its.toArray.size = xs.length := by rw [List.size_toArray, r.length]
  refine ⟨"tuple", _, PyProof.Rows.slot_tuple_getitem.lookup, ht.typeIs, ?_⟩
  by_cases hw : HT.sIx xs.length 0 lo = 0 ∧ HT.sIx xs.length xs.length hi = xs.length
  · exact getItem_tuple_whole ht hs pl pu (by rw [hn]; exact hw) ⟨.ref a, H, I, rfl, q1 hw⟩
  · refine HT.getItem_tuple_cut ht hs pl pu (by rw [hn]; exact hw) ?_ (by rw [hn]; exact hz)
    rw [hn]
    exact new_tup I ((r.drop (HT.sIx xs.length 0 lo)).take (HT.sIx xs.length xs.length hi - HT.sIx xs.length 0 lo)) (Nat.le_trans (cutV_length xs lo hi) hz) q2
abbrev rSlU (K : PySem.W.Frag) : V → Option Int → Option Int → Hp → VK → Prop := fun x lo hi H Q => rSlL K x lo hi H Q ∨ (rSlP K x lo hi H Q ∨ rSlS x lo hi H Q)
theorem sl_U : SlR X (rSlU X.K) := sl_list.or (sl_tupP.or sl_str)
def mSl (ma : MX) (ml mh : MO) : MX := fun ρ st => (ma ρ st).bind fun x st1 => (ml ρ st1).bind fun lo st2 => (mh ρ st2).bind fun hi st3 => slA x lo hi st3
theorem me_slice {lo hi : Option Expr} {ml mh : MO} {p2 : Pos} (ha : PE X a (tE X W ma)) (hl : PO X lo (tO X W ml)) (hh : PO X hi (tO X W mh)) : PE X (.Subscript a (.Slice lo hi none p2) pos) (tE X W (mSl ma ml mh)) := (pe_slice sl_U ha hl hh).imp fun σ H Q ⟨φ, ρ, st, rs, re, h⟩ => by
  refine ⟨φ, ρ, st, rs, re, h.seq fun φ1 a x H1 st1 e1 rs1 rv1 h1 => ⟨φ1, ρ, st1, rs1, re.ext e1, h1.seq fun φ2 lo lo' H2 st2 e2 rs2 rv2 h2 => ⟨φ2, ρ, st2, rs2, (re.ext e1).ext e2, h2.seq fun φ3 hi hi' H3 st3 e3 rs3 rv3 h3 => ?_⟩⟩⟩
  have r := (rv1.ext e2).ext e3
  cases rv2
  cases rv3
  cases r with
  | @tup p xs ds q qs =>
    refine .inr (.inl ⟨p, xs, rfl, q.sq, fun hw => ?_, fun p2 o hd hp => ?_⟩)
    · rw [qs.length] at hw
      have h3' : Pst X.K X.w X.mg (RV X.K) (fun c d H' => W c d σ H') φ3 H3 (.ok (.tup ds) st3) Q := by
        rw [← cut_all hw]
        exact h3
      exact h3'.ok rs3 (.tup q qs)
    · exact h3 _ _ _ (ext_new hp) (rs3.new hp) (.newTup rs3 hd hp (cut_rv qs _ _))
  | @scr p xs ds q qs => exact .inl ⟨p, xs, rfl, q.sq, fun p2 hp => h3 _ _ _ (ext_alloc rs3 hp) (rs3.alloc hp (cut_rv qs _ _)) (.newLst rs3)⟩
  | str z =>
    unfold slA at h3
    simp only at h3
    split at h3
    · rename_i hz
      exact .inr (.inr ⟨z, rfl, hz, h3.ok rs3 (.str _)⟩)
    · exact (show False from h3).elim
  | @ref p r q =>
    unfold slA at h3
    simp only at h3
    cases e1 : st3[r]? with
    | none => rw [e1] at h3; exact h3.elim
    | some o =>
      cases o with
      | oth u => rw [e1] at h3; exact h3.elim
      | lst ds =>
        rw [e1] at h3
        simp only at h3
        obtain ⟨vs, h1, h1'⟩ := rs3.lst q e1
        exact .inl ⟨p, vs, rfl, .inl (.inl h1), fun p2 hp => h3 _ _ _ (ext_alloc rs3 hp) (rs3.alloc hp (cut_rv h1' _ _)) (.newLst rs3)⟩
  | _ => exact (show False from h3).elim
def CaS (X : Cx) (r : List V → Hp → VK → Prop) (g : List A → Store → R A) : Prop := ∀ (W : WH) (φ : List Addr) (H : Hp) (st : Store) (vs : List V) (as : List A) (Q : VK), RS X.K X.w X.mg φ H st → RVs X.K φ H vs as → Pst X.K X.w X.mg (RV X.K) W φ H (g as st) Q → r vs H Q
def mCa (g : List A → Store → R A) (ms : MA) : MX := fun ρ st => (ms ρ st).bind g
theorem ca_ok {r : List V → Hp → VK → Prop} {g : List A → Store → R A} (hg : CaS X r g) {σ : L2.St} {H : Hp} {Q : VK} (h : tE X W (mCa g ms) σ H Q) : tCB r (tA X W ms) σ H Q := by
  obtain ⟨φ, ρ, st, rs, re, h⟩ := h
  exact ⟨φ, ρ, st, rs, re, h.seq fun φ1 a x H1 st1 e1 rs1 rv1 h1 => hg _ _ _ _ _ _ _ rs1 rv1 h1⟩
theorem me_callB {id : String} {x : Str} {p : Pos} {r : List V → Hp → VK → Prop} {g : List A → Store → R A} (hc : CallR X (.builtin id) r) (hs : CaS X r g) (hv : bootBuiltins x = some (.builtin id)) (hm : X.mg x = none) (ha : PA X (e :: es) (tA X W ms)) (hg : Gl X x := by rfl) (hn : x ≠ "__name__" := by decide) (hdb : (x == ("__debug__" : Str)) = false := by decide)
    (he : starEach (e :: es) X.env = (false, eval e X.env) :: starEach es X.env := by rfl) (hpl : (backTo pos (starEach es X.env)).any (·.1) = false := by rfl) : PE X (.Call (.Name x p) (e :: es) [] pos) (tE X W (mCa g ms)) := (pe_callB hc hg hm hv ha hn hdb he hpl).imp fun _ _ _ h => ca_ok hs h
theorem me_callTy {T : String} {x : Str} {p : Pos} {r : List V → Hp → VK → Prop} {g : List A → Store → R A} (hc : CallR X (.type T) r) (hs : CaS X r g) (hv : bootBuiltins x = some (.type T)) (hm : X.mg x = none) (ha : PA X (e :: es) (tA X W ms)) (hg : Gl X x := by rfl) (hn : x ≠ "__name__" := by decide) (hdb : (x == ("__debug__" : Str)) = false := by decide)
    (he : starEach (e :: es) X.env = (false, eval e X.env) :: starEach es X.env := by rfl) (hpl : (backTo pos (starEach es X.env)).any (·.1) = false := by rfl) : PE X (.Call (.Name x p) (e :: es) [] pos) (tE X W (mCa g ms)) := (pe_callTy hc hg hm hv ha hn hdb he hpl).imp fun _ _ _ h => ca_ok hs h
def absA : List A → Store → R A
  | [.int i], st => .ok (.int (if i < 0 then -i else i)) st
  | _, _ => .bad
theorem one_rv {K : PySem.W.Frag} {φ : List Addr} {H : Hp} {vs : List V} {d : A} (q : RVs K φ H vs [d]) : ∃ v, vs = [v] ∧ RV K φ H v d := by
  cases q with
  | cons h t => cases t; exact ⟨_, rfl, h⟩
theorem two_rv {K : PySem.W.Frag} {φ : List Addr} {H : Hp} {vs : List V} {d d' : A} (q : RVs K φ H vs [d, d']) : ∃ v v', vs = [v, v'] ∧ RV K φ H v d ∧ RV K φ H v' d' := by
  cases q with
  | cons h t =>
    obtain ⟨v, rfl, h2⟩ := one_rv t
    exact ⟨_, _, rfl, h, h2⟩
theorem cs_abs : CaS X (fun xs H Q => ∃ i, xs = [.int i] ∧ Q (.int (if i < 0 then -i else i)) H) absA := fun W φ H st vs as Q rs rv h => by
  unfold absA at h
  split at h
  · obtain ⟨v, rfl, r⟩ := one_rv rv
    cases r
    exact ⟨_, rfl, h.ok rs (.int _)⟩
  · exact h.elim
def intA : List A → Store → R A
  | [.int i], st => .ok (.int i) st
  | [.bl k], st => .ok (.int (if k then 1 else 0)) st
  | _, _ => .bad
theorem cs_int : CaS X (fun xs H Q => (∃ i, xs = [.int i] ∧ Q (.int i) H) ∨ ∃ k, xs = [.bl k] ∧ Q (.int (if k then 1 else 0)) H) intA := fun W φ H st vs as Q rs rv h => by
  unfold intA at h
  split at h
  · obtain ⟨v, rfl, r⟩ := one_rv rv
    cases r
    exact .inl ⟨_, rfl, h.ok rs (.int _)⟩
  · obtain ⟨v, rfl, r⟩ := one_rv rv
    cases r
    exact .inr ⟨_, rfl, h.ok rs (.int _)⟩
  · exact h.elim
def intsOf : List A → Option (List Int)
  | [] => some []
  | .int i :: r => (intsOf r).map (i :: ·)
  | _ => none
theorem intsOf_eq : ∀ {ds : List A} {ns : List Int}, intsOf ds = some ns → ds = ns.map A.int
  | [], _, h => by cases h; rfl
  | .int i :: r, ns, h => by
    simp only [intsOf] at h
    cases e : intsOf r with
    | none => rw [e] at h; cases h
    | some ms =>
      rw [e] at h
      cases h
      rw [List.map_cons, intsOf_eq e]
  | .non :: _, _, h => by cases h
  | .bl _ :: _, _, h => by cases h
  | .str _ :: _, _, h => by cases h
  | .tup _ :: _, _, h => by cases h
  | .scr _ :: _, _, h => by cases h
  | .ref _ :: _, _, h => by cases h
theorem intsOf_map : ∀ ns : List Int, intsOf (ns.map A.int) = some ns
  | [] => rfl
  | n :: r => by rw [List.map_cons, intsOf, intsOf_map r]; rfl
def itemsL : A → Store → Option (List A)
  | .scr xs, _ => some xs
  | .ref r, st => match st[r]? with
    | some (.lst xs) => some xs
    | _ => none
  | _, _ => none
theorem itemsL_ok {K : PySem.W.Frag} {φ : List Addr} {H : Hp} {st : Store} {v : V} {a : A} {ds : List A} (rs : RS K w mg φ H st) (r : RV K φ H v a) (h : itemsL a st = some ds) : ∃ p xs, v = .ref p ∧ SqL K H p xs ∧ RVs K φ H xs ds := by
  cases r with
  | scr q qs => cases h; exact ⟨_, _, rfl, q.sq, qs⟩
  | @ref p i q =>
    unfold itemsL at h
    simp only at h
    cases e : st[i]? with
    | none => rw [e] at h; cases h
    | some o =>
      cases o with
      | oth u => rw [e] at h; cases h
      | lst xs =>
        rw [e] at h
        cases h
        obtain ⟨vs, h1, h2⟩ := rs.lst q e
        exact ⟨p, vs, rfl, .inl (.inl h1), h2⟩
  | _ => cases h
def itemsQ : A → Store → Option (List A)
  | .tup xs, _ => some xs
  | a, st => itemsL a st
theorem itemsQ_ok {K : PySem.W.Frag} {φ : List Addr} {H : Hp} {st : Store} {v : V} {a : A} {ds : List A} (rs : RS K w mg φ H st) (r : RV K φ H v a) (h : itemsQ a st = some ds) : ∃ p xs, v = .ref p ∧ (SqL K H p xs ∨ SqT K H p xs) ∧ RVs K φ H xs ds := by
  cases r with
  | tup q qs => cases h; exact ⟨_, _, rfl, .inr q.sq, qs⟩
  | scr q qs =>
    obtain ⟨p, xs, h1, h2, h3⟩ := itemsL_ok rs (.scr q qs) h
    exact ⟨p, xs, h1, .inl h2, h3⟩
  | ref q =>
    obtain ⟨p, xs, h1, h2, h3⟩ := itemsL_ok rs (.ref q) h
    exact ⟨p, xs, h1, .inl h2, h3⟩
  | _ => cases h
def maxL : List Int → Option Int
  | [] => none
  | n :: r => some (r.foldl max n)
def maxA : List A → Store → R A
  | [.int i, .int j], st => .ok (.int (if j > i then j else i)) st
  | [x], st => match (itemsL x st).bind intsOf with
    | some ns => match maxL ns with
      | some m => .ok (.int m) st
      | none => .bad
    | none => .bad
  | _, _ => .bad
theorem foldmax_mem : ∀ (r : List Int) (n : Int), r.foldl max n ∈ n :: r ∧ ∀ y ∈ n :: r, y ≤ r.foldl max n
  | [], n => ⟨List.mem_singleton_self n, fun y hy => by rw [List.mem_singleton.mp hy]; exact Int.le_refl _⟩
  | m :: r, n => by
    obtain ⟨h1, h2⟩ := foldmax_mem r (max n m)
    rw [List.foldl_cons]
    refine ⟨?_, fun y hy => ?_⟩
    · rcases List.mem_cons.mp h1 with h | h
      · rw [h]
        by_cases c : n ≤ m
        · rw [Int.max_eq_right c]; exact List.mem_cons_of_mem _ List.mem_cons_self
        · rw [Int.max_eq_left (by omega)]; exact List.mem_cons_self
      · exact List.mem_cons_of_mem _ (List.mem_cons_of_mem _ h)
    · have h3 := h2 _ List.mem_cons_self
      rcases List.mem_cons.mp hy with h | h
      · subst h; exact Int.le_trans (Int.le_max_left _ _) h3
      · rcases List.mem_cons.mp h with h | h
        · subst h; exact Int.le_trans (Int.le_max_right _ _) h3
        · exact h2 _ (List.mem_cons_of_mem _ h)
abbrev rMaxU (K : PySem.W.Frag) : List V → Hp → VK → Prop := fun xs H Q => (∃ i j, xs = [.int i, .int j] ∧ Q (.int (if j > i then j else i)) H) ∨ rMax K xs H Q
theorem call_maxU (hc : X.calm = true) : CallR X (.builtin "max") (rMaxU X.K) := CallR.or (call_max2 hc) (cr_max hc)
theorem cs_max : CaS X (rMaxU X.K) maxA := fun W φ H st vs as Q rs rv h => by
  unfold maxA at h
  split at h
  · obtain ⟨v, v', rfl, r, r'⟩ := two_rv rv
    cases r
    cases r'
    exact .inl ⟨_, _, rfl, h.ok rs (.int _)⟩
  · rename_i x
    obtain ⟨v, rfl, r⟩ := one_rv rv
    cases e : itemsL x st with
    | none => rw [e] at h; exact h.elim
    | some ds =>
      rw [e] at h
      simp only [Option.bind_some] at h
      cases e2 : intsOf ds with
      | none => rw [e2] at h; exact h.elim
      | some ns =>
        rw [e2] at h
        obtain ⟨p, xs, rfl, hq, hs⟩ := itemsL_ok rs r e
        rw [intsOf_eq e2] at hs
        rw [hs.ints] at hq
        cases ns with
        | nil => exact h.elim
        | cons n ns =>
          refine .inr ⟨p, n :: ns, rfl, hq, by simp, fun m hm hle => ?_⟩
          have ⟨h1, h2⟩ := foldmax_mem ns n
          have em : m = ns.foldl max n := Int.le_antisymm (h2 m hm) (hle _ h1)
          rw [em]
          exact Pst.ok (show Pst X.K X.w X.mg (RV X.K) W φ H (.ok (.int (ns.foldl max n)) st) Q from h) rs (.int _)
  · exact h.elim
def sumA : List A → Store → R A
  | [x], st => match (itemsL x st).bind intsOf with
    | some ns => .ok (.int ns.sum) st
    | none => .bad
  | _, _ => .bad
theorem cs_sum : CaS X (rSum X.K) sumA := fun W φ H st vs as Q rs rv h => by
  unfold sumA at h
  split at h
  · rename_i x
    obtain ⟨v, rfl, r⟩ := one_rv rv
    cases e : itemsL x st with
    | none => rw [e] at h; exact h.elim
    | some ds =>
      rw [e] at h
      simp only [Option.bind_some] at h
      cases e2 : intsOf ds with
      | none => rw [e2] at h; exact h.elim
      | some ns =>
        rw [e2] at h
        obtain ⟨p, xs, rfl, hq, hs⟩ := itemsL_ok rs r e
        rw [intsOf_eq e2] at hs
        rw [hs.ints] at hq
        exact ⟨p, ns, rfl, hq, h.ok rs (.int _)⟩
  · exact h.elim
def lenA : List A → Store → R A
  | [.str z], st => if z.length ≤ sizeLine then .ok (.int (z.length : Nat)) st else .bad
  | [x], st => match itemsQ x st with
    | some xs => .ok (.int (xs.length : Nat)) st
    | none => .bad
  | _, _ => .bad
abbrev rLenU (K : PySem.W.Frag) : List V → Hp → VK → Prop := fun xs H Q => ∃ x n, xs = [x] ∧ LenV K x H n ∧ Q (.int n) H
theorem cs_len : CaS X (rLenU X.K) lenA := fun W φ H st vs as Q rs rv h => by
  unfold lenA at h
  split at h
  · obtain ⟨v, rfl, r⟩ := one_rv rv
    cases r
    split at h
    · rename_i hz
      exact ⟨_, _, rfl, ⟨hz, rfl⟩, h.ok rs (.int _)⟩
    · exact h.elim
  · rename_i x _
    obtain ⟨v, rfl, r⟩ := one_rv rv
    cases e : itemsQ x st with
    | none => rw [e] at h; exact h.elim
    | some ds =>
      rw [e] at h
      obtain ⟨p, xs, rfl, hq, hs⟩ := itemsQ_ok rs r e
      have hl := hs.length
      rcases hq with hq | hq
      · exact ⟨_, _, rfl, .inl ⟨xs, hq, rfl⟩, by rw [hl]; exact h.ok rs (.int _)⟩
      · exact ⟨_, _, rfl, .inr ⟨xs, hq, rfl⟩, by rw [hl]; exact h.ok rs (.int _)⟩
  · exact h.elim
def listA : List A → Store → R A
  | [x], st => match itemsQ x st with
    | some xs => .ok (.ref st.length) (st ++ [.lst xs])
    | none => .bad
  | _, _ => .bad
theorem cs_list : CaS X (fun xs H Q => ∃ p ys, xs = [.ref p] ∧ (SqL X.K H p ys ∨ SqT X.K H p ys) ∧ ∀ l, H l = none → Q (.ref l) (upd H l (.lst ys))) listA := fun W φ H st vs as Q rs rv h => by
  unfold listA at h
  split at h
  · rename_i x
    obtain ⟨v, rfl, r⟩ := one_rv rv
    cases e : itemsQ x st with
    | none => rw [e] at h; exact h.elim
    | some ds =>
      rw [e] at h
      obtain ⟨p, xs, rfl, hq, hs⟩ := itemsQ_ok rs r e
      exact ⟨p, xs, rfl, hq, fun l hp => h _ _ _ (ext_alloc rs hp) (rs.alloc hp hs) (.newLst rs)⟩
  · exact h.elim
def tupleA : List A → Store → R A
  | [.tup xs], st => .ok (.tup xs) st
  | [x], st => match itemsL x st with
    | some xs => .ok (.tup xs) st
    | none => .bad
  | _, _ => .bad
def rTupP (K : PySem.W.Frag) : List V → Hp → VK → Prop := fun xs H Q => ∃ p ys, xs = [.ref p] ∧ ((SqL K H p ys ∧ NewT H ys Q) ∨ (SqT K H p ys ∧ Q (.ref p) H))
theorem call_tupleP : CallR X (.type "tuple") (rTupP X.K) := by
  intro pins s σ H xs us Q I r ⟨p, ys, ex, h⟩
  subst ex
  obtain ⟨u, rfl, rx⟩ := vals1 r
  cases rx
  rcases h with ⟨hq, q⟩ | ⟨hq, q⟩
  · obtain ⟨its, r', pl, hz⟩ := I.list hq
    have hn := r'.length
    exact call_tuple_list pl.isList (fun h' kp => new_tup (s := { s with heap := h' }) (I.kept (t' := s.toks) kp) r' hz q) (by rw [List.size_toArray]; omega)
  · obtain ⟨its, _, pl, _⟩ := I.tuple hq
    exact call_tuple_same pl ⟨.ref p, H, I, rfl, q⟩
theorem cs_tuple : CaS X (rTupP X.K) tupleA := fun W φ H st vs as Q rs rv h => by
  unfold tupleA at h
  split at h
  · obtain ⟨v, rfl, r⟩ := one_rv rv
    cases r with
    | tup q qs => exact ⟨_, _, rfl, .inr ⟨q.sq, h.ok rs (.tup q qs)⟩⟩
  · rename_i x _
    obtain ⟨v, rfl, r⟩ := one_rv rv
    cases e : itemsL x st with
    | none => rw [e] at h; exact h.elim
    | some ds =>
      rw [e] at h
      obtain ⟨p, xs, rfl, hq, hs⟩ := itemsL_ok rs r e
      exact ⟨p, xs, rfl, .inl ⟨hq, fun l o hd hp => h _ _ _ (ext_new hp) (rs.new hp) (.newTup rs hd hp hs)⟩⟩
  · exact h.elim
def ordA : List A → Store → R A
  | [.str x], st => if x.length = 1 then .ok (.int (x.cps.getD 0 0 : Nat)) st else .bad
  | _, _ => .bad
theorem cs_ord : CaS X (fun xs H Q => ∃ x : Str, xs = [.str x] ∧ x.length = 1 ∧ Q (.int (x.cps.getD 0 0 : Nat)) H) ordA := fun W φ H st vs as Q rs rv h => by
  unfold ordA at h
  split at h
  · obtain ⟨v, rfl, r⟩ := one_rv rv
    cases r
    split at h
    · rename_i hz
      exact ⟨_, rfl, hz, h.ok rs (.int _)⟩
    · exact h.elim
  · exact h.elim
inductive Ty where
  | tup | str | int | bool | list
def Ty.nm : Ty → String
  | .tup => "tuple"
  | .str => "str"
  | .int => "int"
  | .bool => "bool"
  | .list => "list"
def Ty.isL : Ty → Bool
  | .list => true
  | _ => false
def isTy : Ty → A → Store → Option Bool
  | .tup, .tup _, _ => some true
  | .str, .str _, _ => some true
  | .int, .int _, _ => some true
  | .int, .bl _, _ => some true
  | .bool, .bl _, _ => some true
  | .list, .scr _, _ => some true
  | T, .ref r, st => match st[r]? with
    | some (.lst _) => some T.isL
    | _ => none
  | _, _, _ => some false
def isiA (T : Ty) (x : A) (st : Store) : R A := match isTy T x st with
  | some b => .ok (.bl b) st
  | none => .bad
theorem tyX_of {K : PySem.W.Frag} {φ : List Addr} {H : Hp} {st : Store} {v : V} {a : A} {T : Ty} {b : Bool} (rs : RS K w mg φ H st) (r : RV K φ H v a) (h : isTy T a st = some b) : ∃ t, TyX K H v (.type t) ∧ kitB t T.nm = some b := by
  cases r with
  | non => refine ⟨"NoneType", .base .non, ?_⟩; cases T <;> (cases h; decide +kernel)
  | bl k => refine ⟨"bool", .base (.bl k), ?_⟩; cases T <;> (cases h; decide +kernel)
  | int k => refine ⟨"int", .base (.int k), ?_⟩; cases T <;> (cases h; decide +kernel)
  | str k => refine ⟨"str", .base (.str k), ?_⟩; cases T <;> (cases h; decide +kernel)
  | tup q qs =>
    refine ⟨"tuple", ?_, by cases T <;> (cases h; decide +kernel)⟩
    rcases q with ⟨⟨o, _, q⟩, _⟩ | ⟨o, its, n, q1, q2, _⟩
    · exact .fTuple q
    · exact .kTuple q1 q2
  | scr q qs =>
    refine ⟨"list", ?_, by cases T <;> (cases h; decide +kernel)⟩
    rcases q with ⟨⟨o, q⟩, _⟩ | ⟨o, its, n, q1, q2, _⟩
    · exact .base (.frz q)
    · exact .kList q1 q2
  | @ref p i q =>
    have h' : (match st[i]? with | some (.lst _) => some T.isL | _ => none) = some b := by cases T <;> exact h
    cases e : st[i]? with
    | none => rw [e] at h'; cases h'
    | some o =>
      cases o with
      | oth u => rw [e] at h'; cases h'
      | lst ds =>
        rw [e] at h'
        obtain ⟨xs, h1, _⟩ := rs.lst q e
        refine ⟨"list", .base (.lst h1), ?_⟩
        cases T <;> (have hb := Option.some.inj h'; subst hb; decide +kernel)
theorem me_isi (T : Ty) {p p2 pos : Pos} {x n : Str} (ha : PE X a (tE X W ma)) (hx : x = "isinstance") (hn : n = Str.ofString T.nm) (hm : X.mg x = none) (hm2 : X.mg n = none) (hv2 : bootBuiltins n = some (.type T.nm)) (hg : Gl X x := by rfl) (hg2 : Gl X n := by rfl) (hn1 : n ≠ "__name__" := by decide) (hd1 : (n == ("__debug__" : Str)) = false := by decide)
    (he2 : starEach [.Name n p2] X.env = (false, eval (.Name n p2) X.env) :: starEach [] X.env := by rfl) (he : starEach (a :: [.Name n p2]) X.env = (false, eval a X.env) :: starEach [.Name n p2] X.env := by rfl) (hpl : (backTo pos (starEach [.Name n p2] X.env)).any (·.1) = false := by rfl) :
    PE X (.Call (.Name x p) [a, .Name n p2] [] pos) (tE X W (mUn (isiA T) ma)) := by
  subst hx
  refine (pe_callB call_isi hg hm PyProof.Rows.boot_isinstance (pa_cons ha (pa_cons (pe_bltn (v := .ty T.nm) hg2 hm2 hv2 rfl hn1 hd1) pa_nil he2) he) (by decide) (by decide) he hpl).imp fun σ H Q ⟨φ, ρ, st, rs, re, h⟩ => ?_
  refine ⟨φ, ρ, st, rs, re, h.seq fun φ1 d v H1 st1 e1 rs1 rv1 h1 => ?_⟩
  unfold isiA at h1
  cases e : isTy T d st1 with
  | none => rw [e] at h1; exact h1.elim
  | some b =>
    rw [e] at h1
    obtain ⟨t, h2, h3⟩ := tyX_of rs1 rv1 e
    exact ⟨v, .ty T.nm, .type t, .type T.nm, b, rfl, .ty _, h2, kit_ty h3, h1.ok rs1 (.bl b)⟩
def bitsA : A → Store → R A
  | .int i, st => .ok (.int (Builtin.Int.intBits i : Nat)) st
  | _, _ => .bad
theorem me_bits {apos : Pos} (ha : PE X a (tE X W ma)) (hbase : attributeBase a "bit_length" X.env (eval a X.env) = eval a X.env := by rfl) (hline : (apos.endLine == pos.line) = true := by rfl) : PE X (.Call (.Attribute a "bit_length" apos) [] [] pos) (tE X W (mUn bitsA ma)) := (pe_bits ha hbase hline).imp fun σ H Q ⟨φ, ρ, st, rs, re, h⟩ => by
  refine ⟨φ, ρ, st, rs, re, h.seq fun φ1 d v H1 st1 e1 rs1 rv1 h1 => ?_⟩
  cases rv1 with
  | int i => exact ⟨i, rfl, h1.ok rs1 (.int _)⟩
  | _ => exact (show False from h1).elim
def isL : A → Store → Bool
  | .ref r, st => match st[r]? with
    | some (.lst _) => true
    | _ => false
  | _, _ => false
theorem isL_ok {K : PySem.W.Frag} {φ : List Addr} {H : Hp} {st : Store} {v : V} {a : A} (rs : RS K w mg φ H st) (r : RV K φ H v a) (h : isL a st = true) : tyV K "list" v H := by
  cases r with
  | @ref p i q =>
    unfold isL at h
    simp only at h
    cases e : st[i]? with
    | none => rw [e] at h; cases h
    | some o =>
      cases o with
      | oth u => rw [e] at h; cases h
      | lst ds =>
        obtain ⟨xs, h1, _⟩ := rs.lst q e
        exact .inl ⟨rfl, xs, .inl (.inl h1)⟩
  | _ => cases h
def MtS (X : Cx) (r : V → List V → Hp → VK → Prop) (g : A → List A → Store → R A) : Prop := ∀ (W : WH) (φ : List Addr) (H : Hp) (st : Store) (v : V) (a : A) (vs : List V) (as : List A) (Q : VK), RS X.K X.w X.mg φ H st → RV X.K φ H v a → RVs X.K φ H vs as → Pst X.K X.w X.mg (RV X.K) W φ H (g a as st) Q → r v vs H Q
def mBm (g : A → List A → Store → R A) (mo : MX) (ms : MA) : MX := fun ρ st => (mo ρ st).bind fun x st1 => if isL x st1 = true then (ms ρ st1).bind fun xs st2 => g x xs st2 else .bad
theorem me_bm {o : Expr} {mo : MX} {name : Str} {id : String} {apos : Pos} {r : V → List V → Hp → VK → Prop} {g : A → List A → Store → R A} (slot : Slot "list" name id) (hty : typeOf (.builtin id) = pure (.type "method_descriptor")) (hm : MtR X id r) (hs : MtS X r g) (ho : PE X o (tE X W mo)) (ha : PA X (e :: es) (tA X W ms))
    (hbase : attributeBase o name X.env (eval o X.env) = eval o X.env := by rfl)
    (hfew : ((backTo pos (starEach (e :: es) X.env)).all (fun x => !x.1) && (backToKw pos (keywordEach [] X.env)).all (fun x => x.1.isSome)
      && decide ((e :: es).length + ([] : List Keyword).length + (if ([] : List Keyword).isEmpty then 0 else 1) < 30)) = true := by rfl)
    (hline : (apos.endLine == pos.line) = true := by rfl) (he : starEach (e :: es) X.env = (false, eval e X.env) :: starEach es X.env := by rfl) (hpl : (backTo pos (starEach es X.env)).any (·.1) = false := by rfl) :
    PE X (.Call (.Attribute o name apos) (e :: es) [] pos) (tE X W (mBm g mo ms)) := by
  refine (pe_bm PySem.F.plainAttrs_list slot hty hm ho ha hbase hfew hline he hpl).imp fun σ H Q ⟨φ, ρ, st, rs, re, h⟩ => ?_
  refine ⟨φ, ρ, st, rs, re, h.seq fun φ1 d v H1 st1 e1 rs1 rv1 h1 => ?_⟩
  cases c : isL d st1 with
  | false => rw [if_neg (by rw [c]; exact Bool.false_ne_true)] at h1; exact h1.elim
  | true =>
    rw [if_pos c] at h1
    exact ⟨isL_ok rs1 rv1 c, φ1, ρ, st1, rs1, re.ext e1, h1.seq fun φ2 ds vs H2 st2 e2 rs2 rv2 h2 => hs _ _ _ _ _ _ _ _ _ rs2 (rv1.ext e2) rv2 h2⟩
def appendA : A → List A → Store → R A
  | .ref r, [x], st => match st[r]? with
    | some (.lst xs) => if xs.length < sizeLine then .ok .non (st.set r (.lst (xs ++ [x]))) else .bad
    | _ => .bad
  | _, _, _ => .bad
theorem ms_append : MtS X rAppend appendA := fun W φ H st v a vs as Q rs ra rv h => by
  unfold appendA at h
  split at h
  · rename_i r x
    obtain ⟨y, rfl, ry⟩ := one_rv rv
    cases ra with
    | @ref p _ q =>
      cases e : st[r]? with
      | none => rw [e] at h; exact h.elim
      | some o =>
        cases o with
        | oth u => rw [e] at h; exact h.elim
        | lst ds =>
          rw [e] at h
          simp only at h
          obtain ⟨xs, h1, h2⟩ := rs.lst q e
          split at h
          · rename_i hz
            obtain ⟨e2, rs2⟩ := rs.write q e (h2.app (.cons ry .nil))
            exact ⟨p, xs, y, rfl, rfl, h1, by rw [h2.length]; exact hz, h _ _ _ e2 rs2 .non⟩
          · exact h.elim
  · exact h.elim
def extendA : A → List A → Store → R A
  | .ref r, [.ref q], st => match st[r]?, st[q]? with
    | some (.lst xs), some (.lst ys) => if xs.length + ys.length ≤ sizeLine then .ok .non (st.set r (.lst (xs ++ ys))) else .bad
    | _, _ => .bad
  | .ref r, [.tup ys], st => match st[r]? with
    | some (.lst xs) => if xs.length + ys.length ≤ sizeLine then .ok .non (st.set r (.lst (xs ++ ys))) else .bad
    | _ => .bad
  | _, _, _ => .bad
theorem list_extend_tupW (l : Addr) (items : Array Value) (n : Nat) (b : Addr) (items2 : Array Value) (n2 : Nat) (dd : Option Addr) (sl : Array (Option Value)) (hs0 : ¬(!items.isEmpty && Builtin.List.listTooLong (items.size + items2.size)) = true) (hs1 : items.size ≤ sizeLine) (hs2 : items.size + items2.size ≤ sizeLine + 1) :
    Meets (Builtin.«list.extend» ⟨[.ref l, .ref b], []⟩) (fun _ R s => s.heap.get? l = some { cls := .type "list", dict := none, data := .seq items n, slots := #[] } ∧ s.heap.get? b = some { cls := .type "tuple", dict := dd, data := .seq items2 n2, slots := sl } ∧ R (.ok (.ret Value.none)) { s with heap := s.heap.update l (Obj.mapSeq fun x => x ++ items2), toks := s.toks }) :=
  .of_wp fun prog w A R s h => by
    obtain ⟨hp, g, d, tk, os⟩ := s; obtain ⟨hl, hb, h⟩ := h; have f1 := AutoSeq1.idx_int; have f2 := AutoSeq1.sub_tuple_tuple; have f3 := AutoSeq1.sub_list_list; have f4 := AutoSeq1.sub_tuple_list; have f5 := AutoSeq1.sub_list_tuple;
    have hz' : (items ++ items2).size ≤ sizeLine + 1 := by rw [Array.size_append]; exact hs2
    wp_walk using (wpAny_updateSeq hl rfl (hz := hs1) (_hz' := hz')), wpAny_loadPart' hl, wpAny_loadPart' hb; exact ⟨_, rfl, h⟩
def rExtendT (K : PySem.W.Frag) : V → List V → Hp → VK → Prop := fun x vs H Q => ∃ l b xs zs, x = .ref l ∧ vs = [.ref b] ∧ H l = some (.lst xs) ∧ SqT K H b zs ∧ xs.length + zs.length ≤ sizeLine ∧ Q .non (upd H l (.lst (xs ++ zs)))
theorem mt_extendT : MtM X "list.extend" (rExtendT X.K) := by
  intro pins s σ H x vs v us Q I rx rv h
  obtain ⟨l, b, xs, zs, rfl, rfl, hH, hB, hz, q⟩ := h
  cases rx
  obtain ⟨u, rfl, ru⟩ := rv.one
  cases ru
  obtain ⟨z, its, n, r, hl, e⟩ := I.lstM hH
  obtain ⟨its2, r2, ⟨⟨cls, dd, data, sl⟩, e2, hc, n2, hd⟩, hs⟩ := I.tuple hB
  simp only at hc hd
  subst hc hd
  have hl2 : its2.length = zs.length := r2.length.symm
  have hsz : its.toArray.size + its2.toArray.size ≤ sizeLine := by rw [List.size_toArray, List.size_toArray]; omega
  have hlong : ¬ (!its.toArray.isEmpty && Builtin.List.listTooLong (its.toArray.size + its2.toArray.size)) = true := by
    rw [notLongL hsz, Bool.and_false]
    exact Bool.false_ne_true
  refine call_meets F.slot_list_extend ⟨_, e, rfl⟩ F.entry_list_extend (F.args_list_extend_2 _ _)
    (list_extend_tupW l its.toArray n b its2.toArray n2 dd sl hlong (by rw [List.size_toArray]; omega) (by omega)) ⟨e, e2, ?_⟩
  refine ⟨.non, _, I.lset (its' := its ++ its2) hH e (by simp) (r.append r2) ?_, rfl, q⟩
  rw [List.length_append]
  omega
abbrev rExtendU (K : PySem.W.Frag) : V → List V → Hp → VK → Prop := fun x vs H Q => rExtend x vs H Q ∨ rExtendT K x vs H Q
theorem mt_extendU : MtM X "list.extend" (rExtendU X.K) := fun pins s σ H x vs v us Q I rx rv h => h.elim (mt_extend pins s σ H x vs v us Q I rx rv) (mt_extendT pins s σ H x vs v us Q I rx rv)
theorem ms_extend : MtS X (rExtendU X.K) extendA := fun W φ H st v a vs as Q rs ra rv h => by
  unfold extendA at h
  split at h
  · rename_i r x
    obtain ⟨y, rfl, ry⟩ := one_rv rv
    cases ra with
    | @ref p _ q =>
      cases ry with
      | @ref p2 _ q2 =>
        cases e : st[r]? with
        | none => rw [e] at h; exact h.elim
        | some o =>
          cases o with
          | oth u => rw [e] at h; exact h.elim
          | lst ds =>
            cases e' : st[x]? with
            | none => rw [e, e'] at h; exact h.elim
            | some o' =>
              cases o' with
              | oth u => rw [e, e'] at h; exact h.elim
              | lst es =>
                rw [e, e'] at h
                simp only at h
                obtain ⟨xs, h1, h2⟩ := rs.lst q e
                obtain ⟨ys, h1', h2'⟩ := rs.lst q2 e'
                split at h
                · rename_i hz
                  obtain ⟨e2, rs2⟩ := rs.write q e (h2.app h2')
                  exact .inl ⟨p, p2, xs, ys, rfl, rfl, h1, h1', by rw [h2.length, h2'.length]; exact hz, h _ _ _ e2 rs2 .non⟩
                · exact h.elim
  · rename_i r ys
    obtain ⟨y, rfl, ry⟩ := one_rv rv
    cases ra with
    | @ref p _ q =>
      cases ry with
      | @tup p2 zs _ q2 qs =>
        cases e : st[r]? with
        | none => rw [e] at h; exact h.elim
        | some o =>
          cases o with
          | oth u => rw [e] at h; exact h.elim
          | lst ds =>
            rw [e] at h
            simp only at h
            obtain ⟨xs, h1, h2⟩ := rs.lst q e
            split at h
            · rename_i hz
              obtain ⟨e2, rs2⟩ := rs.write q e (h2.app qs)
              exact .inr ⟨p, p2, xs, zs, rfl, rfl, h1, q2.sq, by rw [h2.length, qs.length]; exact hz, h _ _ _ e2 rs2 .non⟩
            · exact h.elim
  · exact h.elim
abbrev MF := List A → Store → R A
def spM (K : PySem.W.Frag) (w : World) (mg : Str → Option Value) (m : MF) : Sp := fun vs H Q E => ∃ φ as st, RS K w mg φ H st ∧ RVs K φ H vs as ∧ Pst K w mg (RV K) E φ H (m as st) Q
structure Cal (P : Program) (w : World) (K : PySem.W.Frag) (mg : Str → Option Value) (base : Heap) (x : Str) (k : Nat) (m : MF) : Prop where
  ex : ∃ (f : Addr) (fd : FuncData) (ps : List Str), mg x = some (.ref f) ∧ PySem.W.keepIn K (.ref f) = true ∧ Binds K fd ps [] ∧ FnOk P w K mg base (L2.CX P w) k f fd ps (spM K w mg m)
def mCall (m : MF) (ms : MA) : MX := fun ρ st => (ms ρ st).bind m
theorem me_call {k : Nat} {m : MF} {x : Str} {p : Pos} (C : Cal X.prog X.w X.K X.mg X.base x k m) (hr : Room k X.A) (tk : Takes X W) (ha : PA X (e :: es) (tA X W ms)) (hg : Gl X x := by rfl)
    (hdb : (x == ("__debug__" : Str)) = false := by decide) (he : starEach (e :: es) X.env = (false, eval e X.env) :: starEach es X.env := by rfl) (hpl : (backTo pos (starEach es X.env)).any (·.1) = false := by rfl) :
    PE X (.Call (.Name x p) (e :: es) [] pos) (tE X W (mCall m ms)) := by
  obtain ⟨f, fd, ps, hm, hk, hb, F⟩ := C.ex
  refine (pe_callS F hr hg hm hk hb (E := WE W) (fun σ => passAt tk σ) ha hdb he hpl).imp fun σ H Q ⟨φ, ρ, st, rs, re, h⟩ => ?_
  exact ⟨φ, ρ, st, rs, re, h.seq fun φ1 ds vs H1 st1 e1 rs1 rv1 h1 => ⟨φ1, ds, st1, rs1, rv1, h1⟩⟩
end
end ML
namespace ML
open PySem PySem.Spec L2
inductive SR where
  | nx (ρ : Env) (st : Store) | bk (ρ : Env) (st : Store) | ct (ρ : Env) (st : Store) | rt (a : A) (st : Store) | er (e : Er) (ρ : Env) (st : Store) | bad
abbrev MS := Env → Store → SR
def SPst (K : PySem.W.Frag) (w : World) (mg : Str → Option Value) (W : WX) (φ : List Addr) (H : Hp) (r : SR) (D : Ends) : Prop := match r with
  | .nx ρ st => ∀ φ' σ' H', Ext φ H φ' H' → RS K w mg φ' H' st → RE K φ' H' σ' ρ → D.nx σ' H'
  | .bk ρ st => ∀ φ' σ' H', Ext φ H φ' H' → RS K w mg φ' H' st → RE K φ' H' σ' ρ → D.bk σ' H'
  | .ct ρ st => ∀ φ' σ' H', Ext φ H φ' H' → RS K w mg φ' H' st → RE K φ' H' σ' ρ → D.ct σ' H'
  | .rt a st => ∀ φ' v H', Ext φ H φ' H' → RS K w mg φ' H' st → RV K φ' H' v a → D.rt v H'
  | .er e ρ st => ∀ φ' c d σ' H', Ext φ H φ' H' → RS K w mg φ' H' st → RE K φ' H' σ' ρ → RErr K mg φ' H' c d e → W c d σ' H'
  | .bad => False
def tS (X : Cx) (W : WX) (m : MS) : TS := fun D σ H => ∃ φ ρ st, RS X.K X.w X.mg φ H st ∧ RE X.K φ H σ ρ ∧ SPst X.K X.w X.mg W φ H (m ρ st) D
def R.toS {α : Type} (r : R α) (ρ : Env) (f : α → Store → SR) : SR := match r with
  | .ok a st => f a st
  | .er e st => .er e ρ st
  | .bad => .bad
section
variable {K : PySem.W.Frag} {w : World} {φ φ' : List Addr} {H H' : Hp} {st : Store} {mg : Str → Option Value} {α β : Type} {W : WX} {D : Ends} {σ : L2.St} {ρ : Env}
theorem SPst.mono {r : SR} (h : SPst K w mg W φ H r D) (e : Ext φ H φ' H') : SPst K w mg W φ' H' r D := by
  cases r with
  | nx ρ st => exact fun φ2 σ2 H2 e2 s q => h φ2 σ2 H2 (e.trans e2) s q
  | bk ρ st => exact fun φ2 σ2 H2 e2 s q => h φ2 σ2 H2 (e.trans e2) s q
  | ct ρ st => exact fun φ2 σ2 H2 e2 s q => h φ2 σ2 H2 (e.trans e2) s q
  | rt a st => exact fun φ2 v H2 e2 s q => h φ2 v H2 (e.trans e2) s q
  | er x ρ st => exact fun φ2 c d σ2 H2 e2 s q => h φ2 c d σ2 H2 (e.trans e2) s q
  | bad => exact h
theorem SPst.exp {Rl : List Addr → Hp → β → α → Prop} {r : R α} {f : α → Store → SR} {Q1 : β → Hp → Prop} (h : SPst K w mg W φ H (r.toS ρ f) D) (re : RE K φ H σ ρ)
    (k : ∀ φ1 a x H1 st1, Ext φ H φ1 H1 → RS K w mg φ1 H1 st1 → Rl φ1 H1 x a → SPst K w mg W φ1 H1 (f a st1) D → Q1 x H1) : Pst K w mg Rl (fun c d H' => W c d σ H') φ H r Q1 := by
  cases r with
  | ok a st => exact fun φ1 v H1 e s q => k φ1 a v H1 st e s q (SPst.mono h e)
  | er x st => exact fun φ1 c d H1 e s q => h φ1 c d σ H1 e s (re.ext e) q
  | bad => exact h
end
section
variable {X : Cx} {W : WX} {s : Stmt} {ss rest : List Stmt} {t t' : TS} {a b e : Expr} {ma mb : MX} {pos : Pos} {m m1 m2 : MS}
theorem _root_.L2.PS.imp (h : PS X s t) (k : ∀ D σ H, t' D σ H → t D σ H) : PS X s t' := ⟨fun pins s σ H D I q => h.run pins s σ H D I (k _ _ _ q)⟩
theorem _root_.L2.PSs.imp (h : PSs X ss t) (k : ∀ D σ H, t' D σ H → t D σ H) : PSs X ss t' := ⟨fun pins s σ H D I q => h.run pins s σ H D I (k _ _ _ q)⟩
def mSeq (m1 m2 : MS) : MS := fun ρ st => match m1 ρ st with
  | .nx ρ1 st1 => m2 ρ1 st1
  | r => r
def mNext : MS := fun ρ st => .nx ρ st
theorem mss_nil : PSs X [] (tS X W mNext) := pss_nil.imp fun D σ H ⟨φ, ρ, st, rs, re, h⟩ => h φ σ H .refl rs re
theorem mss_cons (h1 : PS X s (tS X W m1)) (h2 : PSs X rest (tS X W m2)) : PSs X (s :: rest) (tS X W (mSeq m1 m2)) := (pss_cons h1 h2).imp fun D σ H ⟨φ, ρ, st, rs, re, h⟩ => by
  refine ⟨φ, ρ, st, rs, re, ?_⟩
  unfold mSeq at h
  cases e : m1 ρ st with
  | nx ρ1 st1 =>
    rw [e] at h
    exact fun φ' σ' H' ex rs' re' => ⟨φ', ρ1, st1, rs', re', SPst.mono h ex⟩
  | bk ρ1 st1 => rw [e] at h; exact h
  | ct ρ1 st1 => rw [e] at h; exact h
  | rt a st1 => rw [e] at h; exact h
  | er x ρ1 st1 => rw [e] at h; exact h
  | bad => rw [e] at h; exact h
theorem mss_one (h1 : PS X s (tS X W m)) : PSs X [s] (tS X W m) := pss_one h1
def mExpr (ma : MX) : MS := fun ρ st => (ma ρ st).toS ρ fun _ st1 => .nx ρ st1
theorem ms_expr (ha : PE X a (tE X W ma)) (hs : swapsWith a none pos.line X.env = pure false := by rfl) : PS X (.Expr a pos) (tS X W (mExpr ma)) := (ps_expr ha hs).imp fun D σ H ⟨φ, ρ, st, rs, re, h⟩ =>
  ⟨φ, ρ, st, rs, re, h.exp re fun φ1 a x H1 st1 e1 rs1 rv1 h1 => h1 φ1 σ H1 .refl rs1 (re.ext e1)⟩
def mRet (ma : MX) : MS := fun ρ st => (ma ρ st).toS ρ fun a st1 => .rt a st1
theorem ms_ret (ha : PE X a (tE X W ma)) : PS X (.Return (some a) pos) (tS X W (mRet ma)) := (ps_ret ha).imp fun D σ H ⟨φ, ρ, st, rs, re, h⟩ =>
  ⟨φ, ρ, st, rs, re, h.exp re fun φ1 a x H1 st1 e1 rs1 rv1 h1 => h1 φ1 x H1 .refl rs1 rv1⟩
def mRetN : MS := fun _ st => .rt .non st
theorem ms_retN : PS X (.Return none pos) (tS X W mRetN) := ps_retN.imp fun D σ H ⟨φ, ρ, st, rs, re, h⟩ => h φ .non H .refl rs .non
def mIfS (c : MT) (m1 m2 : MS) : MS := fun ρ st => (c ρ st).toS ρ fun b st1 => if b = true then m1 ρ st1 else m2 ρ st1
theorem ms_if {c : Expr} {mc : MT} {s1 s2 : List Stmt} (hc : PT X c (tT X W mc)) (h1 : PSs X s1 (tS X W m1)) (h2 : PSs X s2 (tS X W m2)) : PS X (.If c s1 s2 pos) (tS X W (mIfS mc m1 m2)) := (ps_if hc h1 h2).imp fun D σ H ⟨φ, ρ, st, rs, re, h⟩ => by
  refine ⟨φ, ρ, st, rs, re, h.exp re fun φ1 b x H1 st1 e1 rs1 rv1 h1 => ?_⟩
  subst rv1
  cases x with
  | true => exact iteT ⟨φ1, ρ, st1, rs1, re.ext e1, h1⟩
  | false => exact iteF ⟨φ1, ρ, st1, rs1, re.ext e1, h1⟩
def RVw (K : PySem.W.Frag) (φ : List Addr) (H : Hp) : Bool → V → A → Prop
  | false, v, a => RV K φ H v a
  | true, v, a => ∃ p xs ds, v = .ref p ∧ a = .tup ds ∧ SqT K H p xs ∧ RVs K φ H xs ds
inductive Tg where
  | one (i : Nat) | many (is : List Nat) | nest (i : Nat) (is : List Nat)
def setsV (σ : L2.St) : List Nat → List V → L2.St
  | i :: is, v :: vs => setsV (σ.set i (some v)) is vs
  | _, _ => σ
def setsA (ρ : Env) : List Nat → List A → Env
  | i :: is, v :: vs => setsA (ρ.set i (some v)) is vs
  | _, _ => ρ
def gNames : List Nat → TGs
  | [] => gNil
  | i :: is => gCons (gName i) (gNames is)
def gOf (K : PySem.W.Frag) : Tg → TG
  | .one i => gName i
  | .many is => gTup K is.length (gNames is)
  | .nest i is => gTup K 2 (gCons (gName i) (gCons (gTup K is.length (gNames is)) gNil))
def asgT : Tg → A → Env → Store → Option Env
  | .one i, a, ρ, _ => some (ρ.set i (some a))
  | .many is, .tup as, ρ, _ => if as.length = is.length then some (setsA ρ is as) else none
  | .many _, _, _, _ => none
  | .nest i is, .tup [a, .tup bs], ρ, _ => if bs.length = is.length then some (setsA (ρ.set i (some a)) is bs) else none
  | .nest _ _, _, _, _ => none
def Tg.slots : Tg → List Nat
  | .one i => [i]
  | .many is => is
  | .nest i is => i :: is
theorem gNames_run {Q : L2.St → Hp → Prop} {H : Hp} : ∀ {is : List Nat} {vs : List V} {σ : L2.St}, vs.length = is.length → Q (setsV σ is vs) H → gNames is vs σ H Q
  | [], [], σ, _, h => ⟨rfl, h⟩
  | i :: is, v :: vs, σ, hl, h => ⟨v, vs, rfl, gNames_run (by simpa using hl) h⟩
  | [], _ :: _, _, hl, _ => by simp at hl
  | _ :: _, [], _, hl, _ => by simp at hl
theorem RE.sets {K : PySem.W.Frag} {φ : List Addr} {H : Hp} : ∀ {is : List Nat} {vs : List V} {as : List A} {σ : L2.St} {ρ : Env}, RE K φ H σ ρ → RVs K φ H vs as → RE K φ H (setsV σ is vs) (setsA ρ is as)
  | [], _, _, _, _, r, q => by cases q <;> exact r
  | _ :: _, _, _, _, _, r, .nil => r
  | i :: is, _, _, _, _, r, .cons h q => RE.sets (is := is) (r.set h i) q
theorem asgT_nest {i : Nat} {is : List Nat} {d : A} {ρ ρ' : Env} {st : Store} (h : asgT (.nest i is) d ρ st = some ρ') : ∃ a bs, d = .tup [a, .tup bs] ∧ bs.length = is.length ∧ ρ' = setsA (ρ.set i (some a)) is bs := by
  cases d with
  | tup ds =>
    match ds with
    | [] => cases h
    | [_] => cases h
    | [a, b] =>
      cases b with
      | tup bs =>
        unfold asgT at h
        simp only at h
        split at h
        · rename_i hl
          cases h
          exact ⟨a, bs, rfl, hl, rfl⟩
        · cases h
      | _ => cases h
    | _ :: b :: _ :: _ => cases b <;> first | (cases h; done) | simp [asgT] at h
  | _ => cases h
theorem gOf_run {K : PySem.W.Frag} {φ : List Addr} {H : Hp} {tg : Tg} {v : V} {d : A} {σ : L2.St} {ρ ρ' : Env} {st : Store} {Q : L2.St → Hp → Prop} (r : RV K φ H v d) (re : RE K φ H σ ρ) (h : asgT tg d ρ st = some ρ')
    (k : ∀ xs, RE K φ H (setsV σ tg.slots xs) ρ' → Q (setsV σ tg.slots xs) H) : gOf K tg v σ H Q := by
  cases tg with
  | one i =>
    cases h
    exact k [v] (re.set r i)
  | many is =>
    cases r with
    | @tup p xs ds q qs =>
      unfold asgT at h
      simp only at h
      split at h
      · rename_i hl
        cases h
        have hl' : xs.length = is.length := by rw [qs.length]; exact hl
        exact ⟨p, xs, rfl, q.sq, hl', gNames_run hl' (k xs (re.sets qs))⟩
      · cases h
    | _ => cases h
  | nest i is =>
    obtain ⟨a, bs, rfl, hl, rfl⟩ := asgT_nest h
    cases r with
    | @tup p xs ds q qs =>
      cases qs with
      | cons r1 qs2 =>
        cases qs2 with
        | cons r2 qs3 =>
          cases qs3
          cases r2 with
          | @tup p2 ys ds2 q2 qq =>
            have hl' : ys.length = is.length := by rw [qq.length]; exact hl
            refine ⟨p, _, rfl, q.sq, rfl, _, _, rfl, _, _, rfl, ⟨p2, ys, rfl, q2.sq, hl', gNames_run hl' ⟨rfl, ?_⟩⟩⟩
            exact k (_ :: ys) ((re.set r1 i).sets qq)
def Tg.isOne : Tg → Bool
  | .one _ => true
  | _ => false
theorem gOf_runB {K : PySem.W.Frag} {φ : List Addr} {H : Hp} {wk : Bool} {tg : Tg} {v : V} {d : A} {σ : L2.St} {ρ ρ' : Env} {st : Store} {Q : L2.St → Hp → Prop} (hw : wk = false ∨ tg.isOne = false) (r : RVw K φ H wk v d) (re : RE K φ H σ ρ) (h : asgT tg d ρ st = some ρ')
    (k : ∀ xs, RE K φ H (setsV σ tg.slots xs) ρ' → Q (setsV σ tg.slots xs) H) : gOf K tg v σ H Q := by
  cases wk with
  | false => exact gOf_run r re h k
  | true =>
    obtain ⟨p, xs, ds, rfl, rfl, q, qs⟩ := r
    cases tg with
    | one i => exact hw.elim (fun z => by cases z) fun z => by cases z
    | many is =>
      unfold asgT at h
      simp only at h
      split at h
      · rename_i hl
        cases h
        have hl' : xs.length = is.length := by rw [qs.length]; exact hl
        exact ⟨p, xs, rfl, q, hl', gNames_run hl' (k xs (re.sets qs))⟩
      · cases h
    | nest i is =>
      obtain ⟨a, bs, e, hl, rfl⟩ := asgT_nest h
      cases e
      cases qs with
      | cons r1 qs2 =>
        cases qs2 with
        | cons r2 qs3 =>
          cases qs3
          cases r2 with
          | @tup p2 ys ds2 q2 qq =>
            have hl' : ys.length = is.length := by rw [qq.length]; exact hl
            refine ⟨p, _, rfl, q, rfl, _, _, rfl, _, _, rfl, ⟨p2, ys, rfl, q2.sq, hl', gNames_run hl' ⟨rfl, ?_⟩⟩⟩
            exact k (_ :: ys) ((re.set r1 i).sets qq)
theorem mg_one {i : Nat} {x : Str} (hN : X.N.Nodup) (hi : X.N[i]? = some x := by rfl) (hx : Loc X.env.scope x := by first | exact Or.inl rfl | exact Or.inr rfl) (hf : X.fn x = true ∨ X.env.scope.names.lookup x = some .local := by first | exact .inl rfl | exact .inr rfl | assumption) : PG X (.Name x pos) (gOf X.K (.one i)) := pg_name hN hi hx hf
theorem mgs_nil : PGs X [] (gNames []) := pgs_nil
theorem mgs_cons {i : Nat} {is : List Nat} {es : List Expr} (h1 : PG X e (gOf X.K (.one i))) (h2 : PGs X es (gNames is)) (hs : (assignEach (e :: es) X.env).map (·.2) = assign e X.env :: (assignEach es X.env).map (·.2) := by rfl) : PGs X (e :: es) (gNames (i :: is)) := pgs_cons h1 h2 hs
theorem mg_many {es : List Expr} {k : Nat} {is : List Nat} (h : PGs X es (gNames is)) (hn : (assignEach es X.env).length = is.length := by rfl) (hc : X.calm = true := by rfl) (hst : (assignEach es X.env).findIdx? (·.1) = none := by rfl) : PG X (.Tuple es k pos) (gOf X.K (.many is)) := pg_tup hc h hn hst
def mAsg (tg : Tg) (ma : MX) : MS := fun ρ st => (ma ρ st).toS ρ fun d st1 => match asgT tg d ρ st1 with
  | some ρ' => .nx ρ' st1
  | none => .bad
theorem asg_ok {tg : Tg} {D : Ends} {σ : L2.St} {H : Hp} (h : tS X W (mAsg tg ma) D σ H) : tAsg (tE X W ma) (gOf X.K tg) D σ H := by
  obtain ⟨φ, ρ, st, rs, re, h⟩ := h
  refine ⟨φ, ρ, st, rs, re, h.exp re fun φ1 d x H1 st1 e1 rs1 rv1 h1 => ?_⟩
  cases q : asgT tg d ρ st1 with
  | none => simp only [q] at h1; exact h1.elim
  | some ρ' =>
    simp only [q] at h1
    exact gOf_run rv1 (re.ext e1) q fun xs re' => h1 φ1 _ H1 .refl rs1 re'
def mSet (i : Nat) (ma : MX) : MS := fun ρ st => (ma ρ st).toS ρ fun d st1 => .nx (ρ.set i (some d)) st1
theorem set_ok {i : Nat} {D : Ends} {σ : L2.St} {H : Hp} (h : tS X W (mSet i ma) D σ H) : tAsg (tE X W ma) (gName i) D σ H := asg_ok (tg := .one i) h
theorem ms_set {i : Nat} {x : Str} {pos' : Pos} (hN : X.N.Nodup) (he : PE X e (tE X W ma)) (hi : X.N[i]? = some x := by rfl) (hx : Loc X.env.scope x := by first | exact Or.inl rfl | exact Or.inr rfl) (hs : swapsWith e (some (.Name x pos')) pos.line X.env = pure false := by rfl)
    (hf : X.fn x = true ∨ X.env.scope.names.lookup x = some .local := by first | exact .inl rfl | exact .inr rfl | assumption) : PS X (.Assign [.Name x pos'] e pos) (tS X W (mSet i ma)) := (ps_set hN hi hx he hs hf).imp fun _ _ _ h => set_ok h
def setA : A → A → A → Store → Option Store
  | .ref r, .int k, d, st => match st[r]? with
    | some (.lst xs) => match ixN xs.length k with
      | some j => some (st.set r (.lst (xs.set j d)))
      | none => none
    | _ => none
  | _, _, _, _ => none
def mPut (mo mi ma : MX) : MS := fun ρ st => (ma ρ st).toS ρ fun d st1 => (mo ρ st1).toS ρ fun o st2 => (mi ρ st2).toS ρ fun i st3 => match setA o i d st3 with
  | some st4 => .nx ρ st4
  | none => .bad
theorem ms_put {o i : Expr} {mo mi : MX} {p2 : Pos} (ho : PE X o (tE X W mo)) (hi : PE X i (tE X W mi)) (he : PE X e (tE X W ma))
    (ha : ∀ v, assign (.Subscript o i p2) X.env v = (do
      let ov ← holding [v] (eval o X.env)
      let iv ← holding [v, ov] (eval i X.env)
      standAt p2
      holding [v, ov, iv] (setItem ov iv v)
      release [v, ov, iv] []) := by intro _; rfl) (hs : swapsWithSole [.Subscript o i p2] e pos.line X.env = pure false := by rfl) (hw : swappedStores [.Subscript o i p2] e X.env = pure none := by rfl)
    (h1 : (assignEach [.Subscript o i p2] X.env).map (·.2) = [assign (.Subscript o i p2) X.env] := by rfl) : PS X (.Assign [.Subscript o i p2] e pos) (tS X W (mPut mo mi ma)) := (ps_asg he (pg_sub ho hi set_list ha) hs hw h1).imp fun D σ H ⟨φ, ρ, st, rs, re, h⟩ => by
  refine ⟨φ, ρ, st, rs, re, h.exp re fun φ1 d x H1 st1 e1 rs1 rv1 h1 => ?_⟩
  refine ⟨φ1, ρ, st1, rs1, re.ext e1, h1.exp (re.ext e1) fun φ2 o y H2 st2 e2 rs2 rv2 h2 => ?_⟩
  refine ⟨φ2, ρ, st2, rs2, (re.ext e1).ext e2, h2.exp ((re.ext e1).ext e2) fun φ3 i z H3 st3 e3 rs3 rv3 h3 => ?_⟩
  cases q : setA o i d st3 with
  | none => simp only [q] at h3; exact h3.elim
  | some st4 =>
    simp only [q] at h3
    unfold setA at q
    split at q
    · rename_i r k
      cases rv3
      have rv2' := rv2.ext e3
      cases rv2' with
      | @ref p _ qp =>
        cases e5 : st3[r]? with
        | none => rw [e5] at q; cases q
        | some ob =>
          cases ob with
          | oth u => rw [e5] at q; cases q
          | lst ds =>
            rw [e5] at q
            simp only at q
            cases e6 : ixN ds.length k with
            | none => rw [e6] at q; cases q
            | some j =>
              rw [e6] at q
              cases q
              obtain ⟨vs, g1, g2⟩ := rs3.lst qp e5
              obtain ⟨e7, rs4⟩ := rs3.write qp e5 (g2.set ((rv1.ext e2).ext e3) j)
              exact ⟨p, vs, k, j, rfl, rfl, g1, by rw [g2.length]; exact e6, h3 φ3 σ _ e7 rs4 ((((re.ext e1).ext e2).ext e3).ext e7)⟩
    · cases q
def mAug (i : Nat) (g : A → A → Store → R A) (ma : MX) : MS := fun ρ st => (mVar i ρ st).toS ρ fun x st0 => (ma ρ st0).toS ρ fun y st1 => (g x y st1).toS ρ fun z st2 => .nx (ρ.set i (some z)) st2
def iaddA : A → A → Store → R A
  | .int i, .int j, st => .ok (.int (i + j)) st
  | _, _, _ => .bad
theorem os_iadd : OpS X (ipI fun i j => i + j) iaddA := fun W φ H st x y a b Q rs ra rb h => by
  cases ra with
  | int i =>
    cases rb with
    | int j => exact ⟨i, j, rfl, rfl, h.ok rs (.int _)⟩
    | _ => exact (show False from h).elim
  | _ => exact (show False from h).elim
theorem ms_aug {i : Nat} {x : Str} {op : Operator} {ti : TIp} {pos' : Pos} {g : A → A → Store → R A} (hN : X.N.Nodup) (ho : PIp X op ti) (hg : OpS X ti g) (he : PE X e (tE X W ma)) (hi : X.N[i]? = some x := by rfl) (hx : Loc X.env.scope x := by first | exact Or.inl rfl | exact Or.inr rfl)
    (hf : X.fn x = true ∨ X.env.scope.names.lookup x = some .local := by first | exact .inl rfl | exact .inr rfl | assumption) : PS X (.AugAssign (.Name x pos') op e pos) (tS X W (mAug i g ma)) := (ps_aug hN hi hx he ho hf).imp fun D σ H ⟨φ, ρ, st, rs, re, h⟩ => by
  unfold mAug mVar at h
  cases q : ρ[i]? with
  | none => rw [q] at h; exact h.elim
  | some o =>
    cases o with
    | none => rw [q] at h; exact h.elim
    | some d =>
      rw [q] at h
      obtain ⟨v, g1, g2⟩ := re.all i d q
      refine ⟨v, g1, φ, ρ, st, rs, re, SPst.exp h re fun φ1 b y H1 st1 e1 rs1 rv1 h1 => ?_⟩
      refine hg (fun c d H' => W c d σ H') _ _ _ _ _ _ _ _ rs1 (g2.ext e1) rv1 (SPst.exp h1 (re.ext e1) fun φ2 z w H2 st2 e2 rs2 rv2 h2 => ?_)
      exact h2 φ2 _ H2 .refl rs2 (((re.ext e1).ext e2).set rv2 i)
def whileF : Nat → MT → MS → MS
  | 0, _, _, _, _ => .bad
  | n + 1, c, b, ρ, st => (c ρ st).toS ρ fun x st1 => if x = true then match b ρ st1 with
      | .nx ρ2 st2 => whileF n c b ρ2 st2
      | .ct ρ2 st2 => whileF n c b ρ2 st2
      | .bk ρ2 st2 => .nx ρ2 st2
      | r => r else .nx ρ st1
open Classical in
noncomputable def mWhile (c : MT) (b : MS) : MS := fun ρ st => if h : ∃ n, whileF n c b ρ st ≠ .bad then whileF h.choose c b ρ st else .bad
theorem whileF_mono {c : MT} {b : MS} : ∀ {n m : Nat} {ρ : Env} {st : Store}, n ≤ m → whileF n c b ρ st ≠ .bad → whileF m c b ρ st = whileF n c b ρ st
  | 0, _, _, _, _, h => absurd rfl h
  | n + 1, 0, _, _, hl, _ => absurd hl (by omega)
  | n + 1, m + 1, ρ, st, hl, h => by
    unfold whileF at h ⊢
    cases e : c ρ st with
    | bad => rw [e] at h; exact absurd rfl h
    | er x st1 => rfl
    | ok x st1 =>
      rw [e] at h
      simp only [R.toS] at h ⊢
      cases x with
      | false => rfl
      | true =>
        simp only [if_true] at h ⊢
        cases e2 : b ρ st1 with
        | nx ρ2 st2 =>
          rw [e2] at h
          simp only at h ⊢
          exact whileF_mono (by omega) h
        | ct ρ2 st2 =>
          rw [e2] at h
          simp only at h ⊢
          exact whileF_mono (by omega) h
        | _ => rfl
theorem mWhile_of {c : MT} {b : MS} {ρ : Env} {st : Store} {r : SR} (n : Nat) (h : whileF n c b ρ st = r) (hr : r ≠ .bad) : mWhile c b ρ st = r := by
  unfold mWhile
  have hx : ∃ n, whileF n c b ρ st ≠ .bad := ⟨n, by rw [h]; exact hr⟩
  rw [dif_pos hx]
  have h2 := hx.choose_spec
  rcases Nat.le_total n hx.choose with l | l
  · rw [whileF_mono l (by rw [h]; exact hr), h]
  · rw [← whileF_mono l h2, h]
theorem mWhile_ex {c : MT} {b : MS} {ρ : Env} {st : Store} (h : mWhile c b ρ st ≠ .bad) : ∃ n, whileF n c b ρ st = mWhile c b ρ st := by
  unfold mWhile at h ⊢
  by_cases hx : ∃ n, whileF n c b ρ st ≠ .bad
  · rw [dif_pos hx]
    exact ⟨_, rfl⟩
  · rw [dif_neg hx] at h
    exact absurd rfl h
theorem ms_while {c : Expr} {body : List Stmt} {mc : MT} {mb : MS} (hp : PassesOwn (model X.prog X.w) X.A X.env X.xe) (hc : PT X c (tT X W mc)) (hb : PSs X body (tS X W mb)) : PS X (.While c body [] pos) (tS X W (mWhile mc mb)) := (ps_while hp hc hb).imp fun D σ H ⟨φ, ρ, st, rs, re, h⟩ => by
  have hne : mWhile mc mb ρ st ≠ .bad := fun z => by rw [z] at h; exact h
  obtain ⟨n, hn⟩ := mWhile_ex hne
  rw [← hn] at h
  refine ⟨fun m σ H => ∃ φ ρ st, RS X.K X.w X.mg φ H st ∧ RE X.K φ H σ ρ ∧ SPst X.K X.w X.mg W φ H (whileF m mc mb ρ st) D, ⟨n, φ, ρ, st, rs, re, h⟩, ?_⟩
  rintro m σ H ⟨φ, ρ, st, rs, re, h⟩
  cases m with
  | zero => exact h.elim
  | succ m =>
    unfold whileF at h
    refine ⟨φ, ρ, st, rs, re, h.exp re fun φ1 b x H1 st1 e1 rs1 rv1 h1 => ?_⟩
    subst rv1
    cases x with
    | false => exact iteF (h1 φ1 σ H1 .refl rs1 (re.ext e1))
    | true =>
      refine iteT ⟨fun σ' H' => ∃ φ ρ st, RS X.K X.w X.mg φ H' st ∧ RE X.K φ H' σ' ρ ∧ SPst X.K X.w X.mg W φ H' (whileF m mc mb ρ st) D, fun σ' H' h => ⟨m, Nat.lt_succ_self m, h⟩, φ1, ρ, st1, rs1, re.ext e1, ?_⟩
      simp only [if_true] at h1
      cases e2 : mb ρ st1 with
      | nx ρ2 st2 =>
        rw [e2] at h1
        exact fun φ' σ' H' ex rs' re' => ⟨φ', ρ2, st2, rs', re', SPst.mono h1 ex⟩
      | ct ρ2 st2 =>
        rw [e2] at h1
        exact fun φ' σ' H' ex rs' re' => ⟨φ', ρ2, st2, rs', re', SPst.mono h1 ex⟩
      | bk ρ2 st2 => rw [e2] at h1; exact h1
      | rt a st2 => rw [e2] at h1; exact h1
      | er x ρ2 st2 => rw [e2] at h1; exact h1
      | bad => rw [e2] at h1; exact h1
inductive Src where
  | vals (xs : List A) | lst (r : Nat) | rng (lo : Int) (n : Nat) | chars (x : Str) | zipv (xs ys : List A) | zipl (r q : Nat) | revl (r n : Nat) | enul (r : Nat)
def stL (st : Store) (r : Nat) : Option (List A) := match st[r]? with
  | some (.lst xs) => some xs
  | _ => none
def Src.at (s : Src) (i : Nat) (st : Store) : Option (Option A) := match s with
  | .vals xs => some xs[i]?
  | .lst r => match stL st r with
    | some xs => some xs[i]?
    | none => none
  | .rng lo n => some (if i < n then some (.int (lo + (i : Nat))) else none)
  | .chars x => some (x.cps[i]?.map fun c => .str ⟨#[c]⟩)
  | .zipv xs ys => some (match xs[i]?, ys[i]? with
    | some a, some b => some (.tup [a, b])
    | _, _ => none)
  | .zipl r q => match stL st r, stL st q with
    | some xs, some ys => some (match xs[i]?, ys[i]? with
      | some a, some b => some (.tup [a, b])
      | _, _ => none)
    | _, _ => none
  | .revl r n => if i < n then (match stL st r with
    | some xs => (match xs[n - 1 - i]? with
      | some x => some (some x)
      | none => none)
    | none => none) else some none
  | .enul r => match stL st r with
    | some xs => some (match xs[i]? with
      | some a => some (.tup [.int (i : Nat), a])
      | none => none)
    | none => none
def Src.size (s : Src) (st : Store) : Nat := match s with
  | .vals xs => xs.length
  | .lst r => ((stL st r).getD []).length
  | .rng _ n => n
  | .chars x => x.cps.size
  | .zipv xs _ => xs.length
  | .zipl r _ => ((stL st r).getD []).length
  | .revl _ n => n
  | .enul r => ((stL st r).getD []).length
structure SimB (K : PySem.W.Frag) (w : World) (mg : Str → Option Value) (wk : Bool) (φ0 : List Addr) (H0 : Hp) (J : It) (s : Src) : Prop where
  stop : ∀ i φ H st, Ext φ0 H0 φ H → RS K w mg φ H st → s.at i st = some none → J.stop i H
  go : ∀ i φ H st a, Ext φ0 H0 φ H → RS K w mg φ H st → s.at i st = some (some a) → J.go i H ∧ ∀ x H', J.yld i H x H' → Ext φ H φ H' ∧ RS K w mg φ H' st ∧ RVw K φ H' wk x a
abbrev SimS (K : PySem.W.Frag) (w : World) (mg : Str → Option Value) := SimB K w mg false
abbrev tIW (X : Cx) (W : WX) (ms : Env → Store → R Src) : TI := tG X.K X.w X.mg (SimB X.K X.w X.mg true) W ms
abbrev tI (X : Cx) (W : WX) (ms : Env → Store → R Src) : TI := tG X.K X.w X.mg (SimS X.K X.w X.mg) W ms
theorem PIimp {tg iter : Expr} {t t' : TI} (h : PI X tg iter t) (k : ∀ σ H R, t' σ H R → t σ H R) : PI X tg iter t' := ⟨fun pins s σ H R I q => h.run pins s σ H R I (k _ _ _ q)⟩
theorem PIor {tg iter : Expr} {t t' : TI} (h : PI X tg iter t) (h' : PI X tg iter t') : PI X tg iter (fun σ H R => t σ H R ∨ t' σ H R) := ⟨fun pins s σ H R I q => q.elim (h.run pins s σ H R I) (h'.run pins s σ H R I)⟩
def srcA : A → Store → R Src
  | .tup xs, st => .ok (.vals xs) st
  | .scr xs, st => .ok (.vals xs) st
  | .str x, st => .ok (.chars x) st
  | .ref r, st => match st[r]? with
    | some (.lst _) => .ok (.lst r) st
    | _ => .bad
  | _, _ => .bad
def mSrc (ma : MX) : Env → Store → R Src := fun ρ st => (ma ρ st).bind srcA
end
section
variable {K : PySem.W.Frag} {w : World} {mg : Str → Option Value} {φ0 : List Addr} {H0 : Hp}
theorem sim_tup {a : Addr} {xs : List V} {ds : List A} (q : StT K φ0 H0 a xs) (qs : RVs K φ0 H0 xs ds) : SimS K w mg φ0 H0 (Itt K a) (.vals ds) where
  stop := fun i φ H st e rs h => ⟨xs, (q.ext e).sq, by
    have h1 : ds[i]? = none := Option.some.inj h
    rw [qs.length]
    exact List.getElem?_eq_none_iff.mp h1⟩
  go := fun i φ H st d e rs h => by
    have h1 : ds[i]? = some d := Option.some.inj h
    obtain ⟨v, h2, h3⟩ := qs.get h1
    refine ⟨⟨xs, v, (q.ext e).sq, h2⟩, fun x H' y => ?_⟩
    obtain ⟨rfl, y⟩ := y
    have e3 := (y xs (q.ext e).sq).symm.trans h2
    cases e3
    exact ⟨.refl, rs, h3.ext e⟩
theorem sim_scr {a : Addr} {xs : List V} {ds : List A} (q : StL K φ0 H0 a xs) (qs : RVs K φ0 H0 xs ds) : SimS K w mg φ0 H0 (Itl K a) (.vals ds) where
  stop := fun i φ H st e rs h => ⟨xs, (q.ext e).sq, by
    have h1 : ds[i]? = none := Option.some.inj h
    rw [qs.length]
    exact List.getElem?_eq_none_iff.mp h1⟩
  go := fun i φ H st d e rs h => by
    have h1 : ds[i]? = some d := Option.some.inj h
    obtain ⟨v, h2, h3⟩ := qs.get h1
    refine ⟨⟨xs, v, (q.ext e).sq, h2⟩, fun x H' y => ?_⟩
    obtain ⟨rfl, y⟩ := y
    have e3 := (y xs (q.ext e).sq).symm.trans h2
    cases e3
    exact ⟨.refl, rs, h3.ext e⟩
theorem stL_eq {st : Store} {r : Nat} {xs : List A} (h : stL st r = some xs) : st[r]? = some (.lst xs) := by
  unfold stL at h
  split at h
  · rename_i ys e
    cases h
    exact e
  · cases h
theorem sim_lst {a : Addr} {r : Nat} (q : φ0[r]? = some a) : SimS K w mg φ0 H0 (Itl K a) (.lst r) where
  stop := fun i φ H st e rs h => by
    unfold Src.at at h
    simp only at h
    cases e1 : stL st r with
    | none => rw [e1] at h; cases h
    | some ds =>
      rw [e1] at h
      obtain ⟨xs, h1, h2⟩ := rs.lst (e.get q) (stL_eq e1)
      have h3 : ds[i]? = none := Option.some.inj h
      exact ⟨xs, .inl (.inl h1), by rw [h2.length]; exact List.getElem?_eq_none_iff.mp h3⟩
  go := fun i φ H st d e rs h => by
    unfold Src.at at h
    simp only at h
    cases e1 : stL st r with
    | none => rw [e1] at h; cases h
    | some ds =>
      rw [e1] at h
      obtain ⟨xs, h1, h2⟩ := rs.lst (e.get q) (stL_eq e1)
      have h3 : ds[i]? = some d := Option.some.inj h
      obtain ⟨v, h4, h5⟩ := h2.get h3
      refine ⟨⟨xs, v, .inl (.inl h1), h4⟩, fun x H' y => ?_⟩
      obtain ⟨rfl, y⟩ := y
      have e3 := (y xs (.inl (.inl h1))).symm.trans h4
      cases e3
      exact ⟨.refl, rs, h5⟩
theorem sim_rng {lo : Int} {n : Nat} : SimS K w mg φ0 H0 (Itr lo n) (.rng lo n) where
  stop := fun i φ H st e rs h => by
    unfold Src.at at h
    simp only [Option.some.injEq] at h
    split at h
    · cases h
    · rename_i hn
      exact Nat.le_of_not_lt hn
  go := fun i φ H st d e rs h => by
    unfold Src.at at h
    simp only [Option.some.injEq] at h
    split at h
    · rename_i hn
      cases h
      refine ⟨hn, fun x H' y => ?_⟩
      obtain ⟨rfl, rfl⟩ := y
      exact ⟨.refl, rs, .int _⟩
    · cases h
theorem sim_chars {z : Str} : SimS K w mg φ0 H0 (Its z) (.chars z) where
  stop := fun i φ H st e rs h => by
    unfold Src.at at h
    simp only [Option.some.injEq, Option.map_eq_none_iff] at h
    exact Array.getElem?_eq_none_iff.mp h
  go := fun i φ H st d e rs h => by
    unfold Src.at at h
    simp only [Option.some.injEq, Option.map_eq_some_iff] at h
    obtain ⟨c, hc, rfl⟩ := h
    refine ⟨(Array.getElem?_eq_some_iff.mp hc).1, fun x H' y => ?_⟩
    obtain ⟨rfl, c', hc', rfl⟩ := y
    rw [hc] at hc'
    cases hc'
    exact ⟨.refl, rs, .str _⟩
theorem sim_zipv {a b : Addr} {xs ys : List V} {ds es : List A} (q : StT K φ0 H0 a xs) (qs : RVs K φ0 H0 xs ds) (p : StT K φ0 H0 b ys) (ps : RVs K φ0 H0 ys es) : SimB K w mg true φ0 H0 (RZ.ItzT K a b) (.zipv ds es) where
  stop := fun i φ H st e rs h => by
    unfold Src.at at h
    simp only [Option.some.injEq] at h
    refine ⟨xs, ys, (q.ext e).sq, (p.ext e).sq, ?_⟩
    rw [qs.length, ps.length]
    split at h
    · cases h
    · rename_i hn
      by_cases c1 : ds.length ≤ i
      · exact .inl c1
      · by_cases c2 : es.length ≤ i
        · exact .inr c2
        · exact absurd (List.getElem?_eq_getElem (Nat.lt_of_not_le c2)) (hn _ _ (List.getElem?_eq_getElem (Nat.lt_of_not_le c1)))
  go := fun i φ H st d e rs h => by
    unfold Src.at at h
    simp only [Option.some.injEq] at h
    split at h
    · rename_i d1 d2 h1 h2
      cases h
      obtain ⟨v1, g1, g2⟩ := qs.get h1
      obtain ⟨v2, g3, g4⟩ := ps.get h2
      refine ⟨⟨xs, ys, v1, v2, (q.ext e).sq, (p.ext e).sq, g1, g3⟩, fun x H' y => ?_⟩
      obtain ⟨T, x', y', rfl, hT, rfl, f1, f2⟩ := y
      have z1 := (f1 xs (q.ext e).sq).symm.trans g1
      have z2 := (f2 ys (p.ext e).sq).symm.trans g3
      cases z1
      cases z2
      exact ⟨ext_new hT, rs.new hT, T, _, _, rfl, rfl, .inl (.inl upd_same), RVs.ext (ext_new hT) (.cons (g2.ext e) (.cons (g4.ext e) .nil))⟩
    · cases h
theorem sim_zipl {a b : Addr} {r q : Nat} (ha : φ0[r]? = some a) (hb : φ0[q]? = some b) : SimB K w mg true φ0 H0 (Itz K a b) (.zipl r q) where
  stop := fun i φ H st e rs h => by
    unfold Src.at at h
    simp only at h
    cases e1 : stL st r with
    | none => rw [e1] at h; cases h
    | some ds =>
      cases e2 : stL st q with
      | none => rw [e1, e2] at h; cases h
      | some es =>
        rw [e1, e2] at h
        simp only [Option.some.injEq] at h
        obtain ⟨xs, h1, h2⟩ := rs.lst (e.get ha) (stL_eq e1)
        obtain ⟨ys, h3, h4⟩ := rs.lst (e.get hb) (stL_eq e2)
        refine ⟨xs, ys, .inl (.inl h1), .inl (.inl h3), ?_⟩
        rw [h2.length, h4.length]
        split at h
        · cases h
        · rename_i hn
          by_cases c1 : ds.length ≤ i
          · exact .inl c1
          · by_cases c2 : es.length ≤ i
            · exact .inr c2
            · exact absurd (List.getElem?_eq_getElem (Nat.lt_of_not_le c2)) (hn _ _ (List.getElem?_eq_getElem (Nat.lt_of_not_le c1)))
  go := fun i φ H st d e rs h => by
    unfold Src.at at h
    simp only at h
    cases e1 : stL st r with
    | none => rw [e1] at h; cases h
    | some ds =>
      cases e2 : stL st q with
      | none => rw [e1, e2] at h; cases h
      | some es =>
        rw [e1, e2] at h
        simp only [Option.some.injEq] at h
        obtain ⟨xs, k1, k2⟩ := rs.lst (e.get ha) (stL_eq e1)
        obtain ⟨ys, k3, k4⟩ := rs.lst (e.get hb) (stL_eq e2)
        split at h
        · rename_i d1 d2 h1 h2
          cases h
          obtain ⟨v1, g1, g2⟩ := k2.get h1
          obtain ⟨v2, g3, g4⟩ := k4.get h2
          refine ⟨⟨xs, ys, v1, v2, .inl (.inl k1), .inl (.inl k3), g1, g3⟩, fun x H' y => ?_⟩
          obtain ⟨T, x', y', rfl, hT, rfl, f1, f2⟩ := y
          have z1 := (f1 xs (.inl (.inl k1))).symm.trans g1
          have z2 := (f2 ys (.inl (.inl k3))).symm.trans g3
          cases z1
          cases z2
          exact ⟨ext_new hT, rs.new hT, T, _, _, rfl, rfl, .inl (.inl upd_same), RVs.ext (ext_new hT) (.cons g2 (.cons g4 .nil))⟩
        · cases h
end
section
variable {X : Cx} {W : WX} {a b e tg : Expr} {ma mb : MX} {ms : MA} {pos : Pos}
theorem mi_it (ha : PE X a (tE X W ma)) : PI X tg a (tI X W (mSrc ma)) := PIimp (PIor (pi_list ha) (PIor (pi_tup ha) (pi_str ha))) fun σ H Q ⟨φ, ρ, st, rs, re, h⟩ => by
  unfold mSrc at h
  cases e : ma ρ st with
  | bad => rw [e] at h; exact h.elim
  | er x st1 =>
    rw [e] at h
    exact .inl ⟨φ, ρ, st, rs, re, by rw [e]; exact h⟩
  | ok d st1 =>
    rw [e] at h
    have h : Pst X.K X.w X.mg (SimS X.K X.w X.mg) (fun c d H' => W c d σ H') φ H (srcA d st1) Q := h
    cases d with
    | tup ds =>
      refine .inr (.inl ⟨φ, ρ, st, rs, re, ?_⟩)
      rw [e]
      intro φ1 v H1 e1 rs1 rv1
      cases rv1 with
      | tup q qs => exact ⟨_, rfl, ⟨_, q.sq⟩, h φ1 _ H1 e1 rs1 (sim_tup q qs)⟩
    | scr ds =>
      refine .inl ⟨φ, ρ, st, rs, re, ?_⟩
      rw [e]
      intro φ1 v H1 e1 rs1 rv1
      cases rv1 with
      | scr q qs => exact ⟨_, rfl, ⟨_, q.sq⟩, h φ1 _ H1 e1 rs1 (sim_scr q qs)⟩
    | str z =>
      refine .inr (.inr ⟨φ, ρ, st, rs, re, ?_⟩)
      rw [e]
      intro φ1 v H1 e1 rs1 rv1
      cases rv1
      exact ⟨_, rfl, h φ1 _ H1 e1 rs1 sim_chars⟩
    | ref r =>
      refine .inl ⟨φ, ρ, st, rs, re, ?_⟩
      rw [e]
      intro φ1 v H1 e1 rs1 rv1
      unfold srcA at h
      simp only at h
      cases e2 : st1[r]? with
      | none => rw [e2] at h; exact h.elim
      | some o =>
        cases o with
        | oth u => rw [e2] at h; exact h.elim
        | lst ds =>
          rw [e2] at h
          cases rv1 with
          | ref q =>
            obtain ⟨xs, h1, _⟩ := rs1.lst q e2
            exact ⟨_, rfl, ⟨_, .inl (.inl h1)⟩, h φ1 _ H1 e1 rs1 (sim_lst q)⟩
    | _ => exact h.elim
def rngA : List A → Store → R Src
  | [.int j], st => if -(2 ^ 62) ≤ j ∧ j < 2 ^ 62 then .ok (.rng 0 j.toNat) st else .bad
  | [.int i, .int j], st => if -(2 ^ 62) ≤ i ∧ i < 2 ^ 62 ∧ -(2 ^ 62) ≤ j ∧ j < 2 ^ 62 then .ok (.rng i (j - i).toNat) st else .bad
  | _, _ => .bad
def mRng (ms : MA) : Env → Store → R Src := fun ρ st => (ms ρ st).bind rngA
theorem mi_range1 {p : Pos} {x : Str} (hm : X.mg "range" = none) (ha : PA X [a] (tA X W ms)) (hg : Gl X "range" := by rfl) (hs : starEach [a] X.env = [(false, eval a X.env)] := by rfl) (hn : ∀ ρ st as st', ms ρ st = .ok as st' → as.length = 1) : PI X tg (.Call (.Name "range" p) [a] [] pos) (tI X W (mRng ms)) := PIimp (pi_range1 hg hm ha hs) fun σ H Q ⟨φ, ρ, st, rs, re, h⟩ => by
  have hn' := hn ρ st
  refine ⟨φ, ρ, st, rs, re, ?_⟩
  unfold mRng at h
  cases e : ms ρ st with
  | bad => rw [e] at h; exact h.elim
  | er x st1 => rw [e] at h; exact h
  | ok ds st1 =>
    rw [e] at h
    have hl := hn' ds st1 e
    intro φ1 vs H1 e1 rs1 rv1
    have h1 : Pst X.K X.w X.mg (SimS X.K X.w X.mg) (fun c d H' => W c d σ H') φ H (rngA ds st1) Q := h
    unfold rngA at h1
    split at h1
    · split at h1
      · rename_i hz
        obtain ⟨v, rfl, r⟩ := one_rv rv1
        cases r
        exact ⟨_, rfl, hz.1, hz.2, h1 φ1 _ H1 e1 rs1 sim_rng⟩
      · exact h1.elim
    · simp at hl
    · exact h1.elim
theorem mi_range2 {p : Pos} {x : Str} (hm : X.mg "range" = none) (ha : PA X [a, b] (tA X W ms)) (hg : Gl X "range" := by rfl) (hs : starEach [a, b] X.env = [(false, eval a X.env), (false, eval b X.env)] := by rfl) (hs2 : starEach [b] X.env = [(false, eval b X.env)] := by rfl)
    (hn : ∀ ρ st as st', ms ρ st = .ok as st' → as.length = 2) : PI X tg (.Call (.Name "range" p) [a, b] [] pos) (tI X W (mRng ms)) := PIimp (pi_range2 hg hm ha hs hs2) fun σ H Q ⟨φ, ρ, st, rs, re, h⟩ => by
  have hn' := hn ρ st
  refine ⟨φ, ρ, st, rs, re, ?_⟩
  unfold mRng at h
  cases e : ms ρ st with
  | bad => rw [e] at h; exact h.elim
  | er x st1 => rw [e] at h; exact h
  | ok ds st1 =>
    rw [e] at h
    have hl := hn' ds st1 e
    intro φ1 vs H1 e1 rs1 rv1
    have h1 : Pst X.K X.w X.mg (SimS X.K X.w X.mg) (fun c d H' => W c d σ H') φ H (rngA ds st1) Q := h
    unfold rngA at h1
    split at h1
    · simp at hl
    · split at h1
      · rename_i hz
        obtain ⟨v, v', rfl, r, r'⟩ := two_rv rv1
        cases r
        cases r'
        exact ⟨_, _, rfl, hz, h1 φ1 _ H1 e1 rs1 sim_rng⟩
      · exact h1.elim
    · exact h1.elim
theorem cons1 {mx : MX} (ρ : Env) (st : Store) (as : List A) (st' : Store) (h : mCons mx mNil ρ st = .ok as st') : as.length = 1 := by
  unfold mCons at h
  cases e : mx ρ st with
  | ok d st1 => rw [e] at h; cases h; rfl
  | er x st1 => rw [e] at h; cases h
  | bad => rw [e] at h; cases h
theorem cons2 {mx my : MX} (ρ : Env) (st : Store) (as : List A) (st' : Store) (h : mCons mx (mCons my mNil) ρ st = .ok as st') : as.length = 2 := by
  unfold mCons at h
  cases e : mx ρ st with
  | ok d st1 =>
    rw [e] at h
    cases e2 : my ρ st1 with
    | ok d2 st2 =>
      simp only [R.bind, mCons, e2, mNil] at h
      cases h
      rfl
    | er x st2 => simp only [R.bind, mCons, e2, mNil] at h; cases h
    | bad => simp only [R.bind, mCons, e2, mNil] at h; cases h
  | er x st1 => rw [e] at h; cases h
  | bad => rw [e] at h; cases h
def zipA : List A → Store → R Src
  | [.tup xs, .tup ys], st => .ok (.zipv xs ys) st
  | [.ref r, .ref q], st => match st[r]?, st[q]? with
    | some (.lst _), some (.lst _) => .ok (.zipl r q) st
    | _, _ => .bad
  | _, _ => .bad
def mZip (ms : MA) : Env → Store → R Src := fun ρ st => (ms ρ st).bind zipA
theorem mi_zip {p tpos : Pos} {elts : List Expr} {kk : Nat} (hm : X.mg "zip" = none) (ha : PA X [a, b] (tA X W ms)) (hg : Gl X "zip" := by rfl)
    (hs : starEach [a, b] X.env = (false, eval a X.env) :: starEach [b] X.env := by rfl) (hpl : (backTo pos (starEach [b] X.env)).any (·.1) = false := by rfl) : PI X (.Tuple elts kk tpos) (.Call (.Name "zip" p) [a, b] [] pos) (tIW X W (mZip ms)) := PIimp (RZ.pi_zipA hg hm ha hs hpl) fun σ H Q ⟨φ, ρ, st, rs, re, h⟩ => by
  refine ⟨φ, ρ, st, rs, re, h.seq fun φ1 ds vs H1 st1 e1 rs1 rv1 h1 => ?_⟩
  unfold zipA at h1
  split at h1
  · obtain ⟨v, v', rfl, r, r'⟩ := two_rv rv1
    cases r with
    | tup q qs =>
      cases r' with
      | tup p ps => exact ⟨_, _, _, _, rfl, .inr ⟨q.sq, p.sq, h1.ok rs1 (sim_zipv q qs p ps)⟩⟩
  · rename_i i j
    obtain ⟨v, v', rfl, r, r'⟩ := two_rv rv1
    cases r with
    | ref q =>
      cases r' with
      | ref p =>
        cases e2 : st1[i]? with
        | none => rw [e2] at h1; exact h1.elim
        | some o =>
          cases o with
          | oth u => rw [e2] at h1; exact h1.elim
          | lst ds =>
            cases e3 : st1[j]? with
            | none => rw [e2, e3] at h1; exact h1.elim
            | some o2 =>
              cases o2 with
              | oth u => rw [e2, e3] at h1; exact h1.elim
              | lst es =>
                rw [e2, e3] at h1
                obtain ⟨xs, g1, _⟩ := rs1.lst q e2
                obtain ⟨ys, g2, _⟩ := rs1.lst p e3
                exact ⟨_, _, _, _, rfl, .inl ⟨.inl (.inl g1), .inl (.inl g2), h1.ok rs1 (sim_zipl q p)⟩⟩
  · exact h1.elim
def loopF (s : Src) (tg : Tg) (body : MS) : Nat → Nat → MS
  | 0, _, _, _ => .bad
  | n + 1, i, ρ, st => match s.at i st with
    | none => .bad
    | some none => .nx ρ st
    | some (some d) => match asgT tg d ρ st with
      | none => .bad
      | some ρ1 => match body ρ1 st with
        | .nx ρ2 st2 => loopF s tg body n (i + 1) ρ2 st2
        | .ct ρ2 st2 => loopF s tg body n (i + 1) ρ2 st2
        | .bk ρ2 st2 => .nx ρ2 st2
        | r => r
def mFor (ms : Env → Store → R Src) (tg : Tg) (body : MS) : MS := fun ρ st => (ms ρ st).toS ρ fun s st1 => loopF s tg body (s.size st1 + 1) 0 ρ st1
theorem ms_for {iter : Expr} {body : List Stmt} {wk : Bool} {mi : Env → Store → R Src} {T : Tg} {mb : MS} (hp : PassesOwn (model X.prog X.w) X.A X.env X.xe) (hi : PI X tg iter (tG X.K X.w X.mg (SimB X.K X.w X.mg wk) W mi)) (hg : PG X tg (gOf X.K T)) (hb : PSs X body (tS X W mb))
    (hc : X.calm = true := by rfl) (hs : ∀ x, foldedSetIterable iter X.env x = pure x := by intro _; rfl) (hw : wk = false ∨ T.isOne = false := by first | exact Or.inl rfl | exact Or.inr rfl) : PS X (.For tg iter body [] pos) (tS X W (mFor mi T mb)) := (ps_for hp hc hi hg hb hs).imp fun D σ H ⟨φ, ρ, st, rs, re, h⟩ => by
  refine ⟨φ, ρ, st, rs, re, h.exp re fun φ1 s J H1 st1 e1 rs1 sim h1 => ?_⟩
  refine ⟨fun i m σ H => ∃ φ ρ st, Ext φ1 H1 φ H ∧ RS X.K X.w X.mg φ H st ∧ RE X.K φ H σ ρ ∧ SPst X.K X.w X.mg W φ H (loopF s T mb m i ρ st) D, ⟨_, φ1, ρ, st1, .refl, rs1, re.ext e1, h1⟩, ?_⟩
  rintro i m σ H ⟨φ, ρ, st, ex, rs, re, h⟩
  cases m with
  | zero => exact h.elim
  | succ m =>
    unfold loopF at h
    cases q : s.at i st with
    | none => rw [q] at h; exact h.elim
    | some o =>
      cases o with
      | none =>
        rw [q] at h
        exact .inl ⟨sim.stop i φ H st ex rs q, h φ σ H .refl rs re⟩
      | some d =>
        rw [q] at h
        simp only at h
        cases q2 : asgT T d ρ st with
        | none => rw [q2] at h; exact h.elim
        | some ρ1 =>
          rw [q2] at h
          simp only at h
          obtain ⟨g1, g2⟩ := sim.go i φ H st d ex rs q
          refine .inr ⟨g1, fun σ' H' => ∃ φ ρ st, Ext φ1 H1 φ H' ∧ RS X.K X.w X.mg φ H' st ∧ RE X.K φ H' σ' ρ ∧ SPst X.K X.w X.mg W φ H' (loopF s T mb m (i + 1) ρ st) D, fun σ' H' w => ⟨m, Nat.lt_succ_self m, w⟩, fun x H' y => ?_⟩
          obtain ⟨ex2, rs2, rv2⟩ := g2 x H' y
          refine gOf_runB hw rv2 (re.ext ex2) q2 fun xs re2 => ⟨φ, ρ1, st, rs2, re2, ?_⟩
          cases q3 : mb ρ1 st with
          | nx ρ2 st2 =>
            rw [q3] at h
            exact fun φ' σ' H' e4 rs' re' => ⟨φ', ρ2, st2, (ex.trans ex2).trans e4, rs', re', SPst.mono h (ex2.trans e4)⟩
          | ct ρ2 st2 =>
            rw [q3] at h
            exact fun φ' σ' H' e4 rs' re' => ⟨φ', ρ2, st2, (ex.trans ex2).trans e4, rs', re', SPst.mono h (ex2.trans e4)⟩
          | bk ρ2 st2 => rw [q3] at h; exact SPst.mono h ex2
          | rt a st2 => rw [q3] at h; exact SPst.mono h ex2
          | er x ρ2 st2 => rw [q3] at h; exact SPst.mono h ex2
          | bad => rw [q3] at h; exact h
def mYes : MT := fun _ st => .ok true st
def loopC (s : Src) (tg : Tg) (own : List Nat) (tt : MT) (elt : MX) (ρ0 : Env) : Nat → Nat → Store → List A → R (List A)
  | 0, _, _, _ => .bad
  | n + 1, i, st, acc => match s.at i st with
    | none => .bad
    | some none => .ok acc st
    | some (some d) => match asgT tg d ρ0 st with
      | none => .bad
      | some ρ1 => match tt ρ1 st with
        | .ok b st1 => if b = true then match elt ρ1 st1 with
            | .ok y st2 => if acc.length < sizeLine then loopC s tg own tt elt ρ0 n (i + 1) st2 (acc ++ [y]) else .bad
            | _ => .bad else loopC s tg own tt elt ρ0 n (i + 1) st1 acc
        | _ => .bad
def mLc (mi : Env → Store → R Src) (tg : Tg) (own : List Nat) (tt : MT) (elt : MX) : MX := fun ρ st => (mi ρ st).bind fun s st1 => (loopC s tg own tt elt (wipeA ρ own) (s.size st1 + 1) 0 st1 []).bind fun xs st2 => .ok (.ref st2.length) (st2 ++ [.lst xs])
abbrev W0 : WX := fun _ _ _ _ => False
theorem wipe_get {σ : L2.St} {j : Nat} : ∀ {vs : List Nat}, (wipe σ vs)[j]? = if j ∈ vs then σ[j]?.map (fun _ => none) else σ[j]?
  | [] => by simp [wipe]
  | v :: vs => by
    unfold wipe
    by_cases e : v = j
    · subst e
      rw [List.getElem?_set_self', wipe_get (vs := vs)]
      simp only [List.mem_cons, true_or, if_true]
      split <;> cases σ[v]? <;> rfl
    · rw [List.getElem?_set_ne e, wipe_get (vs := vs)]
      have : (j ∈ v :: vs) ↔ j ∈ vs := by simp [show ¬ j = v from fun z => e z.symm]
      simp only [this]
theorem setsV_get {j : Nat} : ∀ {is : List Nat} {xs : List V} {σ : L2.St}, j ∉ is → (setsV σ is xs)[j]? = σ[j]?
  | [], _, _, _ => by unfold setsV; rfl
  | _ :: _, [], _, _ => by unfold setsV; rfl
  | i :: is, x :: xs, σ, h => by
    unfold setsV
    rw [setsV_get fun z => h (List.mem_cons_of_mem _ z), List.getElem?_set_ne fun z => h (by rw [z]; exact List.mem_cons_self)]
theorem setsV_len : ∀ {is : List Nat} {xs : List V} {σ : L2.St}, (setsV σ is xs).length = σ.length
  | [], _, _ => by unfold setsV; rfl
  | _ :: _, [], _ => by unfold setsV; rfl
  | i :: is, x :: xs, σ => by
    unfold setsV
    rw [setsV_len, List.length_set]
theorem wipe_sets {σ : L2.St} {own is : List Nat} {xs : List V} (h : ∀ i ∈ is, i ∈ own) : wipe (setsV (wipe σ own) is xs) own = wipe σ own := by
  refine List.ext_getElem? fun j => ?_
  rw [wipe_get]
  by_cases c : j ∈ own
  · rw [if_pos c, wipe_get, if_pos c]
    by_cases l : j < σ.length
    · rw [List.getElem?_eq_getElem l, List.getElem?_eq_getElem (by rw [setsV_len, wipe_length]; exact l)]
      rfl
    · have e1 : σ[j]? = none := List.getElem?_eq_none (by omega)
      have e2 : (setsV (wipe σ own) is xs)[j]? = none := List.getElem?_eq_none (by rw [setsV_len, wipe_length]; omega)
      rw [e1, e2]
  · rw [if_neg c, setsV_get fun z => c (h j z)]
theorem lc_ok {wk : Bool} {mi : Env → Store → R Src} {T : Tg} {own : List Nat} {tt : MT} {me : MX} {σ : L2.St} {H : Hp} {Q : VK} (hw : wk = false ∨ T.isOne = false) (ho : ∀ i ∈ T.slots, i ∈ own) (h : tE X W (mLc mi T own tt me) σ H Q) : tLc (tG X.K X.w X.mg (SimB X.K X.w X.mg wk) W mi) (gOf X.K T) (tT X W0 tt) (tE X W0 me) own σ H Q := by
  obtain ⟨φ, ρ, st, rs, re, h⟩ := h
  refine ⟨φ, ρ, st, rs, re, h.seq fun φ1 s J H1 st1 e1 rs1 sim h1 => fun D hD => ?_⟩
  have re1 := (re.ext e1).wipe own
  have nD1 : D ∉ φ1 := rs1.notin hD
  have fin : ∀ {φ2 : List Addr} {H2 : Hp} {st2 : Store} {vs : List V} {as : List A}, Ext φ1 H1 φ2 H2 → D ∉ φ2 → H2 D = some (.lst vs) → RS X.K X.w X.mg φ2 H2 st2 → RVs X.K φ2 H2 vs as →
      Ext φ1 H1 (φ2 ++ [D]) H2 ∧ RS X.K X.w X.mg (φ2 ++ [D]) H2 (st2 ++ [.lst as]) := fun {φ2 H2 st2 vs as} ex nD hv rs2 rv => by
    have e0 : Ext φ1 H1 (φ2 ++ [D]) H2 := by
      obtain ⟨⟨t, rfl⟩, f, fz⟩ := ex
      refine ⟨⟨t ++ [D], by simp⟩, fun a o n q => ?_, fz⟩
      obtain ⟨q1, q2⟩ := f a o n q
      refine ⟨q1, fun z => ?_⟩
      rcases List.mem_append.mp z with z | z
      · exact q2 z
      · have : a = D := by simpa using z
        subst this
        rw [hD] at q
        cases q
    -- data over the longer φ
    have up : ∀ {v : V} {d : A}, RV X.K φ2 H2 v d → RV X.K (φ2 ++ [D]) H2 v d := fun {v d} r => by
      have hst : ∀ {a xs}, StT X.K φ2 H2 a xs → StT X.K (φ2 ++ [D]) H2 a xs := fun {a xs} q => by
        rcases q with ⟨q, n⟩ | q
        · refine .inl ⟨q, fun z => ?_⟩
          rcases List.mem_append.mp z with z | z
          · exact n z
          · have : a = D := by simpa using z
            subst this
            obtain ⟨o, _, q⟩ := q
            rw [hv] at q
            cases q
        · exact .inr q
      have hsl : ∀ {a xs}, StL X.K φ2 H2 a xs → StL X.K (φ2 ++ [D]) H2 a xs := fun {a xs} q => by
        rcases q with ⟨⟨o, q⟩, n⟩ | q
        · refine .inl ⟨⟨o, q⟩, fun z => ?_⟩
          rcases List.mem_append.mp z with z | z
          · exact n z
          · have : a = D := by simpa using z
            subst this
            rw [hv] at q
            cases q
        · exact .inr q
      exact RV.rec (motive_1 := fun v d _ => RV X.K (φ2 ++ [D]) H2 v d) (motive_2 := fun vs ds _ => RVs X.K (φ2 ++ [D]) H2 vs ds) .non .bl .int .str (fun q _ ih => .tup (hst q) ih) (fun q _ ih => .scr (hsl q) ih)
        (fun {a i} q => .ref (by rw [List.getElem?_append_left (List.getElem?_eq_some_iff.mp q).1]; exact q)) .nil (fun _ _ a b => .cons a b) r
    have ups : ∀ {vs : List V} {ds : List A}, RVs X.K φ2 H2 vs ds → RVs X.K (φ2 ++ [D]) H2 vs ds := fun {vs ds} r => by
      induction vs generalizing ds with
      | nil => cases r; exact .nil
      | cons v vs ih =>
        cases r with
        | cons h q => exact .cons (up h) (ih q)
    refine ⟨e0, by simp [rs2.len], ?_, fun i a o h1 h2 => ?_⟩
    · rw [List.nodup_append]
      refine ⟨rs2.nd, by simp, fun a ha b hb z => ?_⟩
      have : b = D := by simpa using hb
      subst this
      subst z
      exact nD ha
    · by_cases hi : i < φ2.length
      · rw [List.getElem?_append_left hi] at h1
        rw [List.getElem?_append_left (by rw [← rs2.len]; exact hi)] at h2
        have h3 := rs2.all i a o h1 h2
        cases o with
        | oth u => exact RO2.map (fun _ _ => up) (fun _ _ => ups) rfl (fun dx o n q nl => ⟨q, fun z => (List.mem_append.mp z).elim n fun z => by
            have z : dx = D := by simpa using z
            rw [z, hv] at q
            exact nl _ (Option.some.inj q).symm⟩) h3
        | lst ds' =>
          obtain ⟨ys, y1, y2⟩ := h3
          exact ⟨ys, y1, ups y2⟩
      · have hi2 : i = φ2.length := by
          have := (List.getElem?_eq_some_iff.mp h1).1
          rw [List.length_append, List.length_singleton] at this
          omega
        subst hi2
        rw [List.getElem?_append_right (Nat.le_refl _)] at h1
        rw [List.getElem?_append_right (by rw [rs2.len]; exact Nat.le_refl _)] at h2
        simp at h1
        rw [rs2.len] at h2
        simp at h2
        subst h1
        subst h2
        exact ⟨vs, hv, ups rv⟩
  refine ⟨fun i m H2 => ∃ φ2 st2 vs as, Ext φ1 H1 φ2 H2 ∧ D ∉ φ2 ∧ H2 D = some (.lst vs) ∧ RS X.K X.w X.mg φ2 H2 st2 ∧ RVs X.K φ2 H2 vs as ∧
    Pst X.K X.w X.mg (RV X.K) (fun c d H' => W c d σ H') φ1 H1 ((loopC s T own tt me (wipeA ρ own) m i st2 as).bind fun xs st2 => .ok (.ref st2.length) (st2 ++ [.lst xs])) Q,
    ⟨_, φ1, st1, [], [], ext_new hD, nD1, upd_same, rs1.new hD, .nil, h1⟩, ?_⟩
  rintro i m H2 ⟨φ2, st2, vs, as, ex, nD, hv, rs2, rv2, h2⟩
  cases m with
  | zero => exact h2.elim
  | succ m =>
    unfold loopC at h2
    cases q : s.at i st2 with
    | none => simp only [q] at h2; exact h2.elim
    | some o =>
      cases o with
      | none =>
        simp only [q] at h2
        obtain ⟨e0, rs3⟩ := fin ex nD hv rs2 rv2
        exact .inl ⟨sim.stop i φ2 H2 st2 ex rs2 q, h2 _ _ _ e0 rs3 (.newLst rs2)⟩
      | some d =>
        simp only [q] at h2
        cases q2 : asgT T d (wipeA ρ own) st2 with
        | none => simp only [q2] at h2; exact h2.elim
        | some ρ1 =>
          simp only [q2] at h2
          obtain ⟨g1, g2⟩ := sim.go i φ2 H2 st2 d ex rs2 q
          refine .inr ⟨g1, fun H' => ∃ φ2 st2 vs as, Ext φ1 H1 φ2 H' ∧ D ∉ φ2 ∧ H' D = some (.lst vs) ∧ RS X.K X.w X.mg φ2 H' st2 ∧ RVs X.K φ2 H' vs as ∧
            Pst X.K X.w X.mg (RV X.K) (fun c d H' => W c d σ H') φ1 H1 ((loopC s T own tt me (wipeA ρ own) m (i + 1) st2 as).bind fun xs st2 => .ok (.ref st2.length) (st2 ++ [.lst xs])) Q, fun H' w => ⟨m, Nat.lt_succ_self m, w⟩, fun x H' y => ?_⟩
          obtain ⟨ex2, rs3, rv3⟩ := g2 x H' y
          obtain ⟨hv', nD'⟩ := ex2.fr D _ nD hv
          refine gOf_runB hw rv3 ((re1.ext ex).ext ex2) q2 fun xs re2 => ⟨wipe_sets ho, φ2, ρ1, st2, rs3, re2, ?_⟩
          cases q3 : tt ρ1 st2 with
          | bad => simp only [q3] at h2; exact h2.elim
          | er z st3 => simp only [q3] at h2; exact h2.elim
          | ok b st3 =>
            simp only [q3] at h2
            intro φ3 b' H3 ex3 rs4 eb
            subst eb
            obtain ⟨hv3, nD3⟩ := ex3.fr D _ nD' hv'
            have exs := (ex.trans ex2).trans ex3
            cases b' with
            | false =>
              simp only [Bool.false_eq_true, if_false] at h2
              exact iteF ⟨φ3, st3, vs, as, exs, nD3, hv3, rs4, (rv2.ext ex2).ext ex3, h2⟩
            | true =>
              simp only [if_true] at h2
              refine iteT ⟨φ3, ρ1, st3, rs4, re2.ext ex3, ?_⟩
              cases q4 : me ρ1 st3 with
              | bad => simp only [q4] at h2; exact h2.elim
              | er z st4 => simp only [q4] at h2; exact h2.elim
              | ok d4 st4 =>
                simp only [q4] at h2
                intro φ4 v4 H4 ex4 rs5 rv4
                obtain ⟨hv4, nD4⟩ := ex4.fr D _ nD3 hv3
                by_cases hz : as.length < sizeLine
                · rw [if_pos hz] at h2
                  have e5 : Ext φ4 H4 φ4 (upd H4 D (.lst (vs ++ [v4]))) → True := fun _ => trivial
                  have e6 : Ext φ1 H1 φ4 (upd H4 D (.lst (vs ++ [v4]))) := ⟨(exs.trans ex4).pre, fun a o n q => by
                    obtain ⟨y1, y2⟩ := (exs.trans ex4).fr a o n q
                    exact ⟨by rw [upd_ne (ne_of_none q hD)]; exact y1, y2⟩, fun a o u q => by rw [upd_ne (ne_of_none q hD)]; exact (exs.trans ex4).fz _ _ _ q⟩
                  -- data of H4 over the heap where D has grown
                  have hst : ∀ {a ys}, StT X.K φ4 H4 a ys → StT X.K φ4 (upd H4 D (.lst (vs ++ [v4]))) a ys := fun {a ys} q => by
                    rcases q with ⟨q, n⟩ | q
                    · obtain ⟨o, hd, q⟩ := q
                      have na : a ≠ D := fun z => by
                        subst z
                        rw [hv4] at q
                        cases q
                      exact .inl ⟨⟨o, hd, by rw [upd_ne na]; exact q⟩, n⟩
                    · exact .inr q
                  have hsl : ∀ {a ys}, StL X.K φ4 H4 a ys → StL X.K φ4 (upd H4 D (.lst (vs ++ [v4]))) a ys := fun {a ys} q => by
                    rcases q with ⟨⟨o, q⟩, n⟩ | q
                    · have na : a ≠ D := fun z => by
                        subst z
                        rw [hv4] at q
                        cases q
                      exact .inl ⟨⟨o, by rw [upd_ne na]; exact q⟩, n⟩
                    · exact .inr q
                  have up : ∀ {v : V} {d : A}, RV X.K φ4 H4 v d → RV X.K φ4 (upd H4 D (.lst (vs ++ [v4]))) v d := fun {v d} r =>
                    RV.rec (motive_1 := fun v d _ => RV X.K φ4 (upd H4 D (.lst (vs ++ [v4]))) v d) (motive_2 := fun vs' ds _ => RVs X.K φ4 (upd H4 D (.lst (vs ++ [v4]))) vs' ds) .non .bl .int .str (fun q _ ih => .tup (hst q) ih) (fun q _ ih => .scr (hsl q) ih)
                      (fun q => .ref q) .nil (fun _ _ a b => .cons a b) r
                  have ups : ∀ {ws : List V} {ds : List A}, RVs X.K φ4 H4 ws ds → RVs X.K φ4 (upd H4 D (.lst (vs ++ [v4]))) ws ds := fun {ws ds} r => by
                    induction ws generalizing ds with
                    | nil => cases r; exact .nil
                    | cons v ws ih =>
                      cases r with
                      | cons h q => exact .cons (up h) (ih q)
                  have rs6 : RS X.K X.w X.mg φ4 (upd H4 D (.lst (vs ++ [v4]))) st4 := ⟨rs5.len, rs5.nd, fun j a o k1 k2 => by
                    have k3 := rs5.all j a o k1 k2
                    have na : a ≠ D := fun z => nD4 (z ▸ List.mem_of_getElem? k1)
                    cases o with
                    | oth u => exact RO2.map (fun _ _ => up) (fun _ _ => ups) (upd_ne na) (fun dx o n q nl => ⟨by
                        rw [upd_ne (fun z => by rw [z, hv4] at q; exact nl _ (Option.some.inj q).symm)]
                        exact q, n⟩) k3
                    | lst ds' =>
                      obtain ⟨ys, y1, y2⟩ := k3
                      exact ⟨ys, by rw [upd_ne na]; exact y1, ups y2⟩⟩
                  exact ⟨vs, hv4, by rw [rv2.length]; exact hz, φ4, st4, _, as ++ [d4], e6, nD4, upd_same, rs6, ups ((((rv2.ext ex2).ext ex3).ext ex4).app (.cons rv4 .nil)), h2⟩
                · rw [if_neg hz] at h2
                  exact h2.elim
theorem mts_nil {X : Cx} : PTs X [] (tT X W0 mYes) := ⟨fun pins s σ H Q I ⟨φ, ρ, st, rs, re, h⟩ => pts_nil.run pins s σ H Q I (h.ok rs rfl)⟩
theorem mts_one {X : Cx} {c : Expr} {t : MT} (h : PT X c (tT X W0 t)) : PTs X [c] (tT X W0 t) := pts_one h
theorem me_lc {elt iter : Expr} {ifs : List Expr} {scope : Scope} (own : List (Str × Nat)) {wk : Bool} {mi : Env → Store → R Src} {T : Tg} {tt : MT} {me : MX} (hN : X.N.Nodup) (hi : PI X tg iter (tG X.K X.w X.mg (SimB X.K X.w X.mg wk) W mi)) (ok : BlkOk X.N X.env.scope scope own)
    (hg : ∀ (s : Shared) (H : Hp) (C : Addr) (cl : List (Str × Addr)) (fp : List Addr), PG (X.blk s H scope (compEnvC scope cl C X.env) fp) tg (gOf X.K T)) (ht : ∀ (s : Shared) (H : Hp) (C : Addr) (cl : List (Str × Addr)) (fp : List Addr), PTs (X.blk s H scope (compEnvC scope cl C X.env) fp) ifs (tT (X.blk s H scope (compEnvC scope cl C X.env) fp) W0 tt))
    (he : ∀ (s : Shared) (H : Hp) (C : Addr) (cl : List (Str × Addr)) (fp : List Addr), PE (X.blk s H scope (compEnvC scope cl C X.env) fp) elt (tE (X.blk s H scope (compEnvC scope cl C X.env) fp) W0 me)) (hc : X.calm = true := by rfl) (hs : ∀ x, foldedSetIterable iter X.env x = pure x := by intro _; rfl)
    (ho : ∀ i ∈ T.slots, i ∈ own.map (·.2) := by decide) (hw : wk = false ∨ T.isOne = false := by first | exact Or.inl rfl | exact Or.inr rfl) : PE X (.ListComp elt [⟨tg, iter, ifs, 0⟩] scope pos) (tE X W (mLc mi T (own.map (·.2)) tt me)) :=
  (pe_lc hc hN hi ok hg ht he hs).imp fun _ _ _ h => lc_ok hw ho h
theorem ms_setLc {i : Nat} {y : Str} {py : Pos} {spos : Pos} {elt iter : Expr} {ifs : List Expr} {scope : Scope} (own : List (Str × Nat)) {wk : Bool} {mi : Env → Store → R Src} {T : Tg} {tt : MT} {me : MX} (hN : X.N.Nodup) (hsw : swapsWith (.ListComp elt [⟨tg, iter, ifs, 0⟩] scope pos) (some (.Name y py)) spos.line X.env = pure true) (hi : PI X tg iter (tG X.K X.w X.mg (SimB X.K X.w X.mg wk) W mi)) (ok : BlkOk X.N X.env.scope scope own)
    (hg : ∀ (s : Shared) (H : Hp) (C : Addr) (cl : List (Str × Addr)) (fp : List Addr), PG (X.blk s H scope (compEnvC scope cl C X.env) fp) tg (gOf X.K T)) (ht : ∀ (s : Shared) (H : Hp) (C : Addr) (cl : List (Str × Addr)) (fp : List Addr), PTs (X.blk s H scope (compEnvC scope cl C X.env) fp) ifs (tT (X.blk s H scope (compEnvC scope cl C X.env) fp) W0 tt))
    (he : ∀ (s : Shared) (H : Hp) (C : Addr) (cl : List (Str × Addr)) (fp : List Addr), PE (X.blk s H scope (compEnvC scope cl C X.env) fp) elt (tE (X.blk s H scope (compEnvC scope cl C X.env) fp) W0 me)) (hy : X.N[i]? = some y := by rfl) (hyl : X.env.scope.names.lookup y = some .local := by rfl) (hc : X.calm = true := by rfl) (hs : ∀ x, foldedSetIterable iter X.env x = pure x := by intro _; rfl)
    (ho : ∀ i ∈ T.slots, i ∈ own.map (·.2) := by decide) (hw : wk = false ∨ T.isOne = false := by first | exact Or.inl rfl | exact Or.inr rfl) : PS X (.Assign [.Name y py] (.ListComp elt [⟨tg, iter, ifs, 0⟩] scope pos) spos) (tS X W (mSet i (mLc mi T (own.map (·.2)) tt me))) := by
  refine (ps_setLc (te := tE X W0 me) (tt := tT X W0 tt) hc hN hy hyl hsw hi ok hg ht he hs).imp fun D σ H h => ?_
  have h2 := set_ok h
  exact lc_ok hw ho h2
end
def mFn (N np : Nat) (body : MS) : MF := fun as st => if as.length = np then match body (as.map some ++ List.replicate (N - np) none) st with
  | .nx _ st' => .ok .non st'
  | .rt a st' => .ok a st'
  | .er e _ st' => .er e st'
  | _ => .bad else .bad
section
variable {P : Program} {w : World} {K : PySem.W.Frag} {mg : Str → Option Value} {base : Heap}
theorem RE.start {φ : List Addr} {H : Hp} {vs : List V} {as : List A} (q : RVs K φ H vs as) (n : Nat) : RE K φ H (vs.map some ++ List.replicate n none) (as.map some ++ List.replicate n none) := ⟨by simp [q.length], fun i d h => by
  by_cases hi : i < as.length
  · rw [List.getElem?_append_left (by simpa using hi), List.getElem?_map] at h
    cases e : as[i]? with
    | none => rw [e] at h; cases h
    | some d' =>
      rw [e] at h
      cases h
      obtain ⟨v, h1, h2⟩ := q.get e
      exact ⟨v, by rw [List.getElem?_append_left (by simp [q.length, hi]), List.getElem?_map, h1]; rfl, h2⟩
  · rw [List.getElem?_append_right (by simpa using Nat.le_of_not_lt hi), List.getElem?_replicate] at h
    split at h <;> cases h⟩
theorem fn_ok {x qual : Str} {st : Stmt} {f : Addr} {fd : FuncData} {N ps : List Str} {k : Nat} {body : MS} (F : Fun K x qual st f fd) (S : FnScope N ps (defScope st))
    (hb : ∀ (cdv : Value) (A : Around) (outer : List PySem.Env) (s : Shared) (H : Hp) (E : XK), Room k (A.deeper (PyProof.Rows.envOfC qual (defScope st) s.heap.objs.size f cdv)) →
      PSs (cxOf (L2.CX P w) P w K mg base N qual (defScope st) f cdv A outer s H E) (defBody st) (tS (cxOf (L2.CX P w) P w K mg base N qual (defScope st) f cdv A outer s H E) (fun c d _ H' => E c d H') body)) :
    FnOk P w K mg base (L2.CX P w) (k + 1) f fd ps (spM K w mg (mFn N.length ps.length body)) := by
  have len : ∀ vs H Q E, spM K w mg (mFn N.length ps.length body) vs H Q E → vs.length = ps.length := fun vs H Q E ⟨φ, as, st, rs, rv, h⟩ => by
    unfold mFn at h
    split at h
    · rename_i hl
      rw [rv.length]
      exact hl
    · exact h.elim
  refine F.okX S len fun cdv A outer s H vs Q E hr h => ⟨_, hb cdv A outer s H E hr, ?_⟩
  obtain ⟨φ, as, st, rs, rv, h⟩ := h
  unfold mFn at h
  split at h
  · rename_i hl
    have hl2 : vs.length = ps.length := by rw [rv.length]; exact hl
    refine ⟨φ, as.map some ++ List.replicate (N.length - ps.length) none, st, rs, ?_, ?_⟩
    · unfold L2.start
      rw [hl2]
      exact RE.start rv _
    · cases e : body (as.map some ++ List.replicate (N.length - ps.length) none) st with
      | nx ρ st' => rw [e] at h; exact fun φ' σ' H' ex rs' re' => h φ' .non H' ex rs' .non
      | rt a st' => rw [e] at h; exact fun φ' v H' ex rs' rv' => h φ' v H' ex rs' rv'
      | er x ρ st' => rw [e] at h; exact fun φ' c d σ' H' ex rs' re' rx => h φ' c d H' ex rs' rx
      | bk ρ st' => rw [e] at h; exact h.elim
      | ct ρ st' => rw [e] at h; exact h.elim
      | bad => rw [e] at h; exact h.elim
  · exact h.elim
structure GF (K : PySem.W.Frag) (mg : Str → Option Value) (x : Str) (st : Stmt) (ps : List Str) : Prop where
  ex : ∃ (f : Addr) (fd : FuncData), mg x = some (.ref f) ∧ Fun K x x st f fd ∧ Binds K fd ps []
theorem cal_of {x : Str} {st : Stmt} {N ps : List Str} {k : Nat} {body : MS} (G : GF K mg x st ps) (S : FnScope N ps (defScope st))
    (hb : ∀ (f : Addr) (cdv : Value) (A : Around) (outer : List PySem.Env) (s : Shared) (H : Hp) (E : XK), Room k (A.deeper (PyProof.Rows.envOfC x (defScope st) s.heap.objs.size f cdv)) →
      PSs (cxOf (L2.CX P w) P w K mg base N x (defScope st) f cdv A outer s H E) (defBody st) (tS (cxOf (L2.CX P w) P w K mg base N x (defScope st) f cdv A outer s H E) (fun c d _ H' => E c d H') body)) :
    Cal P w K mg base x (k + 1) (mFn N.length ps.length body) := by
  obtain ⟨f, fd, h1, F, b⟩ := G.ex
  exact ⟨f, fd, ps, h1, F.kp, b, fn_ok F S (hb f)⟩
theorem Cal.mono {x : Str} {k j : Nat} {m : MF} (C : Cal P w K mg base x j m) (h : j ≤ k) : Cal P w K mg base x k m := by
  obtain ⟨f, fd, ps, h1, h2, h3, F⟩ := C.ex
  exact ⟨f, fd, ps, h1, h2, h3, F.mono h⟩
theorem takesE {N : List Str} {qual : Str} {sc : Scope} {f : Addr} {cdv : Value} {A : Around} {outer : List PySem.Env} {s : Shared} {H : Hp} {E : XK} : Takes (cxOf (L2.CX P w) P w K mg base N qual sc f cdv A outer s H E) (fun c d _ H' => E c d H') := takes_of rfl rfl rfl rfl
theorem passesE {N : List Str} {qual : Str} {sc : Scope} {f : Addr} {cdv : Value} {A : Around} {outer : List PySem.Env} {s : Shared} {H : Hp} {E : XK} : PassesOwn (model P w) (A.deeper (PyProof.Rows.envOfC qual sc s.heap.objs.size f cdv)) (PyProof.Rows.envOfC qual sc s.heap.objs.size f cdv) (cxOf (L2.CX P w) P w K mg base N qual sc f cdv A outer s H E).xe := passes_of (X := cxOf (L2.CX P w) P w K mg base N qual sc f cdv A outer s H E) rfl
end
end ML
namespace ML
open PySem PySem.Spec L2
theorem units_ok {k : Nat} {A : Around} (hr : Room k A) : A.units + 64 < cLine := hr.units
section
variable {P : Program} {w : World} {K : PySem.W.Frag} {mg : Str → Option Value} {base : Heap}
theorem cal_bad {x : Str} {st : Stmt} {ps : List Str} {k : Nat} (G : GF K mg x st ps) : Cal P w K mg base x k (fun _ _ => .bad) := by
  obtain ⟨f, fd, h1, F, b⟩ := G.ex
  exact ⟨f, fd, ps, h1, F.kp, b, fun vs H Q E ⟨_, _, _, _, _, h⟩ => h.elim, fun A outer s H args us vs Q E hr e0 hb hv ⟨_, _, _, _, _, h⟩ => h.elim⟩
theorem Cal.cast {x : Str} {j k : Nat} {m : MF} (e : j = k) (C : Cal P w K mg base x j m) : Cal P w K mg base x k m := e ▸ C
def spLaw (K : PySem.W.Frag) : Sp := fun vs H Q _ => ∃ (a : Addr) (ns : List Int), vs = [.ref a] ∧ SqL K H a (ns.map V.int) ∧ Only H ∧ ns.length ≤ 63 ∧ (∀ z ∈ ns, Builtin.Int.intBits z ≤ 1048576) ∧ ∀ H', Q (.bl true) H'
def LawTrue (m : MF) : Prop := ∀ ns : List Int, ns.length ≤ 63 → (∀ z ∈ ns, Builtin.Int.intBits z ≤ 1048576) → ∃ st, m [.scr (ns.map A.int)] [] = .ok (.bl true) st
theorem law_imp {m : MF} (hm : LawTrue m) (vs : List V) (H : Hp) (Q : VK) (E : XK) (h : spLaw K vs H Q E) : spM K w mg m vs H Q E := by
  obtain ⟨a, ns, rfl, hs, ho, hl, hb, hq⟩ := h
  obtain ⟨st, he⟩ := hm ns hl hb
  have hq' : StL K [] H a (ns.map V.int) := by
    rcases hs with (h | ⟨o, h⟩) | h
    · rcases ho a with z | ⟨o, xs, z⟩
      · rw [z] at h; cases h
      · rw [z] at h; cases h
    · exact .inl ⟨⟨o, h⟩, by simp⟩
    · exact .inr h
  refine ⟨[], [.scr (ns.map A.int)], [], ⟨rfl, List.nodup_nil, fun i a o h => by simp at h⟩, .cons (.scr hq' (RVs.mkInts ns)) .nil, ?_⟩
  rw [he]
  intro φ' v H' _ _ r
  cases r
  exact hq H'
theorem law_end {l : PySem.W.OpenLaw} {k : Nat} {q : Program} {loose : List Str} {XP : (Str → Option Value) → Heap → Prop} {YP : World → Heap → Prop} {d : DefRec} {K : Params → PySem.W.Frag} {x : Str} {m : MF}
    (hn : l.most = some 63) (hdf : d.params.defaults = []) (hr : Room k callerA)
    (hY : ∀ (w : World) (h : Heap), YP w h → (K w.params).In h) (hm : LawTrue m)
    (F : ∀ (w : World) (mg : Str → Option Value) (fa : Addr) (h : Heap), (K w.params).In h → h.Ns mainGlobals mg → mg d.name = some (.ref fa) →
      ∃ fd : FuncData, (∀ (s : Shared) (u : Value), BindsTo s fd ⟨[u], []⟩ [(x, u)]) ∧ ∀ base : Heap, (K w.params).In base → base.Ns mainGlobals mg → FnOk l.prog w (K w.params) mg base (L2.CX l.prog w) k fa fd [x] (spM (K w.params) w mg m)) :
    PySem.W.WalkO q loose XP YP l.row.toRowW d [] (fun f vs => PySem.call f vs) :=
  L2.walk_ofB (n := 63) (k := k) (x := x) (CX := fun w => L2.CX l.prog w) (sp := fun w => spLaw (K w.params)) hn (by decide) hdf hr hY
    (fun w mg fa h KX G hmg => by
      obtain ⟨fd, hb, hF⟩ := F w mg fa h KX G hmg
      exact ⟨fd, hb, fun base k1 k2 => (hF base k1 k2).imp (law_imp hm)⟩)
    (fun w H a ns hl hb ho hs => ⟨a, ns, rfl, hs, ho, hl, hb, fun _ => rfl⟩)
    (fun w H s e s' h => by obtain ⟨_, _, _, _, _, _, _, _, _, _, _, _, z⟩ := h; exact z)
end
end ML
namespace PySem
namespace SupX
open PySem.W PySem.Calls PyProof.Rows PySem.HandSPX
def iB (f msg : Str) (q0 q1 q2 q3 q4 q5 q6 q7 q8 q9 : Pos) : List Stmt := [.Expr (.Call (.Attribute (.Call (.Name "super" q0) [] [] q1) "__init__" q2) [.Constant (.str msg) 0 q3] [] q4) q5, .Assign [.Attribute (.Name "self" q6) f q7] (.Name f q8) q9]
end SupX
end PySem
namespace ML
open PySem PySem.Spec L2 PyProof.Rows
def atD {β : Type} (kvs : List (NestedKey × β)) (k : NestedKey) : Option β := (kvs.find? fun kv => decide (kv.1 = k)).map (·.2)
def putD {β : Type} (kvs : List (NestedKey × β)) (k : NestedKey) (v : β) : List (NestedKey × β) :=
  if (atD kvs k).isSome = true then kvs.map (fun kv => if kv.1 = k then (kv.1, v) else kv) else kvs ++ [(k, v)]
def stD (st : Store) (r : Nat) : Option (List (NestedKey × A)) := match st[r]? with
  | some (.oth (.dct kvs)) => some kvs
  | _ => none
def tupK : NestedKey → Bool
  | .tup _ => true
  | _ => false
def fitD (kvs : List (NestedKey × A)) (k : NestedKey) : Bool := decide (k.depth ≤ 8) && (decide (k ≠ .none) && kvs.all fun kv => tupK kv.1 == tupK k)
def stF (st : Store) (r : Nat) : Option (List (NestedKey × A)) := match st[r]? with
  | some (.oth (.frd kvs)) => some kvs
  | _ => none
def askD (d y : A) (st : Store) : Option (Option A) := match d with
  | .ref r => match keyOf y with
    | some k => match stD st r with
      | some kvs => if fitD kvs k = true then some (atD kvs k) else none
      | none => match stF st r with
        | some kvs => if fitD kvs k = true ∧ (tupK k = false ∨ kvs.isEmpty = false) then some (atD kvs k) else none
        | none => none
    | none => none
  | _ => none
theorem stF_eq {st : Store} {r : Nat} {kvs : List (NestedKey × A)} (h : stF st r = some kvs) : st[r]? = some (.oth (.frd kvs)) := by
  unfold stF at h
  split at h
  · cases h
    assumption
  · cases h
theorem stD_eq {st : Store} {r : Nat} {kvs : List (NestedKey × A)} (h : stD st r = some kvs) : st[r]? = some (.oth (.dct kvs)) := by
  unfold stD at h
  split at h
  · cases h
    assumption
  · cases h
theorem atD_nil {β : Type} {k : NestedKey} : atD ([] : List (NestedKey × β)) k = none := rfl
theorem atD_pos {β : Type} {p : NestedKey × β} {r : List (NestedKey × β)} {k : NestedKey} (e : p.1 = k) : atD (p :: r) k = some p.2 := by simp [atD, List.find?_cons, e]
theorem atD_neg {β : Type} {p : NestedKey × β} {r : List (NestedKey × β)} {k : NestedKey} (e : ¬ p.1 = k) : atD (p :: r) k = atD r k := by simp [atD, List.find?_cons, e]
mutual
theorem keyOf_aOf : ∀ {a : A} {k : NestedKey}, keyOf a = some k → aOf k = a
  | .non, k, h => by cases h; rfl
  | .int i, k, h => by cases h; rfl
  | .str x, k, h => by cases h; rfl
  | .bl b, k, h => by cases h
  | .scr b, k, h => by cases h
  | .ref b, k, h => by cases h
  | .tup xs, k, h => by
    unfold keyOf at h
    split at h
    · rename_i ks e
      cases h
      unfold aOf
      rw [keysOf_aOfs e]
    · cases h
theorem keysOf_aOfs : ∀ {xs : List A} {ks : List NestedKey}, keysOf xs = some ks → aOfs ks = xs
  | [], ks, h => by cases h; rfl
  | x :: xs, ks, h => by
    unfold keysOf at h
    split at h
    · rename_i k ks' e1 e2
      cases h
      unfold aOfs
      rw [keyOf_aOf e1, keysOf_aOfs e2]
    · cases h
end
section
variable {X : Cx} {pins : List (Addr × Obj)} {σ : L2.St} {H : Hp} {s : Shared} {φ : List Addr} {st : Store}
mutual
theorem RV.nested (I : Inv X pins σ H s) : ∀ {k : NestedKey} {v : V} {u : Value}, RV X.K φ H v (aOf k) → RelV v u → NestedIs s.heap k u
  | .none, v, u, h, r => by
    unfold aOf at h
    cases h
    obtain rfl : u = Value.none := r
    exact .none
  | .num i, v, u, h, r => by
    unfold aOf at h
    cases h
    obtain ⟨t, rfl⟩ := r
    exact .int i t
  | .text x, v, u, h, r => by
    unfold aOf at h
    cases h
    obtain ⟨t, rfl⟩ := r
    exact .text x t
  | .tup ks, v, u, h, r => by
    unfold aOf at h
    cases h with
    | @tup a xs _ q qs =>
      obtain rfl : u = Value.ref a := r
      obtain ⟨its, rv, ⟨ob, ho, hc, n, hd⟩, _⟩ := I.tuple q.sq
      exact .tup ho hc hd (by rw [List.toList_toArray]; exact RVs.nested I qs rv)
theorem RVs.nested (I : Inv X pins σ H s) : ∀ {ks : List NestedKey} {vs : List V} {us : List Value}, RVs X.K φ H vs (aOfs ks) → Vals vs us → NestedAll s.heap ks us
  | [], vs, us, h, r => by
    unfold aOfs at h
    cases h
    cases r
    exact .nil
  | k :: ks, vs, us, h, r => by
    unfold aOfs at h
    cases h with
    | cons h1 h2 =>
      cases r with
      | cons r1 r2 => exact .cons (RV.nested I h1 r1) (RVs.nested I h2 r2)
end
def RelOA (K : PySem.W.Frag) (φ : List Addr) (H : Hp) : Option V → Option A → Prop
  | some v, some d => RV K φ H v d
  | none, none => True
  | _, _ => False
theorem nk_inj {a b : Key} (h : nk a = nk b) : a = b := by
  cases a <;> cases b <;> simp [nk] at h <;> rw [h]
theorem val_k {k : Key} : ∀ {ks : List (Key × V)} {kvs : List (NestedKey × A)}, kvs.map (·.1) = ks.map (fun x => nk x.1) → RVs X.K φ H (ks.map (·.2)) (kvs.map (·.2)) → RelOA X.K φ H (valV ks k) (atD kvs (nk k))
  | [], [], _, _ => True.intro
  | [], _ :: _, h, _ => by simp at h
  | _ :: _, [], h, _ => by simp at h
  | p :: ks, q :: kvs, h, r => by
    simp only [List.map_cons, List.cons.injEq] at h
    cases r with
    | cons r1 r2 =>
      by_cases e : p.1 = k
      · rw [valV_pos e, atD_pos (by rw [h.1, e])]
        exact r1
      · rw [valV_neg e, atD_neg (by rw [h.1]; exact fun z => e (nk_inj z))]
        exact val_k h.2 r2
theorem putK_k {k : Key} {y : V} {d : A} {ks : List (Key × V)} {kvs : List (NestedKey × A)} (h : kvs.map (·.1) = ks.map (fun x => nk x.1)) (r : RVs X.K φ H (ks.map (·.2)) (kvs.map (·.2))) (rd : RV X.K φ H y d) :
    (putD kvs (nk k) d).map (·.1) = (putK ks k y).map (fun x => nk x.1) ∧ RVs X.K φ H ((putK ks k y).map (·.2)) ((putD kvs (nk k) d).map (·.2)) := by
  have hv := val_k (k := k) h r
  have hany : (ks.any fun kv => decide (kv.1 = k)) = (valV ks k).isSome := valV_any k ks
  have hs : (valV ks k).isSome = (atD kvs (nk k)).isSome := by
    cases e1 : valV ks k <;> cases e2 : atD kvs (nk k) <;> rw [e1, e2] at hv <;> first | rfl | exact hv.elim
  unfold putK putD
  rw [hany, hs]
  split
  · rename_i hh
    clear hh hv hany hs
    induction ks generalizing kvs with
    | nil =>
      cases kvs with
      | nil => exact ⟨rfl, .nil⟩
      | cons q kvs => simp at h
    | cons p ks ih =>
      cases kvs with
      | nil => simp at h
      | cons q kvs =>
        simp only [List.map_cons, List.cons.injEq] at h
        cases r with
        | cons r1 r2 =>
          obtain ⟨i1, i2⟩ := ih h.2 r2
          by_cases e : p.1 = k
          · have e' : q.1 = nk k := by rw [h.1, e]
            simp only [List.map_cons, if_pos e, if_pos e']
            exact ⟨by rw [i1, h.1], .cons rd i2⟩
          · have e' : ¬ q.1 = nk k := by rw [h.1]; exact fun z => e (nk_inj z)
            simp only [List.map_cons, if_neg e, if_neg e']
            exact ⟨by rw [i1, h.1], .cons r1 i2⟩
  · rw [List.map_append, List.map_append, List.map_append, List.map_append, h]
    exact ⟨rfl, r.app (.cons rd .nil)⟩
def NView (X : Cx) (φ : List Addr) (H : Hp) (h : Heap) (a : Addr) (kvs : List (NestedKey × A)) (xs : List (NestedKey × Addr × Value)) : Prop :=
  h.DictOfH (nestedKind X.prog X.w) a xs ∧ (a == sysModules) = false ∧ xs.length ≤ sizeLine ∧ xs.map (·.1) = kvs.map (·.1) ∧ (∀ x ∈ xs, RV X.K φ H (.ref x.2.1) (aOf x.1) ∧ x.1.depth ≤ 8) ∧ ∃ vs, Vals vs (xs.map (·.2.2)) ∧ RVs X.K φ H vs (kvs.map (·.2))
theorem nk_tup (k : Key) : tupK (nk k) = false := by cases k <;> rfl
theorem fit_depth {kvs : List (NestedKey × A)} {k : NestedKey} (h : fitD kvs k = true) : k.depth ≤ 8 ∧ k ≠ .none ∧ ∀ kv ∈ kvs, tupK kv.1 = tupK k := by
  unfold fitD at h
  rw [Bool.and_eq_true, Bool.and_eq_true, List.all_eq_true] at h
  obtain ⟨h1, h2, h3⟩ := h
  exact ⟨of_decide_eq_true h1, of_decide_eq_true h2, fun kv hm => by simpa using h3 kv hm⟩
theorem RS.dct (rs : RS X.K X.w X.mg φ H st) {r : Nat} {a : Addr} {kvs : List (NestedKey × A)} (hp : φ[r]? = some a) (hs : stD st r = some kvs) : RDk X.K φ H a kvs ∨ RDt X.K X.w φ H a kvs := rs.all r a _ hp (stD_eq hs)
theorem dview (rs : RS X.K X.w X.mg φ H st) {r : Nat} {a : Addr} {kvs : List (NestedKey × A)} {k : NestedKey} (hp : φ[r]? = some a) (hs : stD st r = some kvs) (hf : fitD kvs k = true) :
    (∃ (κ : Key) (ks : List (Key × V)), k = nk κ ∧ H a = some (.dK ks) ∧ kvs.map (·.1) = ks.map (fun x => nk x.1) ∧ RVs X.K φ H (ks.map (·.2)) (kvs.map (·.2))) ∨
    (tupK k = true ∧ Mut (H a) ∧ ∀ (pins : List (Addr × Obj)) (σ : L2.St) (s : Shared), Inv X pins σ H s → ∃ xs, NView X φ H s.heap a kvs xs) := by
  obtain ⟨f1, f2, f3⟩ := fit_depth hf
  rcases rs.dct hp hs with ⟨ks, h1, h2, h3⟩ | ⟨xs, vs, h0, h1, h2, h3, h4, h5, h6, h7⟩
  · cases k with
    | none => exact absurd rfl f2
    | num i => exact .inl ⟨.inl i, ks, rfl, h1, h2, h3⟩
    | text x => exact .inl ⟨.inr x, ks, rfl, h1, h2, h3⟩
    | tup l =>
      refine .inr ⟨rfl, by rw [h1]; exact True.intro, fun pins σ s I => ?_⟩
      have hk : kvs = [] := by
        cases kvs with
        | nil => rfl
        | cons p kvs =>
          cases ks with
          | nil => simp at h2
          | cons q ks =>
            simp only [List.map_cons, List.cons.injEq] at h2
            have := f3 p (by simp)
            rw [h2.1, nk_tup] at this
            cases this
      subst hk
      have hks : ks = [] := by
        cases ks with
        | nil => rfl
        | cons q ks => simp at h2
      subst hks
      obtain ⟨z, hd, ws, rel, ob, es, ep, g1, g2, g3, g4⟩ := dk_of I.hok h1
      cases rel
      refine ⟨[], ⟨ob, es, ep, g1, g2, g3, ?_, by simp, by simp⟩, hd, by simp, rfl, by simp, [], .nil, .nil⟩
      obtain ⟨_, g5, _⟩ := g4
      cases hl : es.toList with
      | nil => rfl
      | cons e es' =>
        rw [hl] at g5
        cases g5
  · have ht : tupK k = true := by
      cases kvs with
      | nil => exact absurd rfl h0
      | cons p kvs =>
        cases xs with
        | nil => simp at h4
        | cons x xs =>
          have h8 := (h5 x (by simp)).1
          simp only [List.map_cons, List.cons.injEq] at h4
          have := f3 p (by simp)
          rw [← h4.1] at this
          rw [← this]
          cases e : x.1 with
          | tup l => rfl
          | _ => rw [e] at h8; unfold aOf at h8; cases h8
    refine .inr ⟨ht, by rw [h1]; exact True.intro, fun pins σ s I => ⟨xs, ?_, h2, h3, h4, h5, vs, h6, h7⟩⟩
    obtain ⟨⟨ob, es, ep, g1, g2, g3, g4, g5⟩, _, _⟩ := I.hok a _ h1
    exact ⟨ob, es, ep, g1, g2, g3, g4, fun x hx => ⟨RV.nested I (h5 x hx).1 rfl, (h5 x hx).2⟩, g5⟩
theorem RDz.tup {od : Obj} {a : Addr} {kvs : List (NestedKey × A)} {k : NestedKey} (g : RDz X.K X.w φ H od a kvs) (f3 : ∀ kv ∈ kvs, tupK kv.1 = tupK k) : tupK k = true := by
  obtain ⟨xs, vs, h0, h1, h2, h3, h4, h5, h6, h7⟩ := g
  cases kvs with
  | nil => exact absurd rfl h0
  | cons p kvs =>
    cases xs with
    | nil => simp at h4
    | cons x xs =>
      have h8 := (h5 x (by simp)).1
      simp only [List.map_cons, List.cons.injEq] at h4
      have := f3 p (by simp)
      rw [← h4.1] at this
      rw [← this]
      cases e : x.1 with
      | tup l => rfl
      | _ => rw [e] at h8; unfold aOf at h8; cases h8
theorem RDz.view {od : Obj} {a : Addr} {kvs : List (NestedKey × A)} (g : RDz X.K X.w φ H od a kvs) (I : Inv X pins σ H s) : ∃ xs, NView X φ H s.heap a kvs xs := by
  obtain ⟨xs, vs, h0, h1, h2, h3, h4, h5, h6, h7⟩ := g
  obtain ⟨_, ⟨ob, es, ep, g1, g2, g3, g4, g5⟩, _, _⟩ := I.hok a _ h1
  exact ⟨xs, ⟨ob, es, ep, g1, g2, g3, g4, fun x hx => ⟨RV.nested I (h5 x hx).1 rfl, (h5 x hx).2⟩, g5⟩, h2, h3, h4, h5, vs, h6, h7⟩
theorem val_n {k : NestedKey} : ∀ {xs : List (NestedKey × Addr × Value)} {kvs : List (NestedKey × A)} {vs : List V}, xs.map (·.1) = kvs.map (·.1) → Vals vs (xs.map (·.2.2)) → RVs X.K φ H vs (kvs.map (·.2)) → ∃ ov, RelO ov ((atKey xs k).map (·.2)) ∧ RelOA X.K φ H ov (atD kvs k)
  | [], [], _, _, _, _ => ⟨none, True.intro, True.intro⟩
  | [], _ :: _, _, h, _, _ => by simp at h
  | _ :: _, [], _, h, _, _ => by simp at h
  | x :: xs, q :: kvs, vs, h, r1, r2 => by
    simp only [List.map_cons, List.cons.injEq] at h
    cases r1 with
    | cons a1 b1 =>
      cases r2 with
      | cons a2 b2 =>
        by_cases e : x.1 = k
        · refine ⟨some _, ?_, by rw [atD_pos (by rw [← h.1, e])]; exact a2⟩
          have : atKey (x :: xs) k = some x.2 := by simp [atKey, e]
          rw [this]
          exact a1
        · obtain ⟨ov, o1, o2⟩ := val_n (k := k) h.2 b1 b2
          refine ⟨ov, ?_, by rw [atD_neg (by rw [← h.1]; exact e)]; exact o2⟩
          have : atKey (x :: xs) k = atKey xs k := by simp [atKey, e]
          rw [this]
          exact o1
theorem ask_run {x y : V} {u r : Value} {d b : A} {o : Option A} (I : Inv X pins σ H s) (rs : RS X.K X.w X.mg φ H st) (rx : RV X.K φ H x d) (ry : RV X.K φ H y b) (h : askD d b st = some o) (ru : RelV x u) (rr : RelV y r) :
    ∃ a, u = .ref a ∧ ((∃ ov, DGet H a y ov ∧ RelOA X.K φ H ov o) ∨ (∃ (k : NestedKey) (c : Addr) (xs : List (NestedKey × Addr × Value)), r = .ref c ∧ (nestedKind X.prog X.w).is s.heap k c ∧ s.heap.DictOfH (nestedKind X.prog X.w) a xs ∧ (a == sysModules) = false ∧ ∃ ov, RelO ov ((atKey xs k).map (·.2)) ∧ RelOA X.K φ H ov o)) := by
  unfold askD at h
  cases rx with
  | @ref a i q =>
    obtain rfl : u = Value.ref a := ru
    refine ⟨a, rfl, ?_⟩
    simp only at h
    split at h
    · rename_i k e2
      have hb := keyOf_aOf e2
      subst hb
      split at h
      rotate_left
      · split at h
        · rename_i kvs e1
          split at h
          · rename_i hf
            cases h
            obtain ⟨f1, f2, f3⟩ := fit_depth hf.1
            rcases rs.all i a _ q (stF_eq e1) with ⟨od, ks, g1, g2, g3⟩ | ⟨od, g⟩
            rotate_left
            · have ht := g.tup f3
              obtain ⟨xs, v1, v2, v3, v4, v5, vs, v6, v7⟩ := g.view I
              have hn := RV.nested I ry rr
              cases k with
              | tup l =>
                cases hn with
                | @tup c ob its n _ h1 h2 h3 h4 => exact .inr ⟨.tup l, c, xs, rfl, ⟨.tup h1 h2 h3 h4, f1⟩, v1, v2, val_n v4 v6 v7⟩
              | _ => cases ht
            have fin : ∀ κ : Key, k = nk κ → ∃ ov, DGet H a y ov ∧ RelOA X.K φ H ov (atD kvs k) := fun κ hk => by
              subst hk
              have hy : y = kV κ := by
                cases κ with
                | inl i => unfold nk aOf at ry; cases ry; rfl
                | inr i => unfold nk aOf at ry; cases ry; rfl
              subst hy
              exact ⟨_, .inl ⟨ks, κ, .inr ⟨od, g1⟩, rfl, rfl⟩, val_k g2 g3⟩
            cases k with
            | none => exact absurd rfl f2
            | num i => exact .inl (fin (.inl i) rfl)
            | text x => exact .inl (fin (.inr x) rfl)
            | tup l =>
              rcases hf.2 with z | z
              · cases z
              · cases kvs with
                | nil => cases z
                | cons p kvs =>
                  cases ks with
                  | nil => simp at g2
                  | cons y ks =>
                    simp only [List.map_cons, List.cons.injEq] at g2
                    have := f3 p (by simp)
                    rw [g2.1, nk_tup] at this
                    cases this
          · cases h
        · cases h
      rename_i kvs e1
      split at h
      · rename_i hf
        cases h
        rcases dview rs q e1 hf with ⟨κ, ks, rfl, g1, g2, g3⟩ | ⟨g0, _, g⟩
        · have hy : y = kV κ := by
            cases κ with
            | inl i => unfold nk aOf at ry; cases ry; rfl
            | inr i => unfold nk aOf at ry; cases ry; rfl
          subst hy
          exact .inl ⟨_, .k g1, val_k g2 g3⟩
        · obtain ⟨xs, v1, v2, v3, v4, v5, vs, v6, v7⟩ := g pins σ s I
          have hn := RV.nested I ry rr
          cases k with
          | tup l =>
            cases hn with
            | @tup c ob its n _ h1 h2 h3 h4 =>
              exact .inr ⟨.tup l, c, xs, rfl, ⟨.tup h1 h2 h3 h4, (fit_depth hf).1⟩, v1, v2, val_n v4 v6 v7⟩
          | _ => cases g0
      · cases h
    · cases h
  | _ => cases h
def rDAsk (X : Cx) (g : Bool → Bool) : R2 := fun y x H Q => ∃ φ st d b o, RS X.K X.w X.mg φ H st ∧ RV X.K φ H x d ∧ RV X.K φ H y b ∧ askD d b st = some o ∧ Q (.bl (g o.isSome)) H
theorem relOA_isSome {ov : Option V} {o : Option A} (h : RelOA X.K φ H ov o) : ov.isSome = o.isSome := by
  cases ov <;> cases o <;> first | rfl | exact h.elim
theorem op_din (hu : X.A.units + 64 < cLine) : OpR X (compareOp .In) (rDAsk X id) := fun pins s σ H y x v u Q I ry rx ⟨φ, st, d, b, o, rs, rd, rb, h, q⟩ => by
  obtain ⟨a, rfl, ⟨ov, g, r⟩ | ⟨k, c, xs, rfl, g1, g2, g3, ov, r1, r2⟩⟩ := ask_run I rs rd rb h rx ry
  · refine d_in (by omega) I g ry fun s3 I3 => ⟨.bl ov.isSome, H, I3, rfl, ?_⟩
    rw [relOA_isSome r]
    exact q
  · refine wpAny_in_heap (by show X.A.units + 1 + 8 < _; omega) g1 g3 g2 ⟨.bl ov.isSome, H, I.tok _, ?_, ?_⟩
    · have z := r1.isSome_eq
      rw [Option.isSome_map] at z
      rw [z]
      rfl
    · rw [relOA_isSome r2]
      exact q
theorem op_dnotin (hu : X.A.units + 64 < cLine) : OpR X (compareOp .NotIn) (rDAsk X not) := fun pins s σ H y x v u Q I ry rx ⟨φ, st, d, b, o, rs, rd, rb, h, q⟩ => by
  obtain ⟨a, rfl, ⟨ov, g, r⟩ | ⟨k, c, xs, rfl, g1, g2, g3, ov, r1, r2⟩⟩ := ask_run I rs rd rb h rx ry
  · refine d_notIn (by omega) I g ry fun s3 I3 => ⟨.bl (!ov.isSome), H, I3, rfl, ?_⟩
    rw [relOA_isSome r]
    exact q
  · refine wpAny_notIn_heap (by show X.A.units + 1 + 8 < _; omega) g1 g3 g2 ⟨.bl (!ov.isSome), H, I.tok _, ?_, ?_⟩
    · have z := r1.isSome_eq
      rw [Option.isSome_map] at z
      rw [z]
      rfl
    · rw [relOA_isSome r2]
      exact q
def inD : A → A → Store → R A := fun b d st => match askD d b st with
  | some o => .ok (.bl o.isSome) st
  | none => .bad
def notInD : A → A → Store → R A := fun b d st => match askD d b st with
  | some o => .ok (.bl (!o.isSome)) st
  | none => .bad
theorem os_din : OpS X (rDAsk X id) inD := fun W φ H st x y a b Q rs ra rb h => by
  unfold inD at h
  cases e : askD b a st with
  | none => rw [e] at h; exact h.elim
  | some o => rw [e] at h; exact ⟨φ, st, b, a, o, rs, rb, ra, e, h.ok rs (.bl _)⟩
theorem os_dnotin : OpS X (rDAsk X not) notInD := fun W φ H st x y a b Q rs ra rb h => by
  unfold notInD at h
  cases e : askD b a st with
  | none => rw [e] at h; exact h.elim
  | some o => rw [e] at h; exact ⟨φ, st, b, a, o, rs, rb, ra, e, h.ok rs (.bl _)⟩
def getD' : A → A → Store → R A := fun d b st => match askD d b st with
  | some (some v) => .ok v st
  | _ => .bad
theorem ask_type {a : Addr} {x y : V} {u r : Value} {d b : A} {o : Option A} (I : Inv X pins σ H s) (rs : RS X.K X.w X.mg φ H st) (rx : RV X.K φ H x d) (ry : RV X.K φ H y b) (h : askD d b st = some o) (ru : RelV x u) (rr : RelV y r) : s.TypeIs u "dict" := by
  obtain ⟨a, rfl, ⟨ov, g, _⟩ | ⟨k, c, xs, rfl, g1, g2, g3, ov, r1, r2⟩⟩ := ask_run I rs rx ry h ru rr
  · exact dict_typeIs I g
  · exact g2.typeIs
theorem me_dget {o i : Expr} {pos : Pos} {W : WX} {mo mi : MX} (hu : X.A.units + 64 < cLine) (ho : PE X o (tE X W mo)) (hi : PE X i (tE X W mi)) (hs : NoSl i := by intro _ _; rfl) : PE X (.Subscript o i pos) (tE X W (mBin getD' mo mi)) := by
  refine ⟨fun pins s σ H Q I ⟨φ, ρ, st, rs, re, h⟩ => ?_⟩
  refine subD_of PySem.F.slot_dict_getitem.lookup hs (thn (ho.run pins s σ H (fun x H1 => tE X W mi σ H1 fun y H2 => ∃ φ st d b v, RS X.K X.w X.mg φ H2 st ∧ RV X.K φ H2 x d ∧ RV X.K φ H2 y b ∧ askD d b st = some (some v) ∧ ∀ w, RV X.K φ H2 w v → Q w H2) I ⟨φ, ρ, st, rs, re, h.seq fun φ1 d x H1 st1 e1 rs1 rv1 h1 => ⟨φ1, ρ, st1, rs1, re.ext e1, h1.seq fun φ2 b y H2 st2 e2 rs2 rv2 h2 => ?_⟩⟩) fun u s1 ⟨x, H1, I1, rx, q1⟩ => thn (hi.run pins s1 σ H1 _ I1 q1) fun iv s2 ⟨y, H2, I2, ry, φ2, st2, d, b, v, rs2, rd, rb, hv, q2⟩ => ?_)
  · unfold getD' at h2
    cases e : askD d b st2 with
    | none => rw [e] at h2; exact h2.elim
    | some o =>
      cases o with
      | none => rw [e] at h2; exact h2.elim
      | some v =>
        rw [e] at h2
        exact ⟨φ2, st2, d, b, v, rs2, rv1.ext e2, rv2, e, fun w rw' => h2.ok rs2 rw'⟩
  · refine ⟨ask_type (a := 0) I2 rs2 rd rb hv rx ry, ?_⟩
    obtain ⟨a, rfl, ⟨ov, g, r⟩ | ⟨k, c, xs, rfl, g1, g2, g3, ov, r1, r2⟩⟩ := ask_run I2 rs2 rd rb hv rx ry
    · cases ov with
      | none => exact r.elim
      | some w =>
        exact d_getItem (by omega) I2 g ry fun w' s3 I3 rw' => ⟨w, H2, I3, rw', q2 w r⟩
    · cases ov with
      | none => exact r2.elim
      | some w =>
        cases e : atKey xs k with
        | none => rw [e] at r1; exact r1.elim
        | some p =>
          rw [e] at r1
          exact wpAny_getItem_heap (by show X.A.units + 1 + 8 < _; omega) g1 g2 e ⟨w, H2, I2.tok _, r1, q2 w r2⟩
theorem RS.allocO (r : RS X.K X.w X.mg φ H st) {p : Addr} {o : HO} {u : Ob2} (h : H p = none) (q : RO2 X.K X.w X.mg (φ ++ [p]) (upd H p o) p u) : RS X.K X.w X.mg (φ ++ [p]) (upd H p o) (st ++ [.oth u]) := by
  have e := ext_alloc (o := o) r h
  refine ⟨by simp [r.len], ?_, fun i a o h1 h2 => ?_⟩
  · rw [List.nodup_append]
    refine ⟨r.nd, by simp, fun a ha b hb z => ?_⟩
    have : b = p := by simpa using hb
    subst this
    subst z
    exact r.notin h ha
  · by_cases hi : i < φ.length
    · rw [List.getElem?_append_left hi] at h1
      rw [List.getElem?_append_left (by rw [← r.len]; exact hi)] at h2
      have h3 := r.all i a o h1 h2
      have na : a ≠ p := fun z => r.notin h (z ▸ List.mem_of_getElem? h1)
      cases o with
      | lst ds' =>
        obtain ⟨ys, y1, y2⟩ := h3
        exact ⟨ys, by rw [upd_ne na]; exact y1, y2.ext e⟩
      | oth u => exact RO2.ext e (upd_ne na) h3
    · have hi2 : i = φ.length := by
        have := (List.getElem?_eq_some_iff.mp h1).1
        rw [List.length_append, List.length_singleton] at this
        omega
      subst hi2
      rw [List.getElem?_append_right (Nat.le_refl _)] at h1
      rw [List.getElem?_append_right (by rw [r.len]; exact Nat.le_refl _)] at h2
      simp at h1
      rw [r.len] at h2
      simp at h2
      subst h1
      subst h2
      exact q
theorem ext_write {p : Addr} {i : Nat} {o' : HO} (hp : φ[i]? = some p) (hn : ∀ od u, H p ≠ some (.frz od u)) : Ext φ H φ (upd H p o') := ⟨⟨[], by simp⟩, fun a u n q => ⟨by rw [upd_ne (show a ≠ p from fun z => n (by rw [z]; exact List.mem_of_getElem? hp))]; exact q, n⟩, fun a o u q => by
  rw [upd_ne (show a ≠ p from fun z => hn o u (by rw [← z]; exact q))]
  exact q⟩
theorem RS.writeO (r : RS X.K X.w X.mg φ H st) {i : Nat} {p : Addr} {o : Ob} {o' : HO} {u : Ob2} (hp : φ[i]? = some p) (ho : st[i]? = some o) (hn : ∀ od u, H p ≠ some (.frz od u)) (q : RO2 X.K X.w X.mg φ (upd H p o') p u) : RS X.K X.w X.mg φ (upd H p o') (st.set i (.oth u)) := by
  have hm : p ∈ φ := List.mem_of_getElem? hp
  have e : Ext φ H φ (upd H p o') := ext_write hp hn
  refine ⟨by rw [List.length_set]; exact r.len, r.nd, fun j a v h1 h2 => ?_⟩
  by_cases hj : i = j
  · subst hj
    rw [hp] at h1
    cases h1
    rw [List.getElem?_set_self (List.getElem?_eq_some_iff.mp ho).1] at h2
    cases h2
    exact q
  · rw [List.getElem?_set_ne hj] at h2
    have h3 := r.all j a v h1 h2
    have na : a ≠ p := fun z => by
      subst z
      obtain ⟨l1, e1⟩ := List.getElem?_eq_some_iff.mp hp
      obtain ⟨l2, e2⟩ := List.getElem?_eq_some_iff.mp h1
      exact hj ((List.getElem_inj r.nd).mp (e1.trans e2.symm))
    cases v with
    | lst ds' =>
      obtain ⟨zs, y1, y2⟩ := h3
      exact ⟨zs, by rw [upd_ne na]; exact y1, y2.ext e⟩
    | oth u => exact RO2.ext e (upd_ne na) h3
def mDNew : MX := fun _ st => .ok (.ref st.length) (st ++ [.oth (.dct [])])
theorem me_dnew {pos : Pos} {W : WX} : PE X (.Dict [] [] pos) (tE X W mDNew) := pe_dnewK.imp fun σ H Q ⟨φ, ρ, st, rs, re, h⟩ => fun p hp => by
  exact h _ _ _ (ext_alloc rs hp) (rs.allocO hp (.inl ⟨[], upd_same, rfl, .nil⟩)) (.newLst rs)
def lenD : List A → Store → R A
  | [.ref r], st => match stD st r with
    | some kvs => if kvs.length ≤ sizeLine then .ok (.int kvs.length) st else .bad
    | none => .bad
  | _, _ => .bad
def rLenD (X : Cx) : List V → Hp → VK → Prop := fun xs H Q => ∃ φ st a r kvs, RS X.K X.w X.mg φ H st ∧ xs = [.ref a] ∧ φ[r]? = some a ∧ stD st r = some kvs ∧ kvs.length ≤ sizeLine ∧ Q (.int kvs.length) H
theorem call_lenD : CallR X (.builtin "len") (rLenD X) := by
  intro pins s σ H xs us Q I r h
  obtain ⟨φ, st, a, i, kvs, rs, rfl, hp, hs, hl, q⟩ := h
  rw [Vals.ref1 r]
  have hn := line63
  rcases rs.dct hp hs with ⟨ks, h1, h2, h3⟩ | ⟨xs, vs, h0, h1, h2, h3, h4, h5, h6, h7⟩
  · have hlen : kvs.length = ks.length := by
      have := congrArg List.length h2
      simpa using this
    refine d_len I (.inl h1) fun t s' I' => ⟨.int kvs.length, H, I', ?_, q⟩
    rw [hlen]
    exact ⟨t, rfl⟩
  · have hlen : xs.length = kvs.length := by
      have := congrArg List.length h4
      simpa using this
    obtain ⟨⟨ob, es, ep, g1, g2, g3, g4, g5⟩, _, _⟩ := I.hok a _ h1
    have hd : s.heap.DictOfH (nestedKind X.prog X.w) a xs := ⟨ob, es, ep, g1, g2, g3, g4, fun x hx => ⟨RV.nested I (h5 x hx).1 rfl, (h5 x hx).2⟩, g5⟩
    have hz : sizeLine = 16777216 := sizeLine_eq
    refine call_len_dictH h2 hd (by omega) ⟨.int kvs.length, H, I.tok _, ?_, q⟩
    rw [hlen]
    exact ⟨_, rfl⟩
theorem cs_lenD : CaS X (rLenD X) lenD := fun W φ H st vs as Q rs rv h => by
  cases rv with
  | nil => exact h.elim
  | cons a b =>
    cases b with
    | cons _ _ => cases a <;> exact h.elim
    | nil =>
      cases a with
      | @ref p r q =>
        unfold lenD at h
        simp only at h
        cases e : stD st r with
        | none => rw [e] at h; exact h.elim
        | some kvs =>
          rw [e] at h
          simp only at h
          split at h
          · rename_i hl
            exact ⟨φ, st, p, r, kvs, rs, rfl, q, e, hl, h.ok rs (.int _)⟩
          · exact h.elim
      | _ => exact h.elim
def putS (d b v : A) (st : Store) : Option Store := match d with
  | .ref r => match stD st r, keyOf b with
    | some kvs, some k => if fitD kvs k = true ∧ kvs.length < sizeLine then some (st.set r (.oth (.dct (putD kvs k v)))) else none
    | _, _ => none
  | _ => none
def mDPut (mo mi ma : MX) : MS := fun ρ st => (ma ρ st).toS ρ fun v st1 => (mo ρ st1).toS ρ fun d st2 => (mi ρ st2).toS ρ fun b st3 => match putS d b v st3 with
  | some st4 => .nx ρ st4
  | none => .bad
theorem putD_len {kvs : List (NestedKey × A)} {k : NestedKey} {v : A} : (putD kvs k v).length ≤ kvs.length + 1 := by
  unfold putD
  split <;> simp
theorem putD_ne {kvs : List (NestedKey × A)} {k : NestedKey} {v : A} : putD kvs k v ≠ [] := by
  unfold putD
  split
  · rename_i h
    cases kvs with
    | nil => simp [atD] at h
    | cons p r => simp
  · simp
theorem atKey_atD : ∀ {xs : List (NestedKey × Addr × Value)} {kvs : List (NestedKey × A)} {k : NestedKey}, xs.map (·.1) = kvs.map (·.1) → (atKey xs k).isSome = (atD kvs k).isSome
  | [], [], _, _ => rfl
  | [], _ :: _, _, h => by simp at h
  | _ :: _, [], _, h => by simp at h
  | x :: xs, q :: kvs, k, h => by
    simp only [List.map_cons, List.cons.injEq] at h
    have ih := atKey_atD (k := k) h.2
    by_cases e : x.1 = k
    · rw [atD_pos (by rw [← h.1, e])]
      simp [atKey, e]
    · rw [atD_neg (by rw [← h.1]; exact e)]
      have : atKey (x :: xs) k = atKey xs k := by simp [atKey, e]
      rw [this]
      exact ih
theorem put_n {k : NestedKey} {c : Addr} {y : V} {d : A} {r : Value} {xs : List (NestedKey × Addr × Value)} {kvs : List (NestedKey × A)} {vs : List V} (h : xs.map (·.1) = kvs.map (·.1)) (hv : Vals vs (xs.map (·.2.2))) (rv : RVs X.K φ H vs (kvs.map (·.2))) (ry : RelV y r) (rd : RV X.K φ H y d) :
    (storedH xs k c r).map (·.1) = (putD kvs k d).map (·.1) ∧ ∃ vs', Vals vs' ((storedH xs k c r).map (·.2.2)) ∧ RVs X.K φ H vs' ((putD kvs k d).map (·.2)) := by
  unfold storedH putD
  rw [atKey_atD h]
  split
  · rename_i hh
    clear hh
    induction xs generalizing kvs vs with
    | nil =>
      cases kvs with
      | nil => exact ⟨rfl, vs, hv, rv⟩
      | cons q kvs => simp at h
    | cons x xs ih =>
      cases kvs with
      | nil => simp at h
      | cons q kvs =>
        simp only [List.map_cons, List.cons.injEq] at h
        cases hv with
        | @cons v0 _ vs0 _ a1 b1 =>
          cases rv with
          | cons a2 b2 =>
            obtain ⟨i1, vs', i2, i3⟩ := ih h.2 b1 b2
            by_cases e : x.1 = k
            · have e' : q.1 = k := by rw [← h.1, e]
              simp only [List.map_cons, if_pos e', putAt, if_pos e]
              exact ⟨by rw [← h.1]; exact congrArg _ i1, y :: vs', .cons ry i2, .cons rd i3⟩
            · have e' : ¬ q.1 = k := by rw [← h.1]; exact e
              simp only [List.map_cons, if_neg e', putAt, if_neg e]
              exact ⟨by rw [h.1]; exact congrArg _ i1, v0 :: vs', .cons a1 i2, .cons a2 i3⟩
  · refine ⟨by rw [List.map_append, List.map_append, h]; rfl, vs ++ [y], ?_, ?_⟩
    · rw [List.map_append]
      exact Vals.append hv (.cons ry .nil)
    · rw [List.map_append]
      exact rv.app (.cons rd .nil)
theorem me_dput {o i e : Expr} {mo mi ma : MX} {p2 pos : Pos} {W : WX} (hu : X.A.units + 64 < cLine) (ho : PE X o (tE X W mo)) (hi : PE X i (tE X W mi)) (he : PE X e (tE X W ma)) (hs : swapsWith e (some (.Subscript o i p2)) pos.line X.env = pure false := by rfl) :
    PS X (.Assign [.Subscript o i p2] e pos) (tS X W (mDPut mo mi ma)) := by
  refine ⟨fun pins s σ H D I ⟨φ, ρ, st, rs, re, h⟩ => ?_⟩
  refine wpAny_Assign_Subscript (thn (he.run pins s σ H (fun v H1 => tE X W mo σ H1 fun x H2 => tE X W mi σ H2 fun y H3 => ∃ φ st d b z st4 ρ, RS X.K X.w X.mg φ H3 st ∧ RE X.K φ H3 σ ρ ∧ RV X.K φ H3 x d ∧ RV X.K φ H3 y b ∧ RV X.K φ H3 v z ∧ putS d b z st = some st4 ∧ ∀ H', Ext φ H3 φ H' → RS X.K X.w X.mg φ H' st4 → D.nx σ H') I ⟨φ, ρ, st, rs, re, h.exp re fun φ1 z v H1 st1 e1 rs1 rv1 h1 => ⟨φ1, ρ, st1, rs1, re.ext e1, h1.exp (re.ext e1) fun φ2 d x H2 st2 e2 rs2 rv2 h2 => ⟨φ2, ρ, st2, rs2, (re.ext e1).ext e2, h2.exp ((re.ext e1).ext e2) fun φ3 b y H3 st3 e3 rs3 rv3 h3 => ?_⟩⟩⟩) fun r s1 ⟨v, H1, I1, rv, q1⟩ => thn (ho.run pins s1 σ H1 _ I1 q1) fun u s2 ⟨x, H2, I2, rx, q2⟩ => thn (hi.run pins s2 σ H2 _ I2 q2) fun iv s3 ⟨y, H3, I3, ry, φ3, st3, d, b, z, st4, ρ3, rs3, re3, rd, rb, rz, hp, q3⟩ => ?_) hs
  · cases q : putS d b z st3 with
    | none => simp only [q] at h3; exact h3.elim
    | some st4 =>
      simp only [q] at h3
      exact ⟨φ3, st3, d, b, z, st4, ρ, rs3, ((re.ext e1).ext e2).ext e3, rv2.ext e3, rv3, (rv1.ext e2).ext e3, q, fun H' ex rs' => h3 φ3 σ H' ex rs' ((((re.ext e1).ext e2).ext e3).ext ex)⟩
  · unfold putS at hp
    cases rd with
    | @ref a j qa =>
      obtain rfl : u = Value.ref a := rx
      simp only at hp
      split at hp
      · rename_i kvs k e1 e2
        split at hp
        · rename_i hf
          cases hp
          have hb := keyOf_aOf e2
          subst hb
          rcases dview rs3 qa e1 hf.1 with ⟨κ, ks, rfl, g1, g2, g3⟩ | ⟨g0, gm, g⟩
          · have hy : y = kV κ := by
              cases κ with
              | inl i => unfold nk aOf at rb; cases rb; rfl
              | inr i => unfold nk aOf at rb; cases rb; rfl
            subst hy
            have hlen : kvs.length = ks.length := by
              have := congrArg List.length g2
              simpa using this
            have hnf : ∀ od u, H3 a ≠ some (.frz od u) := fun od u z => by rw [g1] at z; cases z
            refine d_setItem (by omega) I3 (.k g1 (by omega)) ry rv fun s' I' => ⟨σ, _, I', q3 _ (ext_write qa hnf) ?_⟩
            have ex : Ext φ3 H3 φ3 (upd H3 a (.dK (putK ks κ v))) := ext_write qa hnf
            obtain ⟨p1, p2⟩ := putK_k (k := κ) (g2) (g3.ext ex) (rz.ext ex)
            exact rs3.writeO qa (stD_eq e1) hnf (.inl ⟨_, upd_same, p1, p2⟩)
          · obtain ⟨xs, v1, v2, v3, v4, v5, vs, v6, v7⟩ := g pins σ s3 I3
            have hn := RV.nested I3 rb ry
            have hdep := (fit_depth hf.1).1
            cases k with
            | tup l =>
              cases hn with
              | @tup c ob its n _ h1 h2 h3 h4 =>
                have hlen : xs.length = kvs.length := by
                  have := congrArg List.length v4
                  simpa using this
                refine wpAny_setItem_heap (knd := nestedKind X.prog X.w) (k := .tup l) (hsz := v3) (by show X.A.units + 1 + 8 < _; omega) ⟨.tup h1 h2 h3 h4, hdep⟩ v1 fun h' dd' hsb => ?_
                obtain ⟨q, es, ep, hq, w2, w3, w4, _, w5⟩ := dd'
                obtain ⟨p1, vs', p2, p3⟩ := put_n (k := .tup l) (c := c) v4 v6 v7 rv rz
                have ex : Ext φ3 H3 φ3 (upd H3 a (.ext (DRaw X.w a (storedH xs (.tup l) c r)))) := ext_write qa (fun od u z => by rw [z] at gm; exact gm)
                refine ⟨σ, upd H3 a (.ext (DRaw X.w a (storedH xs (.tup l) c r))), d_write I3 gm hsb ⟨q, hq⟩ ⟨⟨q, es, ep, hq, w2, w3, w4, w5⟩, ⟨q, hq⟩, fun h1 h2 ⟨o1, es1, ep1, c1, c2⟩ k1 => ⟨o1, es1, ep1, k1 _ c1, c2⟩⟩, q3 _ ex (rs3.writeO qa (stD_eq e1) (fun od u z => by rw [z] at gm; exact gm) (.inr ⟨_, vs', putD_ne, upd_same, v2, ?_, p1, ?_, p2, p3.ext ex⟩))⟩
                · have e5 := congrArg List.length p1
                  rw [List.length_map, List.length_map] at e5
                  have := putD_len (kvs := kvs) (k := .tup l) (v := z)
                  omega
                · intro x hx
                  unfold storedH at hx
                  split at hx
                  · rw [List.mem_map] at hx
                    obtain ⟨x0, m0, rfl⟩ := hx
                    have v5' := v5 x0 m0
                    unfold putAt
                    split <;> exact ⟨v5'.1.ext ex, v5'.2⟩
                  · rcases List.mem_append.mp hx with hx | hx
                    · exact ⟨(v5 x hx).1.ext ex, (v5 x hx).2⟩
                    · simp at hx
                      subst hx
                      obtain rfl : y = .ref c := by
                        unfold aOf at rb
                        cases rb with
                        | tup q1 q2 => cases ry; rfl
                      exact ⟨rb.ext ex, hdep⟩
            | _ => cases g0
        · cases hp
      · cases hp
    | _ => cases hp
def isDA (d : A) (st : Store) : Bool := match d with
  | .ref r => (stD st r).isSome
  | _ => false
def mDGet1 (mo mi : MX) : MX := fun ρ st => (mo ρ st).bind fun d st1 => if isDA d st1 = true then (mi ρ st1).bind fun b st2 => match askD d b st2 with
  | some o => .ok (o.getD .non) st2
  | none => .bad else .bad
theorem isDA_ok {d : A} {x : V} {u : Value} (I : Inv X pins σ H s) (rs : RS X.K X.w X.mg φ H st) (rx : RV X.K φ H x d) (h : isDA d st = true) (ru : RelV x u) : s.TypeIs u "dict" ∧ (∀ b, u = .ref b → ∃ ob, s.heap.get? b = some ob ∧ ob.dict = none) := by
  unfold isDA at h
  cases rx with
  | @ref a r q =>
    obtain rfl : u = Value.ref a := ru
    simp only at h
    obtain ⟨kvs, e⟩ := Option.isSome_iff_exists.mp h
    rcases rs.dct q e with ⟨ks, h1, h2, h3⟩ | ⟨xs, vs, h0, h1, h2, h3, h4, h5, h6, h7⟩
    · obtain ⟨t1, t2, _⟩ := isD_at I (.inl ⟨_, .inl h1⟩)
      exact ⟨t1, t2⟩
    · obtain ⟨⟨ob, es, ep, g1, g2, g3, g4, g5⟩, _, _⟩ := I.hok a _ h1
      exact ⟨⟨ob, g1, g2.1⟩, fun b e => by cases e; exact ⟨ob, g1, g2.2.1⟩⟩
  | _ => cases h
theorem me_dget1 {o e : Expr} {apos cpos : Pos} {mo mi : MX} {W : WX} (hu : X.A.units + 64 < cLine) (ho : PE X o (tE X W mo)) (he : PE X e (tE X W mi)) (m : M1 X o "get" apos e cpos) : PE X (.Call (.Attribute o "get" apos) [e] [] cpos) (tE X W (mDGet1 mo mi)) := by
  refine ⟨fun pins s σ H Q I ⟨φ, ρ, st, rs, re, h⟩ => ?_⟩
  refine wpAny_Call_method m.base m.few m.line PySem.F.plainAttrs_dict PySem.F.slot_dict_get PySem.F.type_dict_get (thn (ho.run pins s σ H (fun x H1 => (∃ φ st d, RS X.K X.w X.mg φ H1 st ∧ RV X.K φ H1 x d ∧ isDA d st = true) ∧ tE X W mi σ H1 fun y H2 => ∃ φ st d b o, RS X.K X.w X.mg φ H2 st ∧ RV X.K φ H2 x d ∧ RV X.K φ H2 y b ∧ askD d b st = some o ∧ ∀ w, RV X.K φ H2 w (o.getD .non) → Q w H2) I ⟨φ, ρ, st, rs, re, h.seq fun φ1 d x H1 st1 e1 rs1 rv1 h1 => ?_⟩) fun u s1 ⟨x, H1, I1, rx, ⟨φ1, st1, d1, rs1, rd1, hd1⟩, q1⟩ => ?_)
  · by_cases c : isDA d st1 = true
    · rw [if_pos c] at h1
      refine ⟨⟨φ1, st1, d, rs1, rv1, c⟩, φ1, ρ, st1, rs1, re.ext e1, h1.seq fun φ2 b y H2 st2 e2 rs2 rv2 h2 => ?_⟩
      cases e : askD d b st2 with
      | none => rw [e] at h2; exact h2.elim
      | some o =>
        rw [e] at h2
        exact ⟨φ2, st2, d, b, o, rs2, rv1.ext e2, rv2, e, fun w rw' => h2.ok rs2 rw'⟩
    · rw [if_neg c] at h1
      exact h1.elim
  · obtain ⟨t1, t2⟩ := isDA_ok I1 rs1 rd1 hd1 rx
    refine ⟨t1, t2, ?_⟩
    rw [m.trees]
    refine Calls.callWith_builtin rfl (Calls.evalArgs_plain (Calls.spliced_cons (thn (he.run pins s1 σ H1 _ I1 q1) fun iv s2 ⟨y, H2, I2, ry, φ2, st2, d, b, o, rs2, rd, rb, hv, q2⟩ => Calls.spliced_nil ?_)))
    obtain ⟨a, rfl, ⟨ov, g, r⟩ | ⟨k, c, xs, rfl, g1, g2, g3, ov, r1, r2⟩⟩ := ask_run I2 rs2 rd rb hv rx ry
    · refine d_get1 (by omega) I2 g ry fun w' s3 I3 rw' => ⟨_, H2, I3, rw', q2 _ ?_⟩
      cases ov <;> cases o <;> first | exact r.elim | exact .non | exact r
    · refine call_meetsIn PySem.F.slot_dict_get g2.typeIs PySem.F.entry_dict_get (PySem.F.args_dict_get_2 _ _) (meetsH_dict_get (nestedKind X.prog X.w) a c g3) ⟨by show X.A.in1.units + 8 < _; show X.A.units + 1 + 8 < _; omega, k, xs, g1, g2, ov.getD .non, H2, I2.tok _, r1.getD rfl, q2 _ ?_⟩
      cases ov <;> cases o <;> first | exact r2.elim | exact .non | exact r2
end
end ML
namespace ML
open PySem PySem.Spec L2 PyProof.Rows
def clsAt (s : Stmt) (j : Nat) : Stmt := match s with
  | .ClassDef _ _ _ body .. => body.getD j (.Pass ⟨0, 0, 0, 0⟩)
  | s => s
def insA (cls : Str) (x : A) (st : Store) : Option (List (Str × A)) := match x with
  | .ref r => match st[r]? with
    | some (.oth (.ins c fs)) => if c = cls then some fs else none
    | _ => none
  | _ => none
def putFA (f : Str) (v : A) : List (Str × A) → List (Str × A)
  | [] => [(f, v)]
  | (g, x) :: r => if g = f then (g, v) :: r else (g, x) :: putFA f v r
def setIA (cls : Str) (f : Str) (v : A) (x : A) (st : Store) : Option Store := match x with
  | .ref r => match insA cls (.ref r) st with
    | some fs => if fs.length < 1000 then some (st.set r (.oth (.ins cls (putFA f v fs)))) else none
    | none => none
  | _ => none
def mFld (cls f : Str) (ma : MX) : MX := fun ρ st => (ma ρ st).bind fun x st1 => match insA cls x st1 with
  | some fs => match fs.lookup f with
    | some v => .ok v st1
    | none => .bad
  | none => .bad
def mPutF (cls f : Str) (mo ma : MX) : MS := fun ρ st => (ma ρ st).toS ρ fun v st1 => (mo ρ st1).toS ρ fun x st2 => match setIA cls f v x st2 with
  | some st3 => .nx ρ st3
  | none => .bad
def mMeth (cls m : Str) (mf : MF) (mo : MX) (ms : MA) : MX := fun ρ st => (mo ρ st).bind fun x st1 => match insA cls x st1 with
  | some fs => if fs.lookup m = none then (ms ρ st1).bind fun vs st2 => mf (x :: vs) st2 else .bad
  | none => .bad
def mMake (cls : Str) (mf : MF) (ms : MA) : MX := fun ρ st => (ms ρ st).bind fun vs st1 => (mf (.ref st1.length :: vs) (st1 ++ [.oth (.ins cls [])])).bind fun v st2 => match v with
  | .non => .ok (.ref st1.length) st2
  | _ => .bad
section
variable {K : PySem.W.Frag} {w : World} {mg : Str → Option Value} {φ : List Addr} {H : Hp} {st : Store}
theorem insA_eq {cls : Str} {r : Nat} {fs : List (Str × A)} (h : insA cls (.ref r) st = some fs) : st[r]? = some (.oth (.ins cls fs)) := by
  unfold insA at h
  simp only at h
  split at h
  · split at h
    · rename_i e c
      cases h
      rw [← c]
      assumption
    · cases h
  · cases h
theorem ins_at {cls : Str} {x : V} {a : A} {fs : List (Str × A)} (rs : RS K w mg φ H st) (rx : RV K φ H x a) (h : insA cls a st = some fs) :
    ∃ (r : Nat) (p C dx : Addr) (vs : List V), a = .ref r ∧ x = .ref p ∧ φ[r]? = some p ∧ st[r]? = some (.oth (.ins cls fs)) ∧ mg cls = some (.ref C) ∧ H p = some (.ins C dx ((fs.map (·.1)).zip vs)) ∧ H dx = some (.own p) ∧ dx ∉ φ ∧ RVs K φ H vs (fs.map (·.2)) := by
  cases rx with
  | @ref p r q =>
    have e := insA_eq h
    obtain ⟨C, dx, vs, h1, h2, h3, h4, h5⟩ := rs.all r p _ q e
    exact ⟨r, p, C, dx, vs, rfl, rfl, q, e, h1, h2, h3, h4, h5⟩
  | _ => cases h
theorem look_z {f : Str} {v : A} : ∀ {fs : List (Str × A)} {vs : List V}, RVs K φ H vs (fs.map (·.2)) → fs.lookup f = some v → ∃ u, ((fs.map (·.1)).zip vs).lookup f = some u ∧ RV K φ H u v
  | [], _, _, h => by simp at h
  | (g, x) :: fs, vs, r, h => by
    cases r with
    | @cons u _ us _ r1 r2 =>
      simp only [List.map_cons, List.zip_cons_cons, List.lookup_cons] at h ⊢
      cases c : f == g with
      | true =>
        rw [c] at h
        simp only at h
        cases h
        exact ⟨u, rfl, r1⟩
      | false =>
        rw [c] at h
        exact look_z r2 h
theorem look_none {f : Str} : ∀ {fs : List (Str × A)} {vs : List V}, vs.length = fs.length → fs.lookup f = none → ((fs.map (·.1)).zip vs).lookup f = none
  | [], _, _, _ => by simp
  | (g, x) :: fs, [], h, _ => by simp at h
  | (g, x) :: fs, u :: us, h, h2 => by
    simp only [List.map_cons, List.zip_cons_cons, List.lookup_cons] at h2 ⊢
    cases c : f == g with
    | true =>
      rw [c] at h2
      cases h2
    | false =>
      rw [c] at h2
      exact look_none (by simpa using h) h2
theorem put_z {f : Str} {u : V} {v : A} (ru : RV K φ H u v) : ∀ {fs : List (Str × A)} {vs : List V}, RVs K φ H vs (fs.map (·.2)) → ∃ us, putF f u ((fs.map (·.1)).zip vs) = ((putFA f v fs).map (·.1)).zip us ∧ RVs K φ H us ((putFA f v fs).map (·.2))
  | [], vs, r => by
    cases r
    exact ⟨[u], rfl, .cons ru .nil⟩
  | (g, x) :: fs, vs, r => by
    cases r with
    | @cons y ys _ _ r1 r2 =>
      simp only [List.map_cons, List.zip_cons_cons, putF, putFA]
      by_cases c : g = f
      · rw [if_pos c, if_pos c]
        exact ⟨u :: ys, rfl, .cons ru r2⟩
      · rw [if_neg c, if_neg c]
        obtain ⟨us, e1, e2⟩ := put_z (f := f) ru r2
        exact ⟨y :: us, by rw [e1]; rfl, .cons r1 e2⟩
end
structure FldF (K : PySem.W.Frag) (mg : Str → Option Value) (cls f : Str) : Prop where
  ex : ∃ C, mg cls = some (.ref C) ∧ L2.Cls K C ∧ NoAttr K C f
section
variable {X : Cx} {W : WX} {o e : Expr} {f cls : Str} {pos pos' : Pos} {mo ma : MX}
theorem me_fld (F : FldF X.K X.mg cls f) (he : PE X e (tE X W ma)) (hb : attributeBase e f X.env (eval e X.env) = eval e X.env := by rfl) : PE X (.Attribute e f pos) (tE X W (mFld cls f ma)) := (pe_fld he hb).imp fun σ H Q ⟨φ, ρ, st, rs, re, h⟩ => by
  obtain ⟨C, hC, hc, hn⟩ := F.ex
  refine ⟨φ, ρ, st, rs, re, h.seq fun φ1 d x H1 st1 e1 rs1 rv1 h1 => ?_⟩
  cases q : insA cls d st1 with
  | none => rw [q] at h1; exact h1.elim
  | some fs =>
    rw [q] at h1
    simp only at h1
    cases q2 : fs.lookup f with
    | none => rw [q2] at h1; exact h1.elim
    | some v =>
      rw [q2] at h1
      simp only at h1
      obtain ⟨r, p, C', dx, vs, rfl, rfl, g1, g2, g3, g4, g5, g6, g7⟩ := ins_at rs1 rv1 q
      rw [hC] at g3
      cases g3
      obtain ⟨u, l1, l2⟩ := look_z g7 q2
      exact ⟨p, C, dx, _, u, rfl, g4, hc, hn, l1, h1.ok rs1 l2⟩
theorem ms_putf {value : Expr} (F : FldF X.K X.mg cls f) (ho : PE X o (tE X W mo)) (hv : PE X value (tE X W ma)) (hs : swapsWith value (some (.Attribute o f pos')) pos.line X.env = pure false := by rfl) : PS X (.Assign [.Attribute o f pos'] value pos) (tS X W (mPutF cls f mo ma)) := (ps_fld ho hv hs).imp fun D σ H ⟨φ, ρ, st, rs, re, h⟩ => by
  obtain ⟨C, hC, hc, hn⟩ := F.ex
  refine ⟨φ, ρ, st, rs, re, h.exp re fun φ1 d v H1 st1 e1 rs1 rv1 h1 => ?_⟩
  refine ⟨φ1, ρ, st1, rs1, re.ext e1, h1.exp (re.ext e1) fun φ2 a x H2 st2 e2 rs2 rv2 h2 => ?_⟩
  cases q : setIA cls f d a st2 with
  | none => rw [q] at h2; exact h2.elim
  | some st3 =>
    rw [q] at h2
    simp only at h2
    unfold setIA at q
    cases rv2 with
    | @ref p r qp =>
      simp only at q
      cases q2 : insA cls (.ref r) st2 with
      | none => rw [q2] at q; cases q
      | some fs =>
        rw [q2] at q
        simp only at q
        split at q
        · rename_i hl
          cases q
          obtain ⟨r', p', C', dx, vs, e3, e4, g1, g2, g3, g4, g5, g6, g7⟩ := ins_at rs2 (.ref qp) q2
          cases e3
          cases e4
          rw [hC] at g3
          cases g3
          have ex : Ext φ2 H2 φ2 (upd H2 p (.ins C dx (putF f v ((fs.map (·.1)).zip vs)))) := ext_write qp (fun od u z => by rw [g4] at z; cases z)
          obtain ⟨us, u1, u2⟩ := put_z (f := f) ((rv1.ext e2).ext ex) (fs := fs) (g7.ext ex)
          have hlen : ((fs.map (·.1)).zip vs).length < 1000 := by
            rw [List.length_zip, List.length_map]
            omega
          refine ⟨p, C, dx, _, rfl, g4, hc, hn, hlen, h2 φ2 σ _ ex (rs2.writeO qp g2 (fun od u z => by rw [g4] at z; cases z) ⟨C, dx, us, hC, ?_, ?_, g6, u2⟩) (((re.ext e1).ext e2).ext ex)⟩
          · rw [upd_same, u1]
          · rw [upd_ne (fun z => by rw [z, g4] at g5; cases g5)]
            exact g5
        · cases q
    | _ => cases q
end
structure GM (K : PySem.W.Frag) (mg : Str → Option Value) (cls m qual : Str) (st : Stmt) (ps : List Str) : Prop where
  ex : ∃ (C f : Addr) (fd : FuncData), mg cls = some (.ref C) ∧ L2.Cls K C ∧ Meth K C m f ∧ Fun K m qual st f fd ∧ Binds K fd ps []
structure CalM (P : Program) (w : World) (K : PySem.W.Frag) (mg : Str → Option Value) (base : Heap) (cls m : Str) (k : Nat) (mf : MF) : Prop where
  ex : ∃ (C f : Addr) (fd : FuncData) (ps : List Str), mg cls = some (.ref C) ∧ L2.Cls K C ∧ Meth K C m f ∧ Binds K fd ps [] ∧ FnOk P w K mg base (L2.CX P w) k f fd ps (spM K w mg mf)
theorem CalM.mono {P : Program} {w : World} {K : PySem.W.Frag} {mg : Str → Option Value} {base : Heap} {cls m : Str} {k j : Nat} {mf : MF} (C : CalM P w K mg base cls m j mf) (h : j ≤ k) : CalM P w K mg base cls m k mf := by
  obtain ⟨A, f, fd, ps, h1, h2, h3, h4, F⟩ := C.ex
  exact ⟨A, f, fd, ps, h1, h2, h3, h4, F.mono h⟩
theorem calm_of {P : Program} {w : World} {K : PySem.W.Frag} {mg : Str → Option Value} {base : Heap} {cls m qual : Str} {st : Stmt} {N ps : List Str} {k : Nat} {body : MS} (G : GM K mg cls m qual st ps) (S : FnScope N ps (defScope st))
    (hb : ∀ (f : Addr) (cdv : Value) (A : Around) (outer : List PySem.Env) (s : Shared) (H : Hp) (E : XK), Room k (A.deeper (PyProof.Rows.envOfC qual (defScope st) s.heap.objs.size f cdv)) →
      PSs (cxOf (L2.CX P w) P w K mg base N qual (defScope st) f cdv A outer s H E) (defBody st) (tS (cxOf (L2.CX P w) P w K mg base N qual (defScope st) f cdv A outer s H E) (fun c d _ H' => E c d H') body)) :
    CalM P w K mg base cls m (k + 1) (mFn N.length ps.length body) := by
  obtain ⟨C, f, fd, h1, h2, h3, F, b⟩ := G.ex
  exact ⟨C, f, fd, ps, h1, h2, h3, b, fn_ok F S (hb f)⟩
structure GI (K : PySem.W.Frag) (mg : Str → Option Value) (cls qual : Str) (st : Stmt) (ps : List Str) : Prop where
  ex : ∃ (C f : Addr) (fd : FuncData), mg cls = some (.ref C) ∧ Mk K C f ∧ Fun K "__init__" qual st f fd ∧ Binds K fd ps []
structure CalI (P : Program) (w : World) (K : PySem.W.Frag) (mg : Str → Option Value) (base : Heap) (cls : Str) (k : Nat) (mf : MF) : Prop where
  ex : ∃ (C f : Addr) (fd : FuncData) (ps : List Str), mg cls = some (.ref C) ∧ Mk K C f ∧ Binds K fd ps [] ∧ FnOk P w K mg base (L2.CX P w) k f fd ps (spM K w mg mf)
theorem CalI.mono {P : Program} {w : World} {K : PySem.W.Frag} {mg : Str → Option Value} {base : Heap} {cls : Str} {k j : Nat} {mf : MF} (C : CalI P w K mg base cls j mf) (h : j ≤ k) : CalI P w K mg base cls k mf := by
  obtain ⟨A, f, fd, ps, h1, h2, h3, F⟩ := C.ex
  exact ⟨A, f, fd, ps, h1, h2, h3, F.mono h⟩
theorem cali_of {P : Program} {w : World} {K : PySem.W.Frag} {mg : Str → Option Value} {base : Heap} {cls qual : Str} {st : Stmt} {N ps : List Str} {k : Nat} {body : MS} (G : GI K mg cls qual st ps) (S : FnScope N ps (defScope st))
    (hb : ∀ (f : Addr) (cdv : Value) (A : Around) (outer : List PySem.Env) (s : Shared) (H : Hp) (E : XK), Room k (A.deeper (PyProof.Rows.envOfC qual (defScope st) s.heap.objs.size f cdv)) →
      PSs (cxOf (L2.CX P w) P w K mg base N qual (defScope st) f cdv A outer s H E) (defBody st) (tS (cxOf (L2.CX P w) P w K mg base N qual (defScope st) f cdv A outer s H E) (fun c d _ H' => E c d H') body)) :
    CalI P w K mg base cls (k + 1) (mFn N.length ps.length body) := by
  obtain ⟨C, f, fd, h1, h2, F, b⟩ := G.ex
  exact ⟨C, f, fd, ps, h1, h2, b, fn_ok F S (hb f)⟩
section
variable {X : Cx} {E : XK} {o e : Expr} {es : List Expr} {m cls : Str} {pos apos p : Pos} {mo : MX} {ms : MA} {mf : MF} {k : Nat} {pl : Sem Bool}
theorem passX (tk : Takes X (fun c d _ H' => E c d H')) : Passes (L2.CX X.prog X.w) X E := fun pins σ H s e s' I c => passAt tk σ pins H s e s' I c
theorem meth_ok {C : Addr} {ta : TE} {σ : L2.St} {H : Hp} {Q : VK} (hC : X.mg cls = some (.ref C)) (h : tE X (fun c d _ H' => E c d H') (mMeth cls m mf mo ms) σ H Q) :
    tMeth C m (spM X.K X.w X.mg mf) [] E (tE X (fun c d _ H' => E c d H') mo) (tA X (fun c d _ H' => E c d H') ms) σ H Q := by
  obtain ⟨φ, ρ, st, rs, re, h⟩ := h
  refine ⟨φ, ρ, st, rs, re, h.seq fun φ1 a x H1 st1 e1 rs1 rv1 h1 => ?_⟩
  cases q : insA cls a st1 with
  | none => rw [q] at h1; exact h1.elim
  | some fs =>
    rw [q] at h1
    simp only at h1
    obtain ⟨r, p, C', dx, vs, rfl, rfl, g1, g2, g3, g4, g5, g6, g7⟩ := ins_at rs1 rv1 q
    rw [hC] at g3
    cases g3
    split at h1
    · rename_i hl
      refine ⟨p, dx, _, rfl, g4, look_none (by have := g7.length; simpa using this) hl, φ1, ρ, st1, rs1, re.ext e1, h1.seq fun φ2 ds us H2 st2 e2 rs2 rv2 h2 => ?_⟩
      rw [List.append_nil]
      exact ⟨φ2, .ref r :: ds, st2, rs2, .cons (rv1.ext e2) rv2, h2⟩
    · exact h1.elim
theorem me_meth (M : CalM X.prog X.w X.K X.mg X.base cls m k mf) (hr : Room k X.A) (tk : Takes X (fun c d _ H' => E c d H')) (ho : PE X o (tE X (fun c d _ H' => E c d H') mo)) (ha : PA X (e :: es) (tA X (fun c d _ H' => E c d H') ms))
    (hst : starEach (e :: es) X.env = (false, eval e X.env) :: starEach es X.env := by rfl) (hpl : (backTo pos (starEach es X.env)).any (·.1) = false := by rfl)
    (ht : eval (.Call (.Attribute o m apos) (e :: es) [] pos) X.env = (do
      let ov ← eval o X.env
      standAt apos.atName
      let (f, first) ← holding [ov] (getMethod ov m pl)
      callWith pos f first (backTo pos (starEach (e :: es) X.env)) (backToKw pos (keywordEach [] X.env))) := by rfl) :
    PE X (.Call (.Attribute o m apos) (e :: es) [] pos) (tE X (fun c d _ H' => E c d H') (mMeth cls m mf mo ms)) := by
  obtain ⟨C, f, fd, ps, hC, hc, hm, hb, F⟩ := M.ex
  exact (pe_meth ho hc hm F hr hb .nil (passX tk) ha hst hpl ht).imp fun σ H Q h => meth_ok (ta := tE X (fun c d _ H' => E c d H') mo) hC h
theorem make_ok {C : Addr} {σ : L2.St} {H : Hp} {Q : VK} (hC : X.mg cls = some (.ref C)) (h : tE X (fun c d _ H' => E c d H') (mMake cls mf ms) σ H Q) : tMake C (spM X.K X.w X.mg mf) [] E (tA X (fun c d _ H' => E c d H') ms) σ H Q := by
  obtain ⟨φ, ρ, st, rs, re, h⟩ := h
  refine ⟨φ, ρ, st, rs, re, h.seq fun φ1 ds vs H1 st1 e1 rs1 rv1 h1 => fun x dx hx hdx ne => ?_⟩
  rw [List.append_nil]
  have ex : Ext φ1 H1 (φ1 ++ [x]) (upd (upd H1 dx (.own x)) x (.ins C dx [])) := ⟨⟨[x], rfl⟩, fun a u n q => by
    have n1 : a ≠ x := ne_of_none q hx
    have n2 : a ≠ dx := ne_of_none q hdx
    refine ⟨by rw [upd_ne n1, upd_ne n2]; exact q, fun z => ?_⟩
    rcases List.mem_append.mp z with z | z
    · exact n z
    · exact n1 (by simpa using z), fun a o u q => by rw [upd_ne (ne_of_none q hx), upd_ne (ne_of_none q hdx)]; exact q⟩
  have e0 : Ext φ1 H1 φ1 (upd H1 dx (.own x)) := ext_new hdx
  have rs2 : RS X.K X.w X.mg φ1 (upd H1 dx (.own x)) st1 := rs1.new hdx
  have hx2 : upd H1 dx (.own x) x = none := by
    rw [upd_ne (Ne.symm ne)]
    exact hx
  have nd : dx ∉ φ1 ++ [x] := fun z => by
    rcases List.mem_append.mp z with z | z
    · exact rs1.notin hdx z
    · exact ne (by simpa using z)
  have rs3 : RS X.K X.w X.mg (φ1 ++ [x]) (upd (upd H1 dx (.own x)) x (.ins C dx [])) (st1 ++ [.oth (.ins cls [])]) := rs2.allocO hx2 ⟨C, dx, [], hC, upd_same, by rw [upd_ne ne, upd_same], nd, .nil⟩
  refine ⟨φ1 ++ [x], .ref st1.length :: ds, st1 ++ [.oth (.ins cls [])], rs3, .cons (.newLst rs1) (rv1.ext ex), ?_⟩
  refine (h1.mono ex).seq fun φ2 a v H2 st2 e2 rs4 rv4 h4 => ?_
  cases rv4 with
  | non => exact ⟨rfl, h4.ok rs4 (RV.ext e2 (.newLst rs1 (H' := upd (upd H1 dx (.own x)) x (.ins C dx []))))⟩
  | _ => exact h4.elim
theorem me_make0 {x : Str} (M : CalI X.prog X.w X.K X.mg X.base x k mf) (hr : Room (k + 1) X.A) (tk : Takes X (fun c d _ H' => E c d H')) (hg : Gl X x := by rfl) (hdb : (x == ("__debug__" : Str)) = false := by decide) :
    PE X (.Call (.Name x p) [] [] pos) (tE X (fun c d _ H' => E c d H') (mMake x mf mNil)) := by
  obtain ⟨C, f, fd, ps, hC, hm, hb, F⟩ := M.ex
  refine (pe_make0 hm F hr hg hC hb .nil (passX tk) hdb).imp fun σ H Q h => ?_
  obtain ⟨φ, ρ, st, rs, re, h3⟩ := make_ok hC h
  exact h3.ok rs .nil
end
end ML
namespace ML
open PySem PySem.Spec L2 PyProof.Rows
def flatD (kvs : List (NestedKey × A)) : Bool := kvs.all fun kv => !tupK kv.1
def mKeysF (i : Nat) : Env → Store → R Src := fun ρ st => match ρ[i]? with
  | some (some (.ref r)) => match stF st r with
    | some kvs => .ok (.vals (kvs.map fun kv => aOf kv.1)) st
    | none => .bad
  | _ => .bad
def unF (r : Nat) (st : Store) : Option Store := match stF st r with
  | some kvs => some (st.set r (.oth (.dct kvs)))
  | none => none
def unlockS (r : Nat) (q : SR) : SR := match q with
  | .nx ρ st => match unF r st with
    | some st1 => .nx ρ st1
    | none => .bad
  | .bk ρ st => match unF r st with
    | some st1 => .bk ρ st1
    | none => .bad
  | .ct ρ st => match unF r st with
    | some st1 => .ct ρ st1
    | none => .bad
  | .rt a st => match unF r st with
    | some st1 => .rt a st1
    | none => .bad
  | _ => .bad
def unlockX (r : Nat) (q : R A) : R A := match q with
  | .ok a st => match unF r st with
    | some st1 => .ok a st1
    | none => .bad
  | _ => .bad
def mLcD (i : Nat) (tg : Tg) (own : List Nat) (tt : MT) (me : MX) : MX := fun ρ st => match ρ[i]? with
  | some (some (.ref r)) => match stD st r with
    | some kvs => if flatD kvs = true then unlockX r (mLc (mKeysF i) tg own tt me ρ (st.set r (.oth (.frd kvs)))) else .bad
    | none => .bad
  | _ => .bad
section
variable {K : PySem.W.Frag} {w : World} {mg : Str → Option Value} {φ φ' : List Addr} {H H' : Hp} {st : Store} {σ : L2.St} {ρ : Env}
theorem StT.up {p : Addr} {o : HO} (hp : p ∈ φ) {a : Addr} {xs : List V} (h : StT K φ H a xs) : StT K φ (upd H p o) a xs := by
  rcases h with ⟨⟨q, hd, h⟩, n⟩ | h
  · have ne : a ≠ p := fun z => n (z ▸ hp)
    exact .inl ⟨⟨q, hd, by rw [upd_ne ne]; exact h⟩, n⟩
  · exact .inr h
theorem StL.up {p : Addr} {o : HO} (hp : p ∈ φ) {a : Addr} {xs : List V} (h : StL K φ H a xs) : StL K φ (upd H p o) a xs := by
  rcases h with ⟨⟨q, h⟩, n⟩ | h
  · have ne : a ≠ p := fun z => n (z ▸ hp)
    exact .inl ⟨⟨q, by rw [upd_ne ne]; exact h⟩, n⟩
  · exact .inr h
mutual
theorem RV.up {p : Addr} {o : HO} (hp : p ∈ φ) : ∀ {v : V} {d : A}, RV K φ H v d → RV K φ (upd H p o) v d
  | _, _, .non => .non
  | _, _, .bl b => .bl b
  | _, _, .int i => .int i
  | _, _, .str x => .str x
  | _, _, .tup h q => .tup (h.up hp) (RVs.up hp q)
  | _, _, .scr h q => .scr (h.up hp) (RVs.up hp q)
  | _, _, .ref h => .ref h
theorem RVs.up {p : Addr} {o : HO} (hp : p ∈ φ) : ∀ {vs : List V} {ds : List A}, RVs K φ H vs ds → RVs K φ (upd H p o) vs ds
  | _, _, .nil => .nil
  | _, _, .cons h q => .cons (RV.up hp h) (RVs.up hp q)
end
theorem RS.unlock (r : RS K w mg φ H st) {i : Nat} {p : Addr} {od : Obj} {ks : List (Key × V)} {st1 : Store} (hp : φ[i]? = some p) (hz : H p = some (.frz od (.dK ks))) (e : unF i st = some st1) : RS K w mg φ (upd H p (.dK ks)) st1 := by
  unfold unF at e
  cases q : stF st i with
  | none => rw [q] at e; cases e
  | some kvs =>
    rw [q] at e
    cases e
    have hm : p ∈ φ := List.mem_of_getElem? hp
    have ho := stF_eq q
    obtain ⟨g2, g3⟩ : kvs.map (·.1) = ks.map (fun x => nk x.1) ∧ RVs K φ H (ks.map (·.2)) (kvs.map (·.2)) := by
      rcases r.all i p _ hp ho with ⟨od', ks', g1, g2, g3⟩ | ⟨od', xs, vs, _, g1, _⟩
      · rw [hz] at g1
        cases g1
        exact ⟨g2, g3⟩
      · rw [hz] at g1
        cases g1
    refine ⟨by rw [List.length_set]; exact r.len, r.nd, fun j a v h1 h2 => ?_⟩
    by_cases hj : i = j
    · subst hj
      rw [hp] at h1
      cases h1
      rw [List.getElem?_set_self (List.getElem?_eq_some_iff.mp ho).1] at h2
      cases h2
      exact .inl ⟨ks, upd_same, g2, RVs.up hm g3⟩
    · rw [List.getElem?_set_ne hj] at h2
      have h3 := r.all j a v h1 h2
      have na : a ≠ p := fun z => by
        subst z
        obtain ⟨l1, e1⟩ := List.getElem?_eq_some_iff.mp hp
        obtain ⟨l2, e2⟩ := List.getElem?_eq_some_iff.mp h1
        exact hj ((List.getElem_inj r.nd).mp (e1.trans e2.symm))
      cases v with
      | lst ds' =>
        obtain ⟨zs, y1, y2⟩ := h3
        exact ⟨zs, by rw [upd_ne na]; exact y1, RVs.up hm y2⟩
      | oth u =>
        exact RO2.map (fun _ _ => RV.up hm) (fun _ _ => RVs.up hm) (upd_ne na) (fun dx o n q _ => ⟨by
          rw [upd_ne (show dx ≠ p from fun z => n (by rw [z]; exact hm))]
          exact q, n⟩) h3
theorem RE.up {p : Addr} {o : HO} (hp : p ∈ φ) (r : RE K φ H σ ρ) : RE K φ (upd H p o) σ ρ := ⟨r.len, fun i d h => by
  obtain ⟨v, h1, h2⟩ := r.all i d h
  exact ⟨v, h1, RV.up hp h2⟩⟩
theorem Ext.unlock {p : Addr} {od : Obj} {ks : List (Key × V)} (hm : p ∈ φ) (hk : H p = some (.dK ks)) (e : Ext φ (upd H p (.frz od (.dK ks))) φ' H') : Ext φ H φ' (upd H' p (.dK ks)) := ⟨e.pre, fun a o n q => by
    have ne : a ≠ p := fun z => n (z ▸ hm)
    obtain ⟨y1, y2⟩ := e.fr a o n (by rw [upd_ne ne]; exact q)
    exact ⟨by rw [upd_ne ne]; exact y1, y2⟩, fun a o u q => by
    have ne : a ≠ p := fun z => by rw [z, hk] at q; cases q
    rw [upd_ne ne]
    exact e.fz a o u (by rw [upd_ne ne]; exact q)⟩
end
section
variable {X : Cx} {W : WX} {i : Nat} {tg e : Expr} {pos : Pos}
def Itkr (w : World) (d : Addr) (o : Obj) (xs : List (NestedKey × Addr × Value)) : It := ⟨fun i H => H d = some (.frz o (.ext (DRaw w d xs))) ∧ i < xs.length, fun i H x H' => H' = H ∧ ∃ y, xs[i]? = some y ∧ x = .ref y.2.1, fun i H => H d = some (.frz o (.ext (DRaw w d xs))) ∧ xs.length ≤ i⟩
theorem frzR {X : Cx} {pins : List (Addr × Obj)} {σ : L2.St} {H : Hp} {s : Shared} {w : World} {d : Addr} {o : Obj} {xs : List (NestedKey × Addr × Value)} (I : Inv X pins σ H s) (hd : H d = some (.frz o (.ext (DRaw w d xs)))) :
    ∃ es ep, o.data = .dict es ep ∧ s.heap.DictRaw d es ep ∧ es.size = xs.length ∧ ∀ (i : Nat) (h : i < es.size) y, xs[i]? = some y → es[i].key = .ref y.2.1 := by
  obtain ⟨hg, ⟨ob, es, ep, g1, g2, g3, g4, g5⟩, _, _⟩ := I.hok d _ hd
  have e : ob = o := by rw [hg] at g1; exact (Option.some.inj g1).symm
  subst e
  have hs : es.size = xs.length := by
    have := congrArg List.length g4
    simpa using this
  refine ⟨es, ep, g3, ⟨ob, g1, g2, g3⟩, hs, fun i h y hy => ?_⟩
  have h1 : es.toList[i]? = some es[i] := by rw [Array.getElem?_toList, Array.getElem?_eq_getElem h]
  rw [g4, List.getElem?_map, hy] at h1
  exact (congrArg DictEntry.key (Option.some.inj h1)).symm
theorem turn_keysR {P : Program} {w : World} {K : PySem.W.Frag} {tg : Expr} {d : Addr} {o : Obj} {es : Array DictEntry} {ep : Nat} {w' : World} {xs : List (NestedKey × Addr × Value)} (it : Addr) (hod : o.data = .dict es ep) : Turn P w K tg (Itkr w' d o xs) [it] it (fun i h => h.IsKeyIter it d i xs.length ep) where
  mem := by simp
  obj := fun i h st b hb => by
    have e : b = it := by simpa using hb
    subst e
    obtain ⟨oi, e, c, dd⟩ := st
    exact ⟨oi, e, fun v z => by rw [dd] at z; cases z⟩
  keep := fun i h h' st k => st.at fun oi e => k it (by simp) oi e
  item := by
    intro X hP hw hK hc i pins s σ H E I hf st hg
    subst hP hw hK
    obtain ⟨hd, hi⟩ := hg
    obtain ⟨f0, f1, f2, f3, f4, f5⟩ := hf it (by simp)
    obtain ⟨es', ep', hod', hm, hsz, hk⟩ := frzR I hd
    rw [hod] at hod'
    cases hod'
    have hlt : i < es.size := by omega
    rw [← hsz] at st
    refine wpAny_pyNext_keys_item_raw st hm hlt fun h' st' sb => ?_
    have I1 : Inv X pins σ H { s with heap := h' } := I.turned (t' := s.toks) (fun b ob hb e => (sb.2 b hb).trans e) f0 f1 f3 f4 f5
    obtain ⟨oi, e, c, dd⟩ := id st'
    refine ⟨_, rfl, go_of (s := { s with heap := h' }) e c dd (by decide) ⟨.ref xs[i].2.1, H, I1, hk i hlt _ (List.getElem?_eq_getElem hi), ⟨rfl, _, List.getElem?_eq_getElem hi, rfl⟩, ?_, fun b hb => (hf b hb).1⟩⟩
    rw [hsz] at st'
    exact st'
  done := by
    intro X hP hw hK hc i pins s σ H E I hf st hg
    subst hP hw hK
    obtain ⟨hd, hi⟩ := hg
    obtain ⟨f0, f1, f2, f3, f4, f5⟩ := hf it (by simp)
    obtain ⟨es', ep', hod', hm, hsz, hk⟩ := frzR I hd
    rw [hod] at hod'
    cases hod'
    rw [← hsz] at st
    exact wpAny_pyNext_keys_end_raw (I.ok.hd hc) st hm (by omega) fun h' eb => ⟨rfl, I.turned (t' := s.toks) (fun b ob hb e => eb b ob hb e) f0 f1 f3 f4 f5⟩
  self := fun A i s Q E st h => wpAny_pyIter_keyiter st h
def iKeysB (w : World) (td : TE) : TI := fun σ H R => td σ H fun x H1 => ∃ d o, x = .ref d ∧ ((∃ kvs, H1 d = some (.frz o (.dK kvs)) ∧ R (Itk d o kvs) H1) ∨ ∃ xs, (d == sysModules) = false ∧ H1 d = some (.frz o (.ext (DRaw w d xs))) ∧ R (Itkr w d o xs) H1)
theorem pi_keysB {td : TE} (he : PE X e td) : PI X tg e (iKeysB X.w td) := by
  refine ⟨fun pins s σ H R I h => ?_⟩
  refine thn (he.run pins s σ H _ I h) fun u s1 ⟨x, H1, I1, rx, d, o, ex, q⟩ => ?_
  subst ex
  obtain rfl : u = Value.ref d := rx
  rcases q with ⟨kvs, hd, q⟩ | ⟨xs, hs, hd, q⟩
  · obtain ⟨hs, hgd, hx, es, ep, vs, hdt, hsz, kv, hm⟩ := I1.frzK hd
    refine iter_keys hs hgd hx hdt (pi_one (tk := s1.toks) I1 _ (turn_keys _ hdt) ⟨_, Heap.get?_push_size _ rfl, rfl, ?_⟩ q)
    rw [hsz] <;> rfl
  · obtain ⟨es, ep, hod, hm, hsz, hk⟩ := frzR I1 hd
    refine wpAny_pyIter_dict_raw hs hm (pi_one (tk := s1.toks) I1 _ (turn_keysR _ hod) ⟨_, Heap.get?_push_size _ rfl, rfl, ?_⟩ q)
    rw [hsz] <;> rfl
theorem rv_key {K : PySem.W.Frag} {φ : List Addr} {H : Hp} (k : Key) : RV K φ H (kV k) (aOf (nk k)) := by
  cases k with
  | inl i => exact .int i
  | inr x => exact .str x
theorem mi_keysF (he : PE X e (tE X W (mVar i))) : PI X tg e (tI X W (mKeysF i)) := PIimp (pi_keysB he) fun σ H R ⟨φ, ρ, st, rs, re, h⟩ => by
  refine ⟨φ, ρ, st, rs, re, ?_⟩
  unfold mKeysF at h
  unfold mVar
  cases q : ρ[i]? with
  | none => rw [q] at h; exact h.elim
  | some o =>
    cases o with
    | none => rw [q] at h; exact h.elim
    | some a =>
      rw [q] at h
      cases a with
      | ref r =>
        simp only at h ⊢
        cases e1 : stF st r with
        | none => rw [e1] at h; exact h.elim
        | some kvs =>
          rw [e1] at h
          intro φ1 v H1 ex rs1 rv1
          cases rv1 with
          | @ref p _ hp =>
            rcases rs1.all r p _ hp (stF_eq e1) with ⟨od, ks, g1, g2, g3⟩ | ⟨od, xs, vs, g0, g1, g2, g3, g4, g5, g6, g7⟩
            rotate_left
            · refine ⟨p, od, rfl, .inr ⟨xs, g2, g1, h φ1 _ H1 ex rs1 ⟨?_, ?_⟩⟩⟩
              · intro k φ2 H2 st2 ex2 rs2 hk
                refine ⟨ex2.fz _ _ _ g1, ?_⟩
                have hl : xs.length = kvs.length := by
                  have := congrArg List.length g4
                  simpa using this
                unfold Src.at at hk
                simp at hk
                omega
              · intro k φ2 H2 st2 a ex2 rs2 hk
                unfold Src.at at hk
                simp only [Option.some.injEq] at hk
                have hl : xs.length = kvs.length := by
                  have := congrArg List.length g4
                  simpa using this
                have hkl : k < kvs.length := by
                  have := (List.getElem?_eq_some_iff.mp hk).1
                  simpa using this
                refine ⟨⟨ex2.fz _ _ _ g1, by omega⟩, fun x H3 hy => ?_⟩
                obtain ⟨rfl, y, hv, rfl⟩ := hy
                refine ⟨.refl, rs2, ?_⟩
                have e5 : (kvs.map (·.1))[k]? = some y.1 := by rw [← g4, List.getElem?_map, hv]; rfl
                rw [List.getElem?_map, Option.map_eq_some_iff] at hk e5
                obtain ⟨kv, k1, rfl⟩ := hk
                obtain ⟨kv', k2, k3⟩ := e5
                rw [k1] at k2
                cases k2
                rw [k3]
                exact RV.ext ex2 (g5 y (List.mem_of_getElem? hv)).1
            · refine ⟨p, od, rfl, .inl ⟨ks, g1, h φ1 _ H1 ex rs1 ⟨?_, ?_⟩⟩⟩
              · intro k φ2 H2 st2 ex2 rs2 hk
                refine ⟨ex2.fz _ _ _ g1, ?_⟩
                have hl : kvs.length = ks.length := by
                  have := congrArg List.length g2
                  simpa using this
                unfold Src.at at hk
                simp at hk
                omega
              · intro k φ2 H2 st2 a ex2 rs2 hk
                unfold Src.at at hk
                simp only [Option.some.injEq] at hk
                have hl : kvs.length = ks.length := by
                  have := congrArg List.length g2
                  simpa using this
                have hkl : k < kvs.length := by
                  have := (List.getElem?_eq_some_iff.mp hk).1
                  simpa using this
                refine ⟨⟨ex2.fz _ _ _ g1, by omega⟩, fun x H3 hy => ?_⟩
                obtain ⟨rfl, κ, v, hv, rfl⟩ := hy
                refine ⟨.refl, rs2, ?_⟩
                have e5 : (kvs.map (·.1))[k]? = some (nk κ) := by rw [g2, List.getElem?_map, hv]; rfl
                rw [List.getElem?_map, Option.map_eq_some_iff] at hk e5
                obtain ⟨kv, k1, rfl⟩ := hk
                obtain ⟨kv', k2, k3⟩ := e5
                rw [k1] at k2
                cases k2
                rw [k3]
                exact rv_key κ
      | _ => exact h.elim
theorem flat_dk {K : PySem.W.Frag} {w : World} {φ : List Addr} {H : Hp} {a : Addr} {kvs : List (NestedKey × A)} (hf : flatD kvs = true) (h : RDk K φ H a kvs ∨ RDt K w φ H a kvs) : RDk K φ H a kvs := by
  rcases h with h | ⟨xs, vs, h0, h1, h2, h3, h4, h5, h6, h7⟩
  · exact h
  · exfalso
    cases kvs with
    | nil => exact h0 rfl
    | cons q kvs =>
      cases xs with
      | nil => simp at h4
      | cons x xs =>
        have h8 := (h5 x (by simp)).1
        simp only [List.map_cons, List.cons.injEq] at h4
        unfold flatD at hf
        rw [List.all_eq_true] at hf
        have := hf q (by simp)
        rw [← h4.1] at this
        cases e : x.1 with
        | tup l => rw [e] at this; cases this
        | _ => rw [e] at h8; unfold aOf at h8; cases h8
theorem me_lcD {elt : Expr} {ifs : List Expr} {scope : Scope} (own : List (Str × Nat)) {T : Tg} {tt : MT} {me : MX} (hN : X.N.Nodup) (hi : PE X e (tE X W (mVar i))) (ok : BlkOk X.N X.env.scope scope own)
    (hg : ∀ (s : Shared) (H : Hp) (C : Addr) (cl : List (Str × Addr)) (fp : List Addr), PG (X.blk s H scope (compEnvC scope cl C X.env) fp) tg (gOf X.K T)) (ht : ∀ (s : Shared) (H : Hp) (C : Addr) (cl : List (Str × Addr)) (fp : List Addr), PTs (X.blk s H scope (compEnvC scope cl C X.env) fp) ifs (tT (X.blk s H scope (compEnvC scope cl C X.env) fp) W0 tt))
    (he : ∀ (s : Shared) (H : Hp) (C : Addr) (cl : List (Str × Addr)) (fp : List Addr), PE (X.blk s H scope (compEnvC scope cl C X.env) fp) elt (tE (X.blk s H scope (compEnvC scope cl C X.env) fp) W0 me)) (hc : X.calm = true := by rfl) (hs : ∀ x, foldedSetIterable e X.env x = pure x := by intro _; rfl)
    (ho : ∀ i ∈ T.slots, i ∈ own.map (·.2) := by decide) : PE X (.ListComp elt [⟨tg, e, ifs, 0⟩] scope pos) (tE X W (mLcD i T (own.map (·.2)) tt me)) := (pe_lock (me_lc own hN (mi_keysF hi) ok hg ht he hc hs ho)).imp fun σ H Q ⟨φ, ρ, st, rs, re, h⟩ => by
  unfold mLcD at h
  cases q : ρ[i]? with
  | none => rw [q] at h; exact h.elim
  | some o =>
    cases o with
    | none => rw [q] at h; exact h.elim
    | some a =>
      rw [q] at h
      cases a with
      | ref r =>
        simp only at h
        cases e1 : stD st r with
        | none => rw [e1] at h; exact h.elim
        | some kvs =>
          rw [e1] at h
          simp only at h
          split at h
          · rename_i hf
            obtain ⟨v, hv1, hv2⟩ := re.all i _ q
            cases hv2 with
            | @ref p _ qp =>
              obtain ⟨ks, g1, g2, g3⟩ := flat_dk hf (rs.dct qp e1)
              have hm : p ∈ φ := List.mem_of_getElem? qp
              have hn : ∀ od u, H p ≠ some (.frz od u) := fun od u z => by rw [g1] at z; cases z
              refine ⟨p, .dK ks, g1, True.intro, fun od => ?_⟩
              have ex : Ext φ H φ (upd H p (.frz od (.dK ks))) := ext_write qp hn
              refine ⟨φ, ρ, st.set r (.oth (.frd kvs)), rs.writeO qp (stD_eq e1) hn (.inl ⟨od, ks, upd_same, g2, g3.ext ex⟩), re.ext ex, ?_⟩
              cases q2 : mLc (mKeysF i) T (own.map (·.2)) tt me ρ (st.set r (.oth (.frd kvs))) with
              | ok a st1 =>
                rw [q2] at h
                unfold unlockX at h
                simp only at h
                cases q3 : unF r st1 with
                | none => rw [q3] at h; exact h.elim
                | some st2 =>
                  rw [q3] at h
                  intro φ1 v H1 ex1 rs1 rv1
                  have hz := ex1.fz _ _ _ (upd_same (H := H) (a := p))
                  have hp1 := ex1.get qp
                  exact ⟨hz, h φ1 v _ (ex1.unlock hm g1) (rs1.unlock hp1 hz q3) (RV.up (List.mem_of_getElem? hp1) rv1)⟩
              | er x st1 => rw [q2] at h; exact h.elim
              | bad => rw [q2] at h; exact h.elim
          · exact h.elim
      | _ => exact h.elim
end
end ML
namespace ML
open PySem PySem.Spec L2 PyProof.Rows
section
variable {K : PySem.W.Frag} {φ : List Addr} {H : Hp} {P : Program} {w : World} {h : Heap}
def Kq (F : List Addr) (h h' : Heap) : Prop := ∀ b o, h.get? b = some o → ∃ sl, h'.get? b = some { o with slots := sl } ∧ (b ∉ F → h'.get? b = some o)
theorem Kq.refl {F : List Addr} (h : Heap) : Kq F h h := fun b o e => ⟨o.slots, e, fun _ => e⟩
theorem Kq.trans {F : List Addr} {h h' h2 : Heap} (a : Kq F h h') (b : Kq F h' h2) : Kq F h h2 := fun c o e => by
  obtain ⟨sl, e1, e2⟩ := a c o e
  obtain ⟨sl', e3, _⟩ := b c _ e1
  refine ⟨sl', e3, fun n => ?_⟩
  obtain ⟨_, _, e5⟩ := b c o (e2 n)
  exact e5 n
theorem Kq.of {F : List Addr} {h h' : Heap} (k : ∀ b o, h.get? b = some o → h'.get? b = some o) : Kq F h h' := fun b o e => ⟨o.slots, k b o e, fun _ => k b o e⟩
end
section
open PySem.W
def Kz (F : List Addr) (z : Addr) (h h' : Heap) : Prop := ∀ b o, b ≠ z → h.get? b = some o → ∃ sl, h'.get? b = some { o with slots := sl } ∧ (b ∉ F → h'.get? b = some o)
theorem Kz.kq {F : List Addr} {z : Addr} {h h' h2 : Heap} (k : Kz F z h h') (q : Kq F h' h2) : Kz F z h h2 := fun b o n e => by
  obtain ⟨sl, e1, e2⟩ := k b o n e
  obtain ⟨sl2, e3, _⟩ := q b _ e1
  refine ⟨sl2, e3, fun nf => ?_⟩
  obtain ⟨_, _, e5⟩ := q b o (e2 nf)
  exact e5 nf
def MixOk (kz : List PyData) : Prop := ∀ x ∈ kz, ∀ y ∈ kz, ∃ (i j : Int) (r t : List PyData), x = .tuple (.int i :: r) ∧ y = .tuple (.int j :: t) ∧ (i = j → alikeAll r t = true)
def KzOk (kz : List PyData) : Prop := (AllAlike kz ∧ Sortable kz) ∨ MixOk kz
theorem KzOk.self {kz : List PyData} (m : KzOk kz) {x : PyData} (hx : x ∈ kz) : alike x x = true := by
  rcases m with ⟨al, _⟩ | m
  · exact al x hx x hx
  · obtain ⟨i, j, r, t, e1, e2, al⟩ := m x hx x hx
    rw [e1] at e2
    cases e2
    rw [e1]
    have := al rfl
    simpa [alike, alikeAll] using this
theorem KzOk.same {kz : List PyData} {h : Heap} {v : Value} {x y : PyData} {as bs : List Addr} (m : KzOk kz) (hx : x ∈ kz) (hy : y ∈ kz) (rx : Reads h v x as) (ry : Reads h v y bs) : x = y := by
  rcases m with ⟨al, _⟩ | m
  · exact alike_unique x y v as bs (al x hx y hy) rx ry
  · obtain ⟨i, j, r, t, rfl, rfl, al⟩ := m x hx y hy
    refine alike_unique _ _ v as bs ?_ rx ry
    have eij : i = j := by
      cases rx with
      | tuple g1 g2 g3 g4 =>
        cases ry with
        | tuple k1 k2 k3 k4 =>
          rw [g1] at k1
          cases k1
          rw [g3] at k3
          cases k3
          generalize hz : Array.toList _ = zs at g4 k4
          cases g4 with
          | cons p1 p2 =>
            cases k4 with
            | cons q1 q2 =>
              cases p1
              cases q1
              rfl
    have := al eij
    simpa [alike, alikeAll] using this
theorem KzOk.key {kz : List PyData} {h : Heap} {v : Value} {x : PyData} {as : List Addr} (m : KzOk kz) (hx : x ∈ kz) (rx : Reads h v x as) : (dataKind h kz).keyOf v = some (keyToks x) := by
  have has : ∃ y, y ∈ kz ∧ ∃ bs, Reads h v y bs := ⟨x, hx, as, rx⟩
  have at0 : (dataKind h kz).keyOf v = some (keyToks has.choose) := dif_pos has
  obtain ⟨hy, bs, ry⟩ := has.choose_spec
  rw [at0, m.same hy hx ry rx]
end
end ML
namespace ML
open PySem PySem.Spec L2 PyProof.Rows
structure FnG (P : Program) (w : World) (K : PySem.W.Frag) (mg : Str → Option Value) (base : Heap) (k : Nat) (f : Addr) (fd : FuncData) (ps : List Str) (sp : Sp) : Prop where
  len : ∀ vs H Q E, sp vs H Q E → vs.length = ps.length
  run : ∀ (A : Around) (outer : List PySem.Env) (s : Shared) (H : Hp) (args : Args) (us : List Value) (vs : List V) (Q : VK) (E : XK), A.guards = some [] → Room k A → Env0 P w K mg base A outer s H → BindsTo s fd args (ps.zip us) → Vals vs us → sp vs H Q E →
    codeAny (model P w) A (.call (.ref f) args) (CR (L2.CX P w) outer P w H s Q E) s
theorem FnG.imp {P : Program} {w : World} {K : PySem.W.Frag} {mg : Str → Option Value} {base : Heap} {k : Nat} {f : Addr} {fd : FuncData} {ps : List Str} {sp sp' : Sp} (F : FnG P w K mg base k f fd ps sp) (h : ∀ vs H Q E, sp' vs H Q E → sp vs H Q E) : FnG P w K mg base k f fd ps sp' :=
  ⟨fun vs H Q E q => F.len _ _ _ _ (h _ _ _ _ q), fun A outer s H args us vs Q E g hr e0 hb hv q => F.run A outer s H args us vs Q E g hr e0 hb hv (h _ _ _ _ q)⟩
def reprOk (d : PyData) : Prop := d.showable = true ∧ d.hasDict = false ∧ d.depth ≤ 30 ∧ d.shown.length ≤ sizeLine
instance (d : PyData) : Decidable (reprOk d) := by unfold reprOk; infer_instance
end ML
namespace ML
open PySem PySem.Spec L2 PyProof.Rows
section
variable {X : Cx} {pins : List (Addr × Obj)} {σ : L2.St} {H : Hp} {s : Shared} {φ : List Addr}
def entA (kv : NestedKey × A) : A := .tup [aOf kv.1, kv.2]
end
end ML
namespace ML
open PySem PySem.Spec PyProof.Rows L2
section
variable {K : PySem.W.Frag} {w : World} {mg : Str → Option Value} {φ : List Addr} {H : Hp} {st : Store} {σ : L2.St} {ρ : ML.Env} {P : Addr} {ps : Array Value}
theorem notin_push {a : Addr} {o : HO} (hP : H P = some (.tbl ps)) (h : H a = some o) (n : a ∉ φ) (ne : o ≠ .tbl ps) : a ∉ φ ++ [P] := fun z => by
  rcases List.mem_append.mp z with z | z
  · exact n z
  · rw [List.mem_singleton.mp z, hP] at h
    exact ne (Option.some.inj h).symm
theorem StT.push {a : Addr} {xs : List V} (hP : H P = some (.tbl ps)) (h : StT K φ H a xs) : StT K (φ ++ [P]) H a xs := by
  rcases h with ⟨⟨o, hd, h⟩, n⟩ | h
  · exact .inl ⟨⟨o, hd, h⟩, notin_push hP h n (by simp)⟩
  · exact .inr h
theorem StL.push {a : Addr} {xs : List V} (hP : H P = some (.tbl ps)) (h : StL K φ H a xs) : StL K (φ ++ [P]) H a xs := by
  rcases h with ⟨⟨o, h⟩, n⟩ | h
  · exact .inl ⟨⟨o, h⟩, notin_push hP h n (by simp)⟩
  · exact .inr h
theorem get_push {i : Nat} {a : Addr} (h : φ[i]? = some a) : (φ ++ [P])[i]? = some a := by
  rw [List.getElem?_append_left (List.getElem?_eq_some_iff.mp h).1]
  exact h
mutual
theorem RV.push (hP : H P = some (.tbl ps)) : ∀ {v : V} {d : A}, RV K φ H v d → RV K (φ ++ [P]) H v d
  | _, _, .non => .non
  | _, _, .bl b => .bl b
  | _, _, .int i => .int i
  | _, _, .str x => .str x
  | _, _, .tup h q => .tup (h.push hP) (RVs.push hP q)
  | _, _, .scr h q => .scr (h.push hP) (RVs.push hP q)
  | _, _, .ref h => .ref (get_push h)
theorem RVs.push (hP : H P = some (.tbl ps)) : ∀ {vs : List V} {ds : List A}, RVs K φ H vs ds → RVs K (φ ++ [P]) H vs ds
  | _, _, .nil => .nil
  | _, _, .cons h q => .cons (RV.push hP h) (RVs.push hP q)
end
theorem RE.push (hP : H P = some (.tbl ps)) (r : RE K φ H σ ρ) : RE K (φ ++ [P]) H σ ρ := ⟨r.len, fun i d h => by
  obtain ⟨v, h1, h2⟩ := r.all i d h
  exact ⟨v, h1, h2.push hP⟩⟩
theorem RO2.push {a : Addr} (hP : H P = some (.tbl ps)) : ∀ {u : Ob2}, RO2 K w mg φ H a u → RO2 K w mg (φ ++ [P]) H a u
  | .dct _, .inl ⟨ks, h1, h2, h3⟩ => .inl ⟨ks, h1, h2, h3.push hP⟩
  | .dct _, .inr ⟨xs, vs, h0, h1, h2, h3, h4, h5, h6, h7⟩ => .inr ⟨xs, vs, h0, h1, h2, h3, h4, fun x hx => ⟨(h5 x hx).1.push hP, (h5 x hx).2⟩, h6, h7.push hP⟩
  | .frd _, .inl ⟨od, ks, h1, h2, h3⟩ => .inl ⟨od, ks, h1, h2, h3.push hP⟩
  | .frd _, .inr ⟨od, xs, vs, h0, h1, h2, h3, h4, h5, h6, h7⟩ => .inr ⟨od, xs, vs, h0, h1, h2, h3, h4, fun x hx => ⟨(h5 x hx).1.push hP, (h5 x hx).2⟩, h6, h7.push hP⟩
  | .ins _ _, ⟨C, dx, vs, h0, h1, h2, h3, h4⟩ => ⟨C, dx, vs, h0, h1, h2, notin_push hP h2 h3 (by simp), h4.push hP⟩
  | .tab _, ⟨h0, ps', h1, h2, h3⟩ => ⟨h0, ps', h1, h2, fun pos cv hc => by
    obtain ⟨c, z1, z2, z3⟩ := h3 pos cv hc
    exact ⟨c, z1, z2, notin_push hP z2 z3 (LamX.codeO_ne ps)⟩⟩
theorem RS.push {n : Str} (r : RS K w mg φ H st) (hP : H P = some (.tbl #[])) (nP : P ∉ φ) (ht : TabIs K mg n P) : RS K w mg (φ ++ [P]) H (st ++ [.oth (.tab n)]) := by
  refine ⟨by simp [r.len], ?_, fun i a o h1 h2 => ?_⟩
  · rw [List.nodup_append]
    refine ⟨r.nd, by simp, fun a ha b hb z => ?_⟩
    rw [List.mem_singleton.mp hb] at z
    exact nP (z ▸ ha)
  · by_cases hi : i < φ.length
    · rw [List.getElem?_append_left hi] at h1
      rw [List.getElem?_append_left (by rw [← r.len]; exact hi)] at h2
      have h3 := r.all i a o h1 h2
      cases o with
      | lst ds =>
        obtain ⟨xs, q, q2⟩ := h3
        exact ⟨xs, q, q2.push hP⟩
      | oth u => exact RO2.push hP h3
    · have hl : i = φ.length := by
        have := (List.getElem?_eq_some_iff.mp h1).1
        rw [List.length_append, List.length_singleton] at this
        omega
      subst hl
      rw [List.getElem?_append_right (Nat.le_refl _), Nat.sub_self] at h1
      rw [r.len, List.getElem?_append_right (Nat.le_refl _), Nat.sub_self] at h2
      cases h1
      cases h2
      refine ⟨ht, #[], hP, True.intro, fun pos cv hc => ?_⟩
      have z : codeAmong pos [] = some cv := hc
      simp [codeAmong] at z
end
end ML
namespace ML
open PySem PySem.Spec L2 PyProof.Rows
def mDGet2 (mo mi mx : MX) : MX := fun ρ st => (mo ρ st).bind fun d st1 => if isDA d st1 = true then (mi ρ st1).bind fun b st2 => (mx ρ st2).bind fun z st3 => match askD d b st3 with
  | some o => .ok (o.getD z) st3
  | none => .bad else .bad
section
variable {X : Cx}
theorem me_dget2 {o e f : Expr} {apos cpos : Pos} {mo mi mx : MX} {W : WX} (hu : X.A.units + 64 < cLine) (ho : PE X o (tE X W mo)) (he : PE X e (tE X W mi)) (hf : PE X f (tE X W mx)) (m : M2 X o "get" apos e f cpos) : PE X (.Call (.Attribute o "get" apos) [e, f] [] cpos) (tE X W (mDGet2 mo mi mx)) := by
  refine ⟨fun pins s σ H Q I ⟨φ, ρ, st, rs, re, h⟩ => ?_⟩
  refine wpAny_Call_method m.base m.few m.line PySem.F.plainAttrs_dict PySem.F.slot_dict_get PySem.F.type_dict_get (thn (ho.run pins s σ H (fun x H1 => (∃ φ st d, RS X.K X.w X.mg φ H1 st ∧ RV X.K φ H1 x d ∧ isDA d st = true) ∧ tE X W mi σ H1 fun y H2 => tE X W mx σ H2 fun z H3 => ∃ φ st d b a o, RS X.K X.w X.mg φ H3 st ∧ RV X.K φ H3 x d ∧ RV X.K φ H3 y b ∧ RV X.K φ H3 z a ∧ askD d b st = some o ∧ ∀ w, RV X.K φ H3 w (o.getD a) → Q w H3) I ⟨φ, ρ, st, rs, re, h.seq fun φ1 d x H1 st1 e1 rs1 rv1 h1 => ?_⟩) fun u s1 ⟨x, H1, I1, rx, ⟨φ1, st1, d1, rs1, rd1, hd1⟩, q1⟩ => ?_)
  · by_cases c : isDA d st1 = true
    · rw [if_pos c] at h1
      refine ⟨⟨φ1, st1, d, rs1, rv1, c⟩, φ1, ρ, st1, rs1, re.ext e1, h1.seq fun φ2 b y H2 st2 e2 rs2 rv2 h2 => ⟨φ2, ρ, st2, rs2, (re.ext e1).ext e2, h2.seq fun φ3 a z H3 st3 e3 rs3 rv3 h3 => ?_⟩⟩
      cases e : askD d b st3 with
      | none => rw [e] at h3; exact h3.elim
      | some o =>
        rw [e] at h3
        exact ⟨φ3, st3, d, b, a, o, rs3, (rv1.ext e2).ext e3, rv2.ext e3, rv3, e, fun w rw' => h3.ok rs3 rw'⟩
    · rw [if_neg c] at h1
      exact h1.elim
  · obtain ⟨t1, t2⟩ := isDA_ok I1 rs1 rd1 hd1 rx
    refine ⟨t1, t2, ?_⟩
    rw [m.trees]
    refine Calls.callWith_builtin rfl (Calls.evalArgs_plain (Calls.spliced_cons (thn (he.run pins s1 σ H1 _ I1 q1) fun iv s2 ⟨y, H2, I2, ry, q2⟩ => Calls.spliced_cons (thn (hf.run pins s2 σ H2 _ I2 q2) fun fv s3 ⟨z, H3, I3, rz, φ3, st3, d, b, a0, o, rs3, rd, rb, rza, hv, q3⟩ => Calls.spliced_nil ?_))))
    obtain ⟨a, rfl, ⟨ov, g, r⟩ | ⟨k, c, xs, rfl, g1, g2, g3, ov, r1, r2⟩⟩ := ask_run I3 rs3 rd rb hv rx ry
    · refine d_get2 (by omega) I3 g ry rz fun w' s4 I4 rw' => ⟨_, H3, I4, rw', q3 _ ?_⟩
      cases ov <;> cases o <;> first | exact r.elim | exact rza | exact r
    · refine call_meetsIn PySem.F.slot_dict_get g2.typeIs PySem.F.entry_dict_get (PySem.F.args_dict_get_3 _ _ _) (meetsH_dict_get_default (nestedKind X.prog X.w) a c g3 fv) ⟨by show X.A.in1.units + 8 < _; show X.A.units + 1 + 8 < _; omega, k, xs, g1, g2, ov.getD z, H3, I3.tok _, r1.getD rz, q3 _ ?_⟩
      cases ov <;> cases o <;> first | exact r2.elim | exact rza | exact r2
end
end ML
namespace ML
open PySem PySem.Spec L2 PyProof.Rows
def rawD (kvs : List (NestedKey × A)) : Bool := !kvs.isEmpty && kvs.all fun kv => tupK kv.1
def mForT (i : Nat) (tg : Tg) (body : MS) : MS := fun ρ st => match ρ[i]? with
  | some (some (.ref r)) => match stD st r with
    | some kvs => if (flatD kvs || rawD kvs) = true then unlockS r (mFor (mKeysF i) tg body ρ (st.set r (.oth (.frd kvs)))) else .bad
    | none => .bad
  | _ => .bad
theorem raw_dt {K : PySem.W.Frag} {w : World} {φ : List Addr} {H : Hp} {a : Addr} {kvs : List (NestedKey × A)} (hf : rawD kvs = true) (h : RDk K φ H a kvs ∨ RDt K w φ H a kvs) : RDt K w φ H a kvs := by
  rcases h with ⟨ks, h1, h2, h3⟩ | h
  · exfalso
    unfold rawD at hf
    rw [Bool.and_eq_true, List.all_eq_true] at hf
    cases kvs with
    | nil => cases hf.1
    | cons q kvs =>
      cases ks with
      | nil => simp at h2
      | cons y ks =>
        simp only [List.map_cons, List.cons.injEq] at h2
        have := hf.2 q (by simp)
        rw [h2.1, nk_tup] at this
        cases this
  · exact h
section
variable {K : PySem.W.Frag} {w : World} {mg : Str → Option Value} {φ φ' : List Addr} {H H' : Hp} {st : Store}
theorem RS.unlockR (r : RS K w mg φ H st) {i : Nat} {p : Addr} {od : Obj} {xs : List (NestedKey × Addr × Value)} {st1 : Store} (hp : φ[i]? = some p) (hz : H p = some (.frz od (.ext (DRaw w p xs)))) (e : unF i st = some st1) : RS K w mg φ (upd H p (.ext (DRaw w p xs))) st1 := by
  unfold unF at e
  cases q : stF st i with
  | none => rw [q] at e; cases e
  | some kvs =>
    rw [q] at e
    cases e
    have hm : p ∈ φ := List.mem_of_getElem? hp
    have ho := stF_eq q
    rcases r.all i p _ hp ho with ⟨od', ks', g1, g2, g3⟩ | ⟨od', xs', vs, g0, g1, g2, g3, g4, g5, g6, g7⟩
    · rw [hz] at g1
      cases g1
    · rw [hz] at g1
      refine ⟨by rw [List.length_set]; exact r.len, r.nd, fun j a v h1 h2 => ?_⟩
      have hn : ∀ b o, b ≠ p → upd H p (.ext (DRaw w p xs)) b = H b := fun b (o : HO) nb => upd_ne nb
      by_cases hj : i = j
      · subst hj
        rw [hp] at h1
        cases h1
        rw [List.getElem?_set_self (List.getElem?_eq_some_iff.mp ho).1] at h2
        cases h2
        have e3 : HO.ext (DRaw w p xs) = HO.ext (DRaw w p xs') := (HO.frz.inj (Option.some.inj g1)).2
        refine .inr ⟨xs', vs, g0, ?_, g2, g3, g4, fun x hx => ⟨RV.up hm (g5 x hx).1, (g5 x hx).2⟩, g6, RVs.up hm g7⟩
        rw [upd_same, e3]
      · rw [List.getElem?_set_ne hj] at h2
        have h3 := r.all j a v h1 h2
        have na : a ≠ p := fun z => by
          subst z
          obtain ⟨l1, e1⟩ := List.getElem?_eq_some_iff.mp hp
          obtain ⟨l2, e2⟩ := List.getElem?_eq_some_iff.mp h1
          exact hj ((List.getElem_inj r.nd).mp (e1.trans e2.symm))
        cases v with
        | lst ds' =>
          obtain ⟨zs, y1, y2⟩ := h3
          exact ⟨zs, by rw [upd_ne na]; exact y1, RVs.up hm y2⟩
        | oth u =>
          exact RO2.map (fun _ _ => RV.up hm) (fun _ _ => RVs.up hm) (upd_ne na) (fun dx o n q _ => ⟨by
            rw [upd_ne (show dx ≠ p from fun z => n (by rw [z]; exact hm))]
            exact q, n⟩) h3
theorem Ext.unlockR {p : Addr} {od : Obj} {f : Heap → Prop} (hm : p ∈ φ) (hk : H p = some (.ext f)) (e : Ext φ (upd H p (.frz od (.ext f))) φ' H') : Ext φ H φ' (upd H' p (.ext f)) := ⟨e.pre, fun a o n q => by
    have ne : a ≠ p := fun z => n (z ▸ hm)
    obtain ⟨y1, y2⟩ := e.fr a o n (by rw [upd_ne ne]; exact q)
    exact ⟨by rw [upd_ne ne]; exact y1, y2⟩, fun a o u q => by
    have ne : a ≠ p := fun z => by rw [z, hk] at q; cases q
    rw [upd_ne ne]
    exact e.fz a o u (by rw [upd_ne ne]; exact q)⟩
end
section
variable {X : Cx} {W : WX} {i : Nat} {tg e : Expr} {pos : Pos}
theorem ms_forT {body : List Stmt} {T : Tg} {mb : MS} (hp : PassesOwn (model X.prog X.w) X.A X.env X.xe) (he : PE X e (tE X W (mVar i))) (hg : PG X tg (gOf X.K T)) (hb : PSs X body (tS X W mb))
    (hc : X.calm = true := by rfl) (hs : ∀ x, foldedSetIterable e X.env x = pure x := by intro _; rfl) : PS X (.For tg e body [] pos) (tS X W (mForT i T mb)) := (ps_lock (ms_for hp (mi_keysF he) hg hb hc hs)).imp fun D σ H ⟨φ, ρ, st, rs, re, h⟩ => by
  unfold mForT at h
  cases q : ρ[i]? with
  | none => rw [q] at h; exact h.elim
  | some o =>
    cases o with
    | none => rw [q] at h; exact h.elim
    | some a =>
      rw [q] at h
      cases a with
      | ref r =>
        simp only at h
        cases e1 : stD st r with
        | none => rw [e1] at h; exact h.elim
        | some kvs =>
          rw [e1] at h
          simp only at h
          split at h
          · rename_i hfr
            obtain ⟨v, hv1, hv2⟩ := re.all i _ q
            cases hv2 with
            | @ref p _ qp =>
              by_cases hf : flatD kvs = true
              · obtain ⟨ks, g1, g2, g3⟩ := flat_dk hf (rs.dct qp e1)
                have hm : p ∈ φ := List.mem_of_getElem? qp
                have hn : ∀ od u, H p ≠ some (.frz od u) := fun od u z => by rw [g1] at z; cases z
                refine ⟨p, .dK ks, g1, True.intro, fun od => ?_⟩
                have ex : Ext φ H φ (upd H p (.frz od (.dK ks))) := ext_write qp hn
                refine ⟨φ, ρ, st.set r (.oth (.frd kvs)), rs.writeO qp (stD_eq e1) hn (.inl ⟨od, ks, upd_same, g2, g3.ext ex⟩), re.ext ex, ?_⟩
                cases q2 : mFor (mKeysF i) T mb ρ (st.set r (.oth (.frd kvs))) with
                | nx ρ1 st1 =>
                  rw [q2] at h
                  unfold unlockS at h
                  simp only at h
                  cases q3 : unF r st1 with
                  | none => rw [q3] at h; exact h.elim
                  | some st2 =>
                    rw [q3] at h
                    intro φ1 σ1 H1 ex1 rs1 re1
                    have hz := ex1.fz _ _ _ (upd_same (H := H) (a := p))
                    have hp1 := ex1.get qp
                    exact ⟨hz, h φ1 σ1 _ (ex1.unlock hm g1) (rs1.unlock hp1 hz q3) (re1.up (List.mem_of_getElem? hp1))⟩
                | bk ρ1 st1 =>
                  rw [q2] at h
                  unfold unlockS at h
                  simp only at h
                  cases q3 : unF r st1 with
                  | none => rw [q3] at h; exact h.elim
                  | some st2 =>
                    rw [q3] at h
                    intro φ1 σ1 H1 ex1 rs1 re1
                    have hz := ex1.fz _ _ _ (upd_same (H := H) (a := p))
                    have hp1 := ex1.get qp
                    exact ⟨hz, h φ1 σ1 _ (ex1.unlock hm g1) (rs1.unlock hp1 hz q3) (re1.up (List.mem_of_getElem? hp1))⟩
                | ct ρ1 st1 =>
                  rw [q2] at h
                  unfold unlockS at h
                  simp only at h
                  cases q3 : unF r st1 with
                  | none => rw [q3] at h; exact h.elim
                  | some st2 =>
                    rw [q3] at h
                    intro φ1 σ1 H1 ex1 rs1 re1
                    have hz := ex1.fz _ _ _ (upd_same (H := H) (a := p))
                    have hp1 := ex1.get qp
                    exact ⟨hz, h φ1 σ1 _ (ex1.unlock hm g1) (rs1.unlock hp1 hz q3) (re1.up (List.mem_of_getElem? hp1))⟩
                | rt a st1 =>
                  rw [q2] at h
                  unfold unlockS at h
                  simp only at h
                  cases q3 : unF r st1 with
                  | none => rw [q3] at h; exact h.elim
                  | some st2 =>
                    rw [q3] at h
                    intro φ1 v H1 ex1 rs1 rv1
                    have hz := ex1.fz _ _ _ (upd_same (H := H) (a := p))
                    have hp1 := ex1.get qp
                    exact ⟨hz, h φ1 v _ (ex1.unlock hm g1) (rs1.unlock hp1 hz q3) (RV.up (List.mem_of_getElem? hp1) rv1)⟩
                | er x ρ1 st1 => rw [q2] at h; exact h.elim
                | bad => rw [q2] at h; exact h.elim
              · have hf : rawD kvs = true := by
                  rw [Bool.or_eq_true] at hfr
                  exact hfr.resolve_left hf
                obtain ⟨xs, vs, g0, g1, g2, g3, g4, g5, g6, g7⟩ := raw_dt hf (rs.dct qp e1)
                have hm : p ∈ φ := List.mem_of_getElem? qp
                have hn : ∀ od u, H p ≠ some (.frz od u) := fun od u z => by rw [g1] at z; cases z
                refine ⟨p, .ext (DRaw X.w p xs), g1, True.intro, fun od => ?_⟩
                have ex : Ext φ H φ (upd H p (.frz od (.ext (DRaw X.w p xs)))) := ext_write qp hn
                refine ⟨φ, ρ, st.set r (.oth (.frd kvs)), rs.writeO qp (stD_eq e1) hn (.inr ⟨od, xs, vs, g0, upd_same, g2, g3, g4, fun x hx => ⟨(g5 x hx).1.ext ex, (g5 x hx).2⟩, g6, g7.ext ex⟩), re.ext ex, ?_⟩
                cases q2 : mFor (mKeysF i) T mb ρ (st.set r (.oth (.frd kvs))) with
                | nx ρ1 st1 =>
                  rw [q2] at h
                  unfold unlockS at h
                  simp only at h
                  cases q3 : unF r st1 with
                  | none => rw [q3] at h; exact h.elim
                  | some st2 =>
                    rw [q3] at h
                    intro φ1 σ1 H1 ex1 rs1 re1
                    have hz := ex1.fz _ _ _ (upd_same (H := H) (a := p))
                    have hp1 := ex1.get qp
                    exact ⟨hz, h φ1 σ1 _ (ex1.unlockR hm g1) (rs1.unlockR hp1 hz q3) (re1.up (List.mem_of_getElem? hp1))⟩
                | bk ρ1 st1 =>
                  rw [q2] at h
                  unfold unlockS at h
                  simp only at h
                  cases q3 : unF r st1 with
                  | none => rw [q3] at h; exact h.elim
                  | some st2 =>
                    rw [q3] at h
                    intro φ1 σ1 H1 ex1 rs1 re1
                    have hz := ex1.fz _ _ _ (upd_same (H := H) (a := p))
                    have hp1 := ex1.get qp
                    exact ⟨hz, h φ1 σ1 _ (ex1.unlockR hm g1) (rs1.unlockR hp1 hz q3) (re1.up (List.mem_of_getElem? hp1))⟩
                | ct ρ1 st1 =>
                  rw [q2] at h
                  unfold unlockS at h
                  simp only at h
                  cases q3 : unF r st1 with
                  | none => rw [q3] at h; exact h.elim
                  | some st2 =>
                    rw [q3] at h
                    intro φ1 σ1 H1 ex1 rs1 re1
                    have hz := ex1.fz _ _ _ (upd_same (H := H) (a := p))
                    have hp1 := ex1.get qp
                    exact ⟨hz, h φ1 σ1 _ (ex1.unlockR hm g1) (rs1.unlockR hp1 hz q3) (re1.up (List.mem_of_getElem? hp1))⟩
                | rt a st1 =>
                  rw [q2] at h
                  unfold unlockS at h
                  simp only at h
                  cases q3 : unF r st1 with
                  | none => rw [q3] at h; exact h.elim
                  | some st2 =>
                    rw [q3] at h
                    intro φ1 v H1 ex1 rs1 rv1
                    have hz := ex1.fz _ _ _ (upd_same (H := H) (a := p))
                    have hp1 := ex1.get qp
                    exact ⟨hz, h φ1 v _ (ex1.unlockR hm g1) (rs1.unlockR hp1 hz q3) (RV.up (List.mem_of_getElem? hp1) rv1)⟩
                | er x ρ1 st1 => rw [q2] at h; exact h.elim
                | bad => rw [q2] at h; exact h.elim
          · exact h.elim
      | _ => exact h.elim
end
end ML
namespace ML
open PySem L2
def R.wp {α : Type} (r : R α) (Q : α → Store → Prop) : Prop := match r with
  | .ok a st => Q a st
  | _ => False
def SR.wp (r : SR) (N B C : Env → Store → Prop) (Rt : A → Store → Prop) : Prop := match r with
  | .nx ρ st => N ρ st
  | .bk ρ st => B ρ st
  | .ct ρ st => C ρ st
  | .rt a st => Rt a st
  | .er _ _ _ => False
  | .bad => False
abbrev NoS : Env → Store → Prop := fun _ _ => False
section
variable {α β : Type} {Q : A → Store → Prop} {QB : Bool → Store → Prop} {ρ : Env} {st : Store} {N B C : Env → Store → Prop} {Rt : A → Store → Prop}
theorem R.wp.ex {r : R α} {Q : α → Store → Prop} (h : r.wp Q) : ∃ a st, r = .ok a st ∧ Q a st := by
  cases r with
  | ok a st => exact ⟨a, st, rfl, h⟩
  | er e st => exact h.elim
  | bad => exact h.elim
theorem R.wp.imp {r : R α} {Q Q' : α → Store → Prop} (h : r.wp Q) (k : ∀ a st, Q a st → Q' a st) : r.wp Q' := by
  cases r with
  | ok a st => exact k _ _ h
  | er e st => exact h.elim
  | bad => exact h.elim
theorem SR.wp.imp {r : SR} {N' B' C' : Env → Store → Prop} {Rt' : A → Store → Prop} (h : r.wp N B C Rt) (k1 : ∀ ρ st, N ρ st → N' ρ st) (k2 : ∀ ρ st, B ρ st → B' ρ st) (k3 : ∀ ρ st, C ρ st → C' ρ st) (k4 : ∀ a st, Rt a st → Rt' a st) : r.wp N' B' C' Rt' := by
  cases r with
  | nx ρ st => exact k1 _ _ h
  | bk ρ st => exact k2 _ _ h
  | ct ρ st => exact k3 _ _ h
  | rt a st => exact k4 _ _ h
  | er e ρ st => exact h.elim
  | bad => exact h.elim
@[simp] theorem wp_ok {a : α} {Q : α → Store → Prop} : (R.ok a st).wp Q ↔ Q a st := Iff.rfl
@[simp] theorem wp_bad {Q : α → Store → Prop} : (R.bad : R α).wp Q ↔ False := Iff.rfl
theorem wp_bind {r : R α} {f : α → Store → R β} {Q : β → Store → Prop} : (r.bind f).wp Q ↔ r.wp fun a st => (f a st).wp Q := by
  cases r <;> rfl
theorem wp_toS {r : R α} {f : α → Store → SR} : (r.toS ρ f).wp N B C Rt ↔ r.wp fun a st => (f a st).wp N B C Rt := by
  cases r <;> rfl
theorem wp_if {c : Prop} [Decidable c] {r r' : R α} {Q : α → Store → Prop} : (if c then r else r').wp Q ↔ if c then r.wp Q else r'.wp Q := by split <;> rfl
theorem sp_if {c : Prop} [Decidable c] {r r' : SR} : (if c then r else r').wp N B C Rt ↔ if c then r.wp N B C Rt else r'.wp N B C Rt := by split <;> rfl
theorem sp_nx : (SR.nx ρ st).wp N B C Rt ↔ N ρ st := Iff.rfl
@[simp] theorem sp_seq {m1 m2 : MS} : (mSeq m1 m2 ρ st).wp N B C Rt ↔ (m1 ρ st).wp (fun ρ st => (m2 ρ st).wp N B C Rt) B C Rt := by
  unfold mSeq
  cases m1 ρ st <;> rfl
theorem seq_cut {m1 m2 : MS} (I : Env → Store → Prop) (h1 : (m1 ρ st).wp I (fun _ _ => False) (fun _ _ => False) (fun _ _ => False)) (h2 : ∀ ρ st, I ρ st → (m2 ρ st).wp N B C Rt) : (mSeq m1 m2 ρ st).wp N B C Rt := by
  rw [sp_seq]
  exact h1.imp h2 (fun _ _ h => h.elim) (fun _ _ h => h.elim) (fun _ _ h => h.elim)
@[simp] theorem wp_fn {n k : Nat} {body : MS} {as : List A} : (mFn n k body as st).wp Q ↔ as.length = k ∧ (body (as.map some ++ List.replicate (n - k) none) st).wp (fun _ st => Q .non st) NoS NoS Q := by
  unfold mFn
  by_cases h : as.length = k
  · rw [if_pos h]
    cases body (as.map some ++ List.replicate (n - k) none) st <;> simp [R.wp, SR.wp, h, NoS]
  · rw [if_neg h]
    simp [R.wp, h]
@[simp] theorem wp_var {i : Nat} : (mVar i ρ st).wp Q ↔ ∃ a, ρ[i]? = some (some a) ∧ Q a st := by
  unfold mVar
  cases e : ρ[i]? with
  | none => simp [R.wp]
  | some o => cases o <;> simp [R.wp]
@[simp] theorem wp_c {a : A} : (mC a ρ st).wp Q ↔ Q a st := Iff.rfl
@[simp] theorem wp_bin {g : A → A → Store → R A} {ma mb : MX} : (mBin g ma mb ρ st).wp Q ↔ (ma ρ st).wp fun x st1 => (mb ρ st1).wp fun y st2 => (g x y st2).wp Q := by
  unfold mBin
  rw [wp_bind]
  simp only [wp_bind]
@[simp] theorem wp_un {g : A → Store → R A} {ma : MX} : (mUn g ma ρ st).wp Q ↔ (ma ρ st).wp fun x st1 => (g x st1).wp Q := by
  unfold mUn
  rw [wp_bind]
@[simp] theorem wp_tru {ma : MX} : (mTru ma ρ st).wp QB ↔ (ma ρ st).wp fun x st1 => (truA x st1).wp QB := by
  unfold mTru
  rw [wp_bind]
@[simp] theorem wp_gb {ma : MX} : (mGB ma ρ st).wp QB ↔ (ma ρ st).wp fun x st1 => (getB x st1).wp QB := by
  unfold mGB
  rw [wp_bind]
@[simp] theorem wp_and {ma mb : MT} : (mAnd ma mb ρ st).wp QB ↔ (ma ρ st).wp fun x st1 => if x = true then (mb ρ st1).wp QB else QB false st1 := by
  unfold mAnd
  simp only [wp_bind, wp_if, wp_ok]
@[simp] theorem wp_or {ma mb : MT} : (mOr ma mb ρ st).wp QB ↔ (ma ρ st).wp fun x st1 => if x = true then QB true st1 else (mb ρ st1).wp QB := by
  unfold mOr
  simp only [wp_bind, wp_if, wp_ok]
@[simp] theorem wp_not {ma : MT} : (mNot ma ρ st).wp QB ↔ (ma ρ st).wp fun x st1 => QB (!x) st1 := by
  unfold mNot
  simp only [wp_bind, wp_ok]
@[simp] theorem wp_andV {ma mb : MX} : (mAndV ma mb ρ st).wp Q ↔ (ma ρ st).wp fun x st1 => (getB x st1).wp fun k st2 => if k = true then (mb ρ st2).wp Q else Q (.bl false) st2 := by
  unfold mAndV
  simp only [wp_bind, wp_if, wp_ok]
variable {QA : List A → Store → Prop}
@[simp] theorem wp_nil : (mNil ρ st).wp QA ↔ QA [] st := Iff.rfl
@[simp] theorem wp_cons {ma : MX} {mr : MA} : (mCons ma mr ρ st).wp QA ↔ (ma ρ st).wp fun x st1 => (mr ρ st1).wp fun xs st2 => QA (x :: xs) st2 := by
  unfold mCons
  simp only [wp_bind, wp_ok]
@[simp] theorem wp_tup {ms : MA} : (mTup ms ρ st).wp Q ↔ (ms ρ st).wp fun xs st1 => xs.length ≤ sizeLine ∧ Q (.tup xs) st1 := by
  unfold mTup
  simp only [wp_bind, wp_if, wp_ok, wp_bad]
  have : ∀ (xs : List A) (st1 : Store), (if xs.length ≤ sizeLine then Q (.tup xs) st1 else False) ↔ (xs.length ≤ sizeLine ∧ Q (.tup xs) st1) := fun xs st1 => by
    by_cases h : xs.length ≤ sizeLine <;> simp [h]
  simp only [this]
@[simp] theorem wp_lst {ms : MA} : (mLst ms ρ st).wp Q ↔ (ms ρ st).wp fun xs st1 => xs.length ≤ sizeLine ∧ Q (.ref st1.length) (st1 ++ [.lst xs]) := by
  unfold mLst
  simp only [wp_bind, wp_if, wp_ok, wp_bad]
  have : ∀ (xs : List A) (st1 : Store), (if xs.length ≤ sizeLine then Q (.ref st1.length) (st1 ++ [.lst xs]) else False) ↔ (xs.length ≤ sizeLine ∧ Q (.ref st1.length) (st1 ++ [.lst xs])) := fun xs st1 => by
    by_cases h : xs.length ≤ sizeLine <;> simp [h]
  simp only [this]
@[simp] theorem wp_ca {g : List A → Store → R A} {ms : MA} : (mCa g ms ρ st).wp Q ↔ (ms ρ st).wp fun xs st1 => (g xs st1).wp Q := by
  unfold mCa
  rw [wp_bind]
@[simp] theorem wp_call {m : MF} {ms : MA} : (mCall m ms ρ st).wp Q ↔ (ms ρ st).wp fun xs st1 => (m xs st1).wp Q := by
  unfold mCall
  rw [wp_bind]
variable {QO : Option Int → Store → Prop}
@[simp] theorem wp_noPart : (mNoPart ρ st).wp QO ↔ QO none st := Iff.rfl
@[simp] theorem wp_part {m : MX} : (mPart m ρ st).wp QO ↔ (m ρ st).wp fun x st1 => (getI x st1).wp fun i st2 => QO (some i) st2 := by
  unfold mPart
  simp only [wp_bind, wp_ok]
@[simp] theorem wp_sl {ma : MX} {ml mh : MO} : (mSl ma ml mh ρ st).wp Q ↔ (ma ρ st).wp fun x st1 => (ml ρ st1).wp fun lo st2 => (mh ρ st2).wp fun hi st3 => (slA x lo hi st3).wp Q := by
  unfold mSl
  simp only [wp_bind]
@[simp] theorem wp_bm {g : A → List A → Store → R A} {mo : MX} {ms : MA} : (mBm g mo ms ρ st).wp Q ↔ (mo ρ st).wp fun x st1 => isL x st1 = true ∧ (ms ρ st1).wp fun xs st2 => (g x xs st2).wp Q := by
  unfold mBm
  simp only [wp_bind, wp_if, wp_bad]
  have : ∀ (x : A) (st1 : Store), (if isL x st1 = true then (ms ρ st1).wp fun xs st2 => (g x xs st2).wp Q else False) ↔ (isL x st1 = true ∧ (ms ρ st1).wp fun xs st2 => (g x xs st2).wp Q) := fun x st1 => by
    by_cases h : isL x st1 = true <;> simp [h]
  simp only [this]
@[simp] theorem sp_set {i : Nat} {ma : MX} : (mSet i ma ρ st).wp N B C Rt ↔ (ma ρ st).wp fun a st1 => N (ρ.set i (some a)) st1 := by
  unfold mSet
  rw [wp_toS]
  rfl
@[simp] theorem sp_asg {tg : Tg} {ma : MX} : (mAsg tg ma ρ st).wp N B C Rt ↔ (ma ρ st).wp fun a st1 => ∃ ρ', asgT tg a ρ st1 = some ρ' ∧ N ρ' st1 := by
  unfold mAsg
  cases ma ρ st with
  | ok a st1 =>
    show SR.wp (match asgT tg a ρ st1 with
      | some ρ' => .nx ρ' st1
      | none => .bad) N B C Rt ↔ ∃ ρ', asgT tg a ρ st1 = some ρ' ∧ N ρ' st1
    cases asgT tg a ρ st1 <;> simp [SR.wp]
  | _ => rfl
@[simp] theorem sp_expr {ma : MX} : (mExpr ma ρ st).wp N B C Rt ↔ (ma ρ st).wp fun _ st1 => N ρ st1 := by
  unfold mExpr
  rw [wp_toS]
  rfl
@[simp] theorem sp_ret {ma : MX} : (mRet ma ρ st).wp N B C Rt ↔ (ma ρ st).wp Rt := by
  unfold mRet
  rw [wp_toS]
  rfl
@[simp] theorem sp_retN : (mRetN ρ st).wp N B C Rt ↔ Rt .non st := Iff.rfl
@[simp] theorem sp_next : (mNext ρ st).wp N B C Rt ↔ N ρ st := Iff.rfl
@[simp] theorem sp_ifs {c : MT} {m1 m2 : MS} : (mIfS c m1 m2 ρ st).wp N B C Rt ↔ (c ρ st).wp fun b st1 => if b = true then (m1 ρ st1).wp N B C Rt else (m2 ρ st1).wp N B C Rt := by
  unfold mIfS
  rw [wp_toS]
  simp only [sp_if]
@[simp] theorem sp_put {mo mi ma : MX} : (mPut mo mi ma ρ st).wp N B C Rt ↔ (ma ρ st).wp fun d st1 => (mo ρ st1).wp fun o st2 => (mi ρ st2).wp fun i st3 => ∃ st4, setA o i d st3 = some st4 ∧ N ρ st4 := by
  unfold mPut
  cases ma ρ st with
  | ok d st1 =>
    show ((mo ρ st1).toS ρ _).wp N B C Rt ↔ (mo ρ st1).wp _
    cases mo ρ st1 with
    | ok o st2 =>
      show ((mi ρ st2).toS ρ _).wp N B C Rt ↔ (mi ρ st2).wp _
      cases mi ρ st2 with
      | ok i st3 =>
        show SR.wp (match setA o i d st3 with
          | some st4 => .nx ρ st4
          | none => .bad) N B C Rt ↔ ∃ st4, setA o i d st3 = some st4 ∧ N ρ st4
        cases setA o i d st3 <;> simp [SR.wp]
      | _ => rfl
    | _ => rfl
  | _ => rfl
@[simp] theorem sp_aug {i : Nat} {g : A → A → Store → R A} {ma : MX} : (mAug i g ma ρ st).wp N B C Rt ↔ (mVar i ρ st).wp fun x st0 => (ma ρ st0).wp fun y st1 => (g x y st1).wp fun z st2 => N (ρ.set i (some z)) st2 := by
  simp only [mAug, wp_toS, sp_nx]
@[simp] theorem sp_for {ms : Env → Store → R Src} {tg : Tg} {body : MS} : (mFor ms tg body ρ st).wp N B C Rt ↔ (ms ρ st).wp fun s st1 => (loopF s tg body (s.size st1 + 1) 0 ρ st1).wp N B C Rt := by
  unfold mFor
  rw [wp_toS]
@[simp] theorem wp_rng {ms : MA} {QS : Src → Store → Prop} : (mRng ms ρ st).wp QS ↔ (ms ρ st).wp fun xs st1 => (rngA xs st1).wp QS := by
  unfold mRng
  rw [wp_bind]
@[simp] theorem wp_src {ma : MX} {QS : Src → Store → Prop} : (mSrc ma ρ st).wp QS ↔ (ma ρ st).wp fun x st1 => (srcA x st1).wp QS := by
  unfold mSrc
  rw [wp_bind]
@[simp] theorem wp_zip {ms : MA} {QS : Src → Store → Prop} : (mZip ms ρ st).wp QS ↔ (ms ρ st).wp fun xs st1 => (zipA xs st1).wp QS := by
  unfold mZip
  rw [wp_bind]
theorem loop_wp {s : Src} {tg : Tg} {body : MS} (n : Nat) (it : Nat → A) (I : Nat → Env → Store → Prop) (hat : ∀ i ρ st, I i ρ st → (i < n → s.at i st = some (some (it i))) ∧ (¬ i < n → s.at i st = some none))
    (hs : ∀ i ρ st, i < n → I i ρ st → ∃ ρ1, asgT tg (it i) ρ st = some ρ1 ∧ (body ρ1 st).wp (I (i + 1)) N (I (i + 1)) Rt) (hd : ∀ ρ st, I n ρ st → N ρ st) :
    ∀ (k i : Nat) (ρ : Env) (st : Store), i + k = n + 1 → i ≤ n → I i ρ st → (loopF s tg body k i ρ st).wp N B C Rt
  | 0, i, ρ, st, hk, hi, h => by omega
  | k + 1, i, ρ, st, hk, hle, h => by
    unfold loopF
    by_cases hi : i < n
    · rw [(hat i ρ st h).1 hi]
      obtain ⟨ρ1, e, hb⟩ := hs i ρ st hi h
      simp only [e]
      cases q : body ρ1 st with
      | nx ρ2 st2 => rw [q] at hb; exact loop_wp n it I hat hs hd k (i + 1) ρ2 st2 (by omega) (by omega) hb
      | ct ρ2 st2 => rw [q] at hb; exact loop_wp n it I hat hs hd k (i + 1) ρ2 st2 (by omega) (by omega) hb
      | bk ρ2 st2 => rw [q] at hb; exact hb
      | rt a st2 => rw [q] at hb; exact hb
      | er e ρ2 st2 => rw [q] at hb; exact hb.elim
      | bad => rw [q] at hb; exact hb.elim
    · rw [(hat i ρ st h).2 hi]
      have : i = n := by omega
      subst this
      exact hd ρ st h
theorem for_rng {tg : Tg} {body : MS} {lo : Int} {n : Nat} (I : Nat → Env → Store → Prop) (h0 : I 0 ρ st)
    (hs : ∀ i ρ st, i < n → I i ρ st → ∃ ρ1, asgT tg (.int (lo + (i : Nat))) ρ st = some ρ1 ∧ (body ρ1 st).wp (I (i + 1)) N (I (i + 1)) Rt) (hd : ∀ ρ st, I n ρ st → N ρ st) :
    (loopF (.rng lo n) tg body (Src.size (.rng lo n) st + 1) 0 ρ st).wp N B C Rt :=
  loop_wp n (fun i => .int (lo + (i : Nat))) I (fun i ρ st _ => ⟨fun h => by simp [Src.at, h], fun h => by simp [Src.at, h]⟩) hs hd _ _ _ _ (by simp [Src.size]) (Nat.zero_le _) h0
theorem for_vals {tg : Tg} {body : MS} {xs : List A} (I : Nat → Env → Store → Prop) (h0 : I 0 ρ st)
    (hs : ∀ i x ρ st, xs[i]? = some x → I i ρ st → ∃ ρ1, asgT tg x ρ st = some ρ1 ∧ (body ρ1 st).wp (I (i + 1)) N (I (i + 1)) Rt) (hd : ∀ ρ st, I xs.length ρ st → N ρ st) :
    (loopF (.vals xs) tg body (Src.size (.vals xs) st + 1) 0 ρ st).wp N B C Rt :=
  loop_wp xs.length (fun i => xs.getD i .non) I (fun i ρ st _ => ⟨fun h => by simp [Src.at, h], fun h => by simp [Src.at]; omega⟩) (fun i ρ st h q => hs i _ ρ st (by simp [h]) q) hd _ _ _ _ (by simp [Src.size]) (Nat.zero_le _) h0
theorem for_lst {tg : Tg} {body : MS} {xs : List A} {r : Nat} (I : Nat → Env → Store → Prop) (hx : stL st r = some xs) (h0 : I 0 ρ st) (hl : ∀ i ρ st, I i ρ st → stL st r = some xs)
    (hs : ∀ i x ρ st, xs[i]? = some x → I i ρ st → ∃ ρ1, asgT tg x ρ st = some ρ1 ∧ (body ρ1 st).wp (I (i + 1)) N (I (i + 1)) Rt) (hd : ∀ ρ st, I xs.length ρ st → N ρ st) :
    (loopF (.lst r) tg body (Src.size (.lst r) st + 1) 0 ρ st).wp N B C Rt :=
  loop_wp xs.length (fun i => xs.getD i .non) I (fun i ρ st q => ⟨fun h => by simp [Src.at, hl i ρ st q, h], fun h => by simp [Src.at, hl i ρ st q]; omega⟩) (fun i ρ st h q => hs i _ ρ st (by simp [h]) q) hd _ _ _ _ (by simp [Src.size, hx]) (Nat.zero_le _) h0
theorem for_zipv {tg : Tg} {body : MS} {xs ys : List A} (I : Nat → Env → Store → Prop) (hl : ys.length ≤ xs.length) (h0 : I 0 ρ st)
    (hs : ∀ i x y ρ st, xs[i]? = some x → ys[i]? = some y → I i ρ st → ∃ ρ1, asgT tg (.tup [x, y]) ρ st = some ρ1 ∧ (body ρ1 st).wp (I (i + 1)) N (I (i + 1)) Rt) (hd : ∀ ρ st, I ys.length ρ st → N ρ st) :
    ∀ k, ys.length + 1 ≤ k → (loopF (.zipv xs ys) tg body k 0 ρ st).wp N B C Rt := fun k hk => by
  have key : ∀ (k i : Nat) (ρ : Env) (st : Store), ys.length + 1 ≤ i + k → i ≤ ys.length → I i ρ st → (loopF (.zipv xs ys) tg body k i ρ st).wp N B C Rt := by
    intro k
    induction k with
    | zero => intro i ρ st h1 h2; omega
    | succ k ih =>
      intro i ρ st h1 h2 h
      unfold loopF
      by_cases hi : i < ys.length
      · have e1 : xs[i]? = some xs[i] := List.getElem?_eq_getElem (by omega)
        have e2 : ys[i]? = some ys[i] := List.getElem?_eq_getElem hi
        have e3 : Src.at (.zipv xs ys) i st = some (some (.tup [xs[i], ys[i]])) := by simp only [Src.at, e1, e2]
        rw [e3]
        obtain ⟨ρ1, e, hb⟩ := hs i _ _ ρ st e1 e2 h
        simp only [e]
        cases q : body ρ1 st with
        | nx ρ2 st2 => rw [q] at hb; exact ih (i + 1) ρ2 st2 (by omega) (by omega) hb
        | ct ρ2 st2 => rw [q] at hb; exact ih (i + 1) ρ2 st2 (by omega) (by omega) hb
        | bk ρ2 st2 => rw [q] at hb; exact hb
        | rt a st2 => rw [q] at hb; exact hb
        | er e ρ2 st2 => rw [q] at hb; exact hb.elim
        | bad => rw [q] at hb; exact hb.elim
      · have e2 : ys[i]? = none := List.getElem?_eq_none (by omega)
        have e3 : Src.at (.zipv xs ys) i st = some none := by
          simp only [Src.at, e2]
          cases xs[i]? <;> rfl
        rw [e3]
        have : i = ys.length := by omega
        subst this
        exact hd ρ st h
  exact key k 0 ρ st (by omega) (Nat.zero_le _) h0
@[simp] theorem wp_yes : (mYes ρ st).wp QB ↔ QB true st := Iff.rfl
@[simp] theorem wipeA_nil {ρ : Env} : wipeA ρ [] = ρ := rfl
@[simp] theorem wipeA_cons {ρ : Env} {i : Nat} {l : List Nat} : wipeA ρ (i :: l) = (wipeA ρ l).set i none := rfl
@[simp] theorem wp_lc {mi : Env → Store → R Src} {tg : Tg} {own : List Nat} {tt : MT} {elt : MX} : (mLc mi tg own tt elt ρ st).wp Q ↔ (mi ρ st).wp fun s st1 => (loopC s tg own tt elt (wipeA ρ own) (s.size st1 + 1) 0 st1 []).wp fun xs st2 => Q (.ref st2.length) (st2 ++ [.lst xs]) := by
  simp only [mLc, wp_bind, wp_ok]
theorem lc_wp {s : Src} {tg : Tg} {own : List Nat} {tt : MT} {elt : MX} {ρ0 : Env} {QL : List A → Store → Prop} (n : Nat) (it : Nat → A) (I : Nat → Store → List A → Prop) (hat : ∀ i st acc, I i st acc → (i < n → s.at i st = some (some (it i))) ∧ (¬ i < n → s.at i st = some none))
    (hs : ∀ i st acc, i < n → I i st acc → ∃ ρ1, asgT tg (it i) ρ0 st = some ρ1 ∧ (tt ρ1 st).wp fun b st1 => if b = true then (elt ρ1 st1).wp fun y st2 => acc.length < sizeLine ∧ I (i + 1) st2 (acc ++ [y]) else I (i + 1) st1 acc)
    (hd : ∀ st acc, I n st acc → QL acc st) : ∀ (k i : Nat) (st : Store) (acc : List A), i + k = n + 1 → i ≤ n → I i st acc → (loopC s tg own tt elt ρ0 k i st acc).wp QL
  | 0, i, st, acc, hk, hi, h => by omega
  | k + 1, i, st, acc, hk, hle, h => by
    unfold loopC
    by_cases hi : i < n
    · rw [(hat i st acc h).1 hi]
      obtain ⟨ρ1, e, hb⟩ := hs i st acc hi h
      simp only [e]
      obtain ⟨b, st1, e1, hb⟩ := R.wp.ex hb
      simp only [e1]
      cases b with
      | false =>
        simp only [Bool.false_eq_true, if_false] at hb ⊢
        exact lc_wp n it I hat hs hd k (i + 1) st1 acc (by omega) (by omega) hb
      | true =>
        simp only [if_true] at hb ⊢
        obtain ⟨y, st2, e2, hz, hb⟩ := R.wp.ex hb
        simp only [e2, if_pos hz]
        exact lc_wp n it I hat hs hd k (i + 1) st2 (acc ++ [y]) (by omega) (by omega) hb
    · rw [(hat i st acc h).2 hi]
      have : i = n := by omega
      subst this
      exact hd st acc h
theorem lc_rng {tg : Tg} {own : List Nat} {tt : MT} {elt : MX} {ρ0 : Env} {lo : Int} {n : Nat} {QL : List A → Store → Prop} (I : Nat → Store → List A → Prop) (h0 : I 0 st [])
    (hs : ∀ i st acc, i < n → I i st acc → ∃ ρ1, asgT tg (.int (lo + (i : Nat))) ρ0 st = some ρ1 ∧ (tt ρ1 st).wp fun b st1 => if b = true then (elt ρ1 st1).wp fun y st2 => acc.length < sizeLine ∧ I (i + 1) st2 (acc ++ [y]) else I (i + 1) st1 acc)
    (hd : ∀ st acc, I n st acc → QL acc st) : (loopC (.rng lo n) tg own tt elt ρ0 (Src.size (.rng lo n) st + 1) 0 st []).wp QL :=
  lc_wp n (fun i => .int (lo + (i : Nat))) I (fun i st acc _ => ⟨fun h => by simp [Src.at, h], fun h => by simp [Src.at, h]⟩) hs hd _ _ _ _ (by simp [Src.size]) (Nat.zero_le _) h0
theorem lc_vals {tg : Tg} {own : List Nat} {tt : MT} {elt : MX} {ρ0 : Env} {xs : List A} {QL : List A → Store → Prop} (I : Nat → Store → List A → Prop) (h0 : I 0 st [])
    (hs : ∀ i x st acc, xs[i]? = some x → I i st acc → ∃ ρ1, asgT tg x ρ0 st = some ρ1 ∧ (tt ρ1 st).wp fun b st1 => if b = true then (elt ρ1 st1).wp fun y st2 => acc.length < sizeLine ∧ I (i + 1) st2 (acc ++ [y]) else I (i + 1) st1 acc)
    (hd : ∀ st acc, I xs.length st acc → QL acc st) : (loopC (.vals xs) tg own tt elt ρ0 (Src.size (.vals xs) st + 1) 0 st []).wp QL :=
  lc_wp xs.length (fun i => xs.getD i .non) I (fun i st acc _ => ⟨fun h => by simp [Src.at, h], fun h => by simp [Src.at]; omega⟩) (fun i st acc h q => hs i _ st acc (by simp [h]) q) hd _ _ _ _ (by simp [Src.size]) (Nat.zero_le _) h0
theorem lc_lst {tg : Tg} {own : List Nat} {tt : MT} {elt : MX} {ρ0 : Env} {xs : List A} {r : Nat} {QL : List A → Store → Prop} (I : Nat → Store → List A → Prop) (hx : stL st r = some xs) (h0 : I 0 st []) (hl : ∀ i st acc, I i st acc → stL st r = some xs)
    (hs : ∀ i x st acc, xs[i]? = some x → I i st acc → ∃ ρ1, asgT tg x ρ0 st = some ρ1 ∧ (tt ρ1 st).wp fun b st1 => if b = true then (elt ρ1 st1).wp fun y st2 => acc.length < sizeLine ∧ I (i + 1) st2 (acc ++ [y]) else I (i + 1) st1 acc)
    (hd : ∀ st acc, I xs.length st acc → QL acc st) : (loopC (.lst r) tg own tt elt ρ0 (Src.size (.lst r) st + 1) 0 st []).wp QL :=
  lc_wp xs.length (fun i => xs.getD i .non) I (fun i st acc q => ⟨fun h => by simp [Src.at, hl i st acc q, h], fun h => by simp [Src.at, hl i st acc q]; omega⟩) (fun i st acc h q => hs i _ st acc (by simp [h]) q) hd _ _ _ _ (by simp [Src.size, hx]) (Nat.zero_le _) h0
theorem while_wp {c : MT} {b : MS} (I : Env → Store → Prop) (μ : Env → Store → Nat) (hs : ∀ ρ st, I ρ st → (c ρ st).wp fun x st1 => if x = true then (b ρ st1).wp (fun ρ' st' => I ρ' st' ∧ μ ρ' st' < μ ρ st) N (fun ρ' st' => I ρ' st' ∧ μ ρ' st' < μ ρ st) Rt else N ρ st1) (h0 : I ρ st) : (mWhile c b ρ st).wp N B C Rt := by
  have key : ∀ (n : Nat) (ρ : Env) (st : Store), μ ρ st < n → I ρ st → (whileF n c b ρ st).wp N B C Rt := by
    intro n
    induction n with
    | zero => intro ρ st h; omega
    | succ n ih =>
      intro ρ st hn h
      unfold whileF
      obtain ⟨x, st1, e, hx⟩ := R.wp.ex (hs ρ st h)
      rw [e]
      simp only [R.toS]
      cases x with
      | false => exact hx
      | true =>
        simp only [if_true] at hx ⊢
        cases q : b ρ st1 with
        | nx ρ2 st2 => rw [q] at hx; exact ih ρ2 st2 (by have := hx.2; omega) hx.1
        | ct ρ2 st2 => rw [q] at hx; exact ih ρ2 st2 (by have := hx.2; omega) hx.1
        | bk ρ2 st2 => rw [q] at hx; exact hx
        | rt a st2 => rw [q] at hx; exact hx
        | er e ρ2 st2 => rw [q] at hx; exact hx.elim
        | bad => rw [q] at hx; exact hx.elim
  have h1 := key (μ ρ st + 1) ρ st (Nat.lt_succ_self _) h0
  rw [mWhile_of (μ ρ st + 1) rfl fun z => by rw [z] at h1; exact h1]
  exact h1
end
def Grown (st st' : Store) : Prop := ∃ g, st' = st ++ g
theorem Grown.refl (st : Store) : Grown st st := ⟨[], by simp⟩
theorem Grown.trans {a b c : Store} (h : Grown a b) (k : Grown b c) : Grown a c := by
  obtain ⟨g, rfl⟩ := h
  obtain ⟨g', rfl⟩ := k
  exact ⟨g ++ g', by simp⟩
theorem Grown.one (st : Store) (o : Ob) : Grown st (st ++ [o]) := ⟨[o], rfl⟩
theorem Grown.get {st st' : Store} (h : Grown st st') {i : Nat} {o : Ob} (e : st[i]? = some o) : st'[i]? = some o := by
  obtain ⟨g, rfl⟩ := h
  rw [List.getElem?_append_left (List.getElem?_eq_some_iff.mp e).1]
  exact e
theorem Grown.stL {st st' : Store} (h : Grown st st') {i : Nat} {xs : List A} (e : ML.stL st i = some xs) : ML.stL st' i = some xs := by
  unfold ML.stL
  rw [h.get (stL_eq e)]
theorem stL_of {st : Store} {i : Nat} {xs : List A} (e : st[i]? = some (.lst xs)) : stL st i = some xs := by
  unfold stL
  rw [e]
@[simp] theorem stL_new {st : Store} {xs : List A} : stL (st ++ [.lst xs]) st.length = some xs := stL_of (by simp)
section
variable {Q : A → Store → Prop} {QB : Bool → Store → Prop} {QI : Int → Store → Prop} {QS : Src → Store → Prop} {st : Store} {i j k : Int} {x y : Str} {xs ys : List A} {r q : Nat} {b c : Bool} {a d : A}
theorem w_if {p : Prop} [Decidable p] {α : Type} {v : α} {Q : α → Store → Prop} : (if p then R.ok v st else R.bad).wp Q ↔ p ∧ Q v st := by
  by_cases h : p <;> simp [h, R.wp]
@[simp] theorem w_add : (addA (.int i) (.int j) st).wp Q ↔ Q (.int (i + j)) st := Iff.rfl
@[simp] theorem w_addS : (addA (.str x) (.str y) st).wp Q ↔ x.length + y.length ≤ sizeLine ∧ Q (.str (x ++ y)) st := w_if
@[simp] theorem w_addT : (addA (.tup xs) (.tup ys) st).wp Q ↔ xs.length + ys.length ≤ sizeLine ∧ Q (.tup (xs ++ ys)) st := w_if
@[simp] theorem w_addL : (addA (.ref r) (.ref q) st).wp Q ↔ ∃ xs, stL st r = some xs ∧ ∃ ys, stL st q = some ys ∧ xs.length + ys.length ≤ sizeLine ∧ Q (.ref st.length) (st ++ [.lst (xs ++ ys)]) := by
  simp only [addA, stL]
  cases st[r]? with
  | none => simp [R.wp]
  | some o =>
    cases o with
    | oth u => simp [R.wp]
    | lst xs =>
      cases st[q]? with
      | none => simp [R.wp]
      | some o2 =>
        cases o2 with
        | oth u => simp [R.wp]
        | lst ys => simp [w_if]
@[simp] theorem w_sub : (subA (.int i) (.int j) st).wp Q ↔ Q (.int (i - j)) st := Iff.rfl
@[simp] theorem w_mul : (mulA (.int i) (.int j) st).wp Q ↔ CMulA i j ∧ Q (.int (i * j)) st := w_if
@[simp] theorem w_mulL : (mulA (.ref r) (.int k) st).wp Q ↔ ∃ xs, stL st r = some xs ∧ (-(2 ^ 63) ≤ k ∧ k < 2 ^ 63 ∧ xs.length * k.toNat ≤ sizeLine) ∧ Q (.ref st.length) (st ++ [.lst (List.replicate k.toNat xs).flatten]) := by
  simp only [mulA, stL]
  cases st[r]? with
  | none => simp [R.wp]
  | some o =>
    cases o with
    | oth u => simp [R.wp]
    | lst xs => simp only [w_if, Option.some.injEq, exists_eq_left']
@[simp] theorem w_mulT : (mulA (.tup xs) (.int k) st).wp Q ↔ (0 ≤ k ∧ k ≤ 1000000 ∧ xs.length * k.toNat ≤ sizeLine) ∧ Q (.tup (List.replicate k.toNat xs).flatten) st := w_if
@[simp] theorem w_fdiv : (fdivA (.int i) (.int j) st).wp Q ↔ (0 < j ∧ j.natAbs.log2 < 9000) ∧ Q (.int (i / j)) st := w_if
@[simp] theorem w_mod : (modA (.int i) (.int j) st).wp Q ↔ 0 < j ∧ Q (.int (i % j)) st := w_if
@[simp] theorem w_pow : (powA (.int i) (.int j) st).wp Q ↔ (0 ≤ j ∧ j ≤ 1000000 ∧ i.natAbs < 2 ^ 64) ∧ Q (.int (i ^ j.toNat)) st := w_if
@[simp] theorem w_and : (andA (.int i) (.int j) st).wp Q ↔ Q (.int (Builtin.bitAnd i j)) st := Iff.rfl
@[simp] theorem w_xor : (xorA (.int i) (.int j) st).wp Q ↔ Q (.int (Builtin.bitXor i j)) st := Iff.rfl
@[simp] theorem w_shr : (shrA (.int i) (.int j) st).wp Q ↔ 0 ≤ j ∧ Q (.int (i / 2 ^ j.toNat)) st := w_if
@[simp] theorem w_neg : (negA (.int i) st).wp Q ↔ Q (.int (-i)) st := Iff.rfl
@[simp] theorem w_lt : (ltA (.int i) (.int j) st).wp Q ↔ Q (.bl (decide (i < j))) st := Iff.rfl
@[simp] theorem w_gt : (gtA (.int i) (.int j) st).wp Q ↔ Q (.bl (decide (j < i))) st := Iff.rfl
@[simp] theorem w_ge : (geA (.int i) (.int j) st).wp Q ↔ Q (.bl (decide (j ≤ i))) st := Iff.rfl
@[simp] theorem w_ltS : (ltA (.str x) (.str y) st).wp Q ↔ Q (.bl (decide (x.cps.toList < y.cps.toList))) st := Iff.rfl
@[simp] theorem w_gtS : (gtA (.str x) (.str y) st).wp Q ↔ Q (.bl (decide (y.cps.toList < x.cps.toList))) st := Iff.rfl
@[simp] theorem w_eq : (eqA (.int i) (.int j) st).wp Q ↔ Q (.bl (decide (i = j))) st := Iff.rfl
@[simp] theorem w_eqS : (eqA (.str x) (.str y) st).wp Q ↔ Q (.bl (decide (x = y))) st := Iff.rfl
@[simp] theorem w_eqB : (eqA (.bl b) (.bl c) st).wp Q ↔ Q (.bl (decide (b = c))) st := Iff.rfl
@[simp] theorem w_eqN : (eqA .non .non st).wp Q ↔ Q (.bl true) st := Iff.rfl
@[simp] theorem w_eqIS : (eqA (.int i) (.str y) st).wp Q ↔ Q (.bl false) st := Iff.rfl
@[simp] theorem w_eqSI : (eqA (.str x) (.int j) st).wp Q ↔ Q (.bl false) st := Iff.rfl
@[simp] theorem w_isN : (isNA a .non st).wp Q ↔ Q (.bl (isNonA a)) st := by cases a <;> rfl
@[simp] theorem w_notN : (notNA a .non st).wp Q ↔ Q (.bl (!isNonA a)) st := by cases a <;> rfl
@[simp] theorem isNon_non : isNonA .non = true := rfl
@[simp] theorem isNon_int : isNonA (.int i) = false := rfl
@[simp] theorem isNon_str : isNonA (.str x) = false := rfl
@[simp] theorem isNon_tup : isNonA (.tup xs) = false := rfl
@[simp] theorem isNon_bl : isNonA (.bl b) = false := rfl
@[simp] theorem isNon_ref : isNonA (.ref r) = false := rfl
@[simp] theorem w_truN : (truA .non st).wp QB ↔ QB false st := Iff.rfl
@[simp] theorem w_truB : (truA (.bl b) st).wp QB ↔ QB b st := Iff.rfl
@[simp] theorem w_truI : (truA (.int i) st).wp QB ↔ QB (i != 0) st := Iff.rfl
@[simp] theorem w_truS : (truA (.str x) st).wp QB ↔ x.length ≤ sizeLine ∧ QB ((x.length : Int) != 0) st := w_if
@[simp] theorem w_truT : (truA (.tup xs) st).wp QB ↔ QB (!xs.isEmpty) st := Iff.rfl
@[simp] theorem w_truL : (truA (.ref r) st).wp QB ↔ ∃ xs, stL st r = some xs ∧ QB (!xs.isEmpty) st := by
  simp only [truA, stL]
  cases st[r]? with
  | none => simp [R.wp]
  | some o =>
    cases o with
    | oth u => simp [R.wp]
    | lst xs => simp [R.wp]
@[simp] theorem w_getB : (getB (.bl b) st).wp QB ↔ QB b st := Iff.rfl
@[simp] theorem w_getI : (getI (.int i) st).wp QI ↔ QI i st := Iff.rfl
@[simp] theorem w_ixT : (ixA (.tup xs) (.int i) st).wp Q ↔ ∃ d, atI xs i = some d ∧ Q d st := by
  simp only [ixA]
  cases atI xs i <;> simp [R.wp]
@[simp] theorem w_ixC : (ixA (.scr xs) (.int i) st).wp Q ↔ ∃ d, atI xs i = some d ∧ Q d st := by
  simp only [ixA]
  cases atI xs i <;> simp [R.wp]
@[simp] theorem w_ixL : (ixA (.ref r) (.int i) st).wp Q ↔ ∃ xs, stL st r = some xs ∧ ∃ d, atI xs i = some d ∧ Q d st := by
  simp only [ixA, stL]
  cases st[r]? with
  | none => simp [R.wp]
  | some o =>
    cases o with
    | oth u => simp [R.wp]
    | lst xs =>
      simp only [Option.some.injEq, exists_eq_left']
      cases atI xs i <;> simp [R.wp]
@[simp] theorem w_ixS : (ixA (.str x) (.int i) st).wp Q ↔ x.length ≤ sizeLine ∧ ∃ c, atI x.cps.toList i = some c ∧ Q (.str ⟨#[c]⟩) st := by
  simp only [ixA]
  by_cases h : x.length ≤ sizeLine
  · rw [if_pos h]
    cases atI x.cps.toList i <;> simp [R.wp, h]
  · rw [if_neg h]
    simp [R.wp, h]
@[simp] theorem w_abs : (absA [.int i] st).wp Q ↔ Q (.int (if i < 0 then -i else i)) st := Iff.rfl
@[simp] theorem w_int : (intA [.int i] st).wp Q ↔ Q (.int i) st := Iff.rfl
@[simp] theorem w_intB : (intA [.bl b] st).wp Q ↔ Q (.int (if b then 1 else 0)) st := Iff.rfl
@[simp] theorem w_max2 : (maxA [.int i, .int j] st).wp Q ↔ Q (.int (if j > i then j else i)) st := Iff.rfl
@[simp] theorem w_lenS : (lenA [.str x] st).wp Q ↔ x.length ≤ sizeLine ∧ Q (.int (x.length : Nat)) st := w_if
@[simp] theorem w_lenT : (lenA [.tup xs] st).wp Q ↔ Q (.int (xs.length : Nat)) st := Iff.rfl
@[simp] theorem w_lenC : (lenA [.scr xs] st).wp Q ↔ Q (.int (xs.length : Nat)) st := Iff.rfl
theorem itemsL_ref : itemsL (.ref r) st = stL st r := rfl
theorem itemsQ_ref : itemsQ (.ref r) st = stL st r := rfl
@[simp] theorem w_lenL : (lenA [.ref r] st).wp Q ↔ ∃ xs, stL st r = some xs ∧ Q (.int (xs.length : Nat)) st := by
  simp only [lenA]
  simp only [itemsQ_ref]
  cases stL st r <;> simp [R.wp]
@[simp] theorem w_listT : (listA [.tup xs] st).wp Q ↔ Q (.ref st.length) (st ++ [.lst xs]) := Iff.rfl
@[simp] theorem w_listC : (listA [.scr xs] st).wp Q ↔ Q (.ref st.length) (st ++ [.lst xs]) := Iff.rfl
@[simp] theorem w_listL : (listA [.ref r] st).wp Q ↔ ∃ xs, stL st r = some xs ∧ Q (.ref st.length) (st ++ [.lst xs]) := by
  simp only [listA]
  simp only [itemsQ_ref]
  cases stL st r <;> simp [R.wp]
@[simp] theorem w_tupT : (tupleA [.tup xs] st).wp Q ↔ Q (.tup xs) st := Iff.rfl
@[simp] theorem w_tupC : (tupleA [.scr xs] st).wp Q ↔ Q (.tup xs) st := Iff.rfl
@[simp] theorem w_tupL : (tupleA [.ref r] st).wp Q ↔ ∃ xs, stL st r = some xs ∧ Q (.tup xs) st := by
  simp only [tupleA]
  simp only [itemsL_ref]
  cases stL st r <;> simp [R.wp]
@[simp] theorem w_sumL : (sumA [.ref r] st).wp Q ↔ ∃ xs, stL st r = some xs ∧ ∃ ns, intsOf xs = some ns ∧ Q (.int ns.sum) st := by
  simp only [sumA]
  simp only [itemsL_ref]
  cases stL st r with
  | none => simp [R.wp]
  | some xs =>
    simp only [Option.bind_some, Option.some.injEq, exists_eq_left']
    cases intsOf xs <;> simp [R.wp]
@[simp] theorem w_ord : (ordA [.str x] st).wp Q ↔ x.length = 1 ∧ Q (.int (x.cps.getD 0 0 : Nat)) st := w_if
@[simp] theorem w_bits : (bitsA (.int i) st).wp Q ↔ Q (.int (Builtin.Int.intBits i : Nat)) st := Iff.rfl
@[simp] theorem w_isi {T : Ty} (h : isTy T a st = some b) : (isiA T a st).wp Q ↔ Q (.bl b) st := by
  unfold isiA
  rw [h]
  exact Iff.rfl
@[simp] theorem ty_tt : isTy .tup (.tup xs) st = some true := rfl
@[simp] theorem ty_ti : isTy .tup (.int i) st = some false := rfl
@[simp] theorem ty_ts : isTy .tup (.str x) st = some false := rfl
@[simp] theorem ty_tn : isTy .tup .non st = some false := rfl
@[simp] theorem ty_tb : isTy .tup (.bl b) st = some false := rfl
@[simp] theorem ty_st : isTy .str (.tup xs) st = some false := rfl
@[simp] theorem ty_si : isTy .str (.int i) st = some false := rfl
@[simp] theorem ty_ss : isTy .str (.str x) st = some true := rfl
@[simp] theorem ty_sn : isTy .str .non st = some false := rfl
@[simp] theorem ty_sb : isTy .str (.bl b) st = some false := rfl
@[simp] theorem ty_it : isTy .int (.tup xs) st = some false := rfl
@[simp] theorem ty_ii : isTy .int (.int i) st = some true := rfl
@[simp] theorem ty_is : isTy .int (.str x) st = some false := rfl
@[simp] theorem ty_in : isTy .int .non st = some false := rfl
@[simp] theorem ty_ib : isTy .int (.bl b) st = some true := rfl
@[simp] theorem ty_bt : isTy .bool (.tup xs) st = some false := rfl
@[simp] theorem ty_bi : isTy .bool (.int i) st = some false := rfl
@[simp] theorem ty_bs : isTy .bool (.str x) st = some false := rfl
@[simp] theorem ty_bn : isTy .bool .non st = some false := rfl
@[simp] theorem ty_bb : isTy .bool (.bl b) st = some true := rfl
@[simp] theorem isL_ref : isL (.ref r) st = (stL st r).isSome := by
  simp only [isL, stL]
  cases st[r]? with
  | none => rfl
  | some o => cases o <;> rfl
@[simp] theorem w_extendT {ys : List A} : (extendA (.ref r) [.tup ys] st).wp Q ↔ ∃ xs, stL st r = some xs ∧ xs.length + ys.length ≤ sizeLine ∧ Q .non (st.set r (.lst (xs ++ ys))) := by
  simp only [extendA, stL]
  cases st[r]? with
  | none => simp [R.wp]
  | some o =>
    cases o with
    | oth u => simp [R.wp]
    | lst xs => simp only [w_if, Option.some.injEq, exists_eq_left']
@[simp] theorem w_append : (appendA (.ref r) [a] st).wp Q ↔ ∃ xs, stL st r = some xs ∧ xs.length < sizeLine ∧ Q .non (st.set r (.lst (xs ++ [a]))) := by
  simp only [appendA, stL]
  cases st[r]? with
  | none => simp [R.wp]
  | some o =>
    cases o with
    | oth u => simp [R.wp]
    | lst xs => simp only [w_if, Option.some.injEq, exists_eq_left']
@[simp] theorem w_rng1 : (rngA [.int j] st).wp QS ↔ (-(2 ^ 62) ≤ j ∧ j < 2 ^ 62) ∧ QS (.rng 0 j.toNat) st := w_if
@[simp] theorem w_rng2 : (rngA [.int i, .int j] st).wp QS ↔ (-(2 ^ 62) ≤ i ∧ i < 2 ^ 62 ∧ -(2 ^ 62) ≤ j ∧ j < 2 ^ 62) ∧ QS (.rng i (j - i).toNat) st := w_if
@[simp] theorem w_srcT : (srcA (.tup xs) st).wp QS ↔ QS (.vals xs) st := Iff.rfl
@[simp] theorem w_srcC : (srcA (.scr xs) st).wp QS ↔ QS (.vals xs) st := Iff.rfl
@[simp] theorem w_srcS : (srcA (.str x) st).wp QS ↔ QS (.chars x) st := Iff.rfl
@[simp] theorem w_srcL : (srcA (.ref r) st).wp QS ↔ (stL st r).isSome = true ∧ QS (.lst r) st := by
  simp only [srcA, stL]
  cases st[r]? with
  | none => simp [R.wp]
  | some o =>
    cases o with
    | oth u => simp [R.wp]
    | lst xs => simp [R.wp]
@[simp] theorem w_zipT : (zipA [.tup xs, .tup ys] st).wp QS ↔ QS (.zipv xs ys) st := Iff.rfl
@[simp] theorem w_slT {lo hi : Option Int} : (slA (.tup xs) lo hi st).wp Q ↔ Q (.tup (cutA xs lo hi)) st := Iff.rfl
@[simp] theorem w_slL {lo hi : Option Int} : (slA (.ref r) lo hi st).wp Q ↔ ∃ xs, stL st r = some xs ∧ Q (.ref st.length) (st ++ [.lst (cutA xs lo hi)]) := by
  simp only [slA, stL]
  cases st[r]? with
  | none => simp [R.wp]
  | some o =>
    cases o with
    | oth u => simp [R.wp]
    | lst xs => simp [R.wp]
@[simp] theorem w_slS {lo hi : Option Int} : (slA (.str x) lo hi st).wp Q ↔ x.length ≤ sizeLine ∧ Q (.str (L2.cutS x lo hi)) st := w_if
@[simp] theorem ex_setA {N : Store → Prop} : (∃ st4, setA (.ref r) (.int k) d st = some st4 ∧ N st4) ↔ ∃ xs, stL st r = some xs ∧ ∃ j, L2.ixN xs.length k = some j ∧ N (st.set r (.lst (xs.set j d))) := by
  simp only [setA, stL]
  cases st[r]? with
  | none => simp
  | some o =>
    cases o with
    | oth u => simp
    | lst xs =>
      simp only [Option.some.injEq, exists_eq_left']
      cases L2.ixN xs.length k <;> simp
@[simp] theorem stL_set_some {st : Store} {r : Nat} {ys : List A} (h : (stL st r).isSome = true) : stL (st.set r (.lst ys)) r = some ys := by
  obtain ⟨xs, e⟩ := Option.isSome_iff_exists.mp h
  have := (List.getElem?_eq_some_iff.mp (stL_eq e)).1
  unfold stL
  rw [List.getElem?_set_self this]
theorem stL_set_self {st : Store} {r : Nat} {xs ys : List A} (h : stL st r = some xs) : stL (st.set r (.lst ys)) r = some ys := by
  have := (List.getElem?_eq_some_iff.mp (stL_eq h)).1
  unfold stL
  rw [List.getElem?_set_self this]
@[simp] theorem stL_set_ne {st : Store} {r q : Nat} {ys : List A} (h : r ≠ q) : stL (st.set r (.lst ys)) q = stL st q := by
  unfold stL
  rw [List.getElem?_set_ne h]
@[simp] theorem stL_pre {st g : Store} {r : Nat} (h : (stL st r).isSome = true) : stL (st ++ g) r = stL st r := by
  obtain ⟨xs, e⟩ := Option.isSome_iff_exists.mp h
  have e' := stL_eq e
  rw [e]
  exact stL_of (by rw [List.getElem?_append_left (List.getElem?_eq_some_iff.mp e').1, e'])
@[simp] theorem stL_end {st g : Store} : stL (st ++ g) st.length = stL g 0 := by
  unfold stL
  rw [List.getElem?_append_right (Nat.le_refl _), Nat.sub_self]
@[simp] theorem stL_end1 {st g : Store} {k : Nat} : stL (st ++ g) (st.length + k) = stL g k := by
  unfold stL
  rw [List.getElem?_append_right (Nat.le_add_right _ _), Nat.add_sub_cancel_left]
@[simp] theorem stL_end2 {st g : Store} {k m : Nat} : stL (st ++ g) (st.length + k + m) = stL g (k + m) := by
  rw [Nat.add_assoc]
  exact stL_end1
@[simp] theorem stL_z {xs : List A} {g : Store} : stL (.lst xs :: g) 0 = some xs := rfl
@[simp] theorem stL_s {o : Ob} {g : Store} {k : Nat} : stL (o :: g) (k + 1) = stL g k := by
  unfold stL
  rw [List.getElem?_cons_succ]
end
@[simp] theorem ixN_nn {n : Nat} {i : Int} (h : 0 ≤ i) : ixN n i = if i < n then some i.toNat else none := by
  unfold ixN
  rw [if_pos h]
@[simp] theorem atI_nn {α : Type} {xs : List α} {i : Int} (h : 0 ≤ i) : atI xs i = xs[i.toNat]? := by
  unfold atI
  rw [ixN_nn h]
  by_cases c : i < xs.length
  · rw [if_pos c]
    rfl
  · rw [if_neg c]
    exact (List.getElem?_eq_none (by omega)).symm
theorem ex_eq {α : Type} {p : α → Prop} {v : α} : (∃ a, v = a ∧ p a) ↔ p v := exists_eq_left'
@[simp] theorem cut_to {α : Type} {xs : List α} {j : Int} (h : 0 ≤ j) : cutA xs none (some j) = xs.take j.toNat := by
  unfold cutA HT.sIx
  have : ¬ j < 0 := by omega
  simp only [this, if_false, Nat.sub_zero, List.drop_zero]
  by_cases c : j.toNat ≤ xs.length
  · rw [Nat.min_eq_left c]
  · rw [Nat.min_eq_right (by omega), List.take_of_length_le (Nat.le_refl _), List.take_of_length_le (by omega)]
@[simp] theorem cut_from {α : Type} {xs : List α} {i : Int} (h : 0 ≤ i) : cutA xs (some i) none = xs.drop i.toNat := by
  unfold cutA HT.sIx
  have : ¬ i < 0 := by omega
  simp only [this, if_false]
  rw [List.take_of_length_le (by rw [List.length_drop]; exact Nat.le_refl _)]
  by_cases c : i.toNat ≤ xs.length
  · rw [Nat.min_eq_left c]
  · rw [Nat.min_eq_right (by omega), List.drop_of_length_le (Nat.le_refl _), List.drop_of_length_le (by omega)]
@[simp] theorem cut_mid {α : Type} {xs : List α} {i j : Int} (h : 0 ≤ i) (h2 : 0 ≤ j) : cutA xs (some i) (some j) = (xs.take j.toNat).drop i.toNat := by
  unfold cutA HT.sIx
  have q1 : ¬ i < 0 := by omega
  have q2 : ¬ j < 0 := by omega
  simp only [q1, q2, if_false]
  refine List.ext_getElem? fun k => ?_
  simp only [List.getElem?_take, List.getElem?_drop]
  by_cases c : k < min j.toNat xs.length - min i.toNat xs.length
  · have e : min i.toNat xs.length = i.toNat := by omega
    rw [if_pos c, e, if_pos (by omega)]
  · rw [if_neg c]
    by_cases d : i.toNat + k < j.toNat
    · rw [if_pos d, List.getElem?_eq_none (by omega)]
    · rw [if_neg d]
@[simp] theorem cut_all' {α : Type} {xs : List α} : cutA xs none none = xs := by
  unfold cutA HT.sIx
  simp
@[simp] theorem size_eq : sizeLine = 16777216 := PySem.sizeLine_eq
end ML
namespace Law
open PySem L2 ML
def m_law_tape : MF := mFn 3 1 (mSeq (mSet 1 (mC (.int 7)))
    (mSeq (mFor (mSrc (mVar 0)) (.one 2) (mSet 1 (mBin modA (mCa intA (mCons (mBin addA (mBin mulA (mVar 1) (mC (.int 31))) (mCa absA (mCons (mCa intA (mCons (mVar 2) mNil)) mNil))) mNil)) (mC (.int 2147483647)))))
    (mRet (mLst (mCons (mCa listA (mCons (mVar 0) mNil)) (mCons (mC (.int 0)) (mCons (mC (.int 0)) (mCons (mVar 1) mNil))))))))
def m_law_draw : MF := mFn 4 2 (mSeq (mIfS (mGB (mBin eqA (mBin ixA (mVar 0) (mC (.int 2))) (mC (.int 0)))) (mSeq (mSet 2 (mBin ixA (mVar 0) (mC (.int 1))))
    (mSeq (mSet 3 (mC (.int 0)))
    (mSeq (mIfS (mGB (mBin ltA (mVar 2) (mCa lenA (mCons (mBin ixA (mVar 0) (mC (.int 0))) mNil)))) (mSet 3 (mCa absA (mCons (mCa intA (mCons (mBin ixA (mBin ixA (mVar 0) (mC (.int 0))) (mVar 2)) mNil)) mNil))) (mSeq (mPut (mVar 0) (mC (.int 3)) (mBin modA (mCa intA (mCons (mBin addA (mBin addA (mBin mulA (mBin ixA (mVar 0) (mC (.int 3))) (mC (.int 48271))) (mVar 2)) (mC (.int 1))) mNil)) (mC (.int 2147483647))))
    (mSet 3 (mBin ixA (mVar 0) (mC (.int 3))))))
    (mSeq (mPut (mVar 0) (mC (.int 1)) (mBin addA (mVar 2) (mC (.int 1))))
    (mSeq (mIfS (mGB (mBin ltA (mVar 3) (mBin powA (mC (.int 10)) (mC (.int 18))))) (mSeq (mSet 3 (mBin modA (mCa intA (mCons (mBin addA (mBin addA (mBin mulA (mVar 3) (mC (.int 48271))) (mBin mulA (mVar 2) (mC (.int 69621)))) (mC (.int 5))) mNil)) (mC (.int 2147483647))))
    (mSeq (mSet 3 (mBin modA (mCa intA (mCons (mBin mulA (mVar 3) (mC (.int 69621))) mNil)) (mC (.int 2147483629))))
    (mRet (mBin modA (mCa intA (mCons (mVar 3) mNil)) (mCa maxA (mCons (mVar 1) (mCons (mC (.int 1)) mNil))))))) mNext)
    (mPut (mVar 0) (mC (.int 2)) (mVar 3))))))) mNext)
    (mSeq (mSet 3 (mBin ixA (mVar 0) (mC (.int 2))))
    (mSeq (mPut (mVar 0) (mC (.int 2)) (mBin fdivA (mVar 3) (mCa maxA (mCons (mVar 1) (mCons (mC (.int 2)) mNil)))))
    (mRet (mBin modA (mCa intA (mCons (mVar 3) mNil)) (mCa maxA (mCons (mVar 1) (mCons (mC (.int 1)) mNil))))))))
structure TpOk (st : Store) : Prop where
  ex : ∃ (ns : List Int) (p r t : Int), 0 ≤ p ∧ st[0]? = some (.lst (ns.map .int)) ∧ st[1]? = some (.lst [.ref 0, .int p, .int r, .int t])
structure Kp (st st' : Store) : Prop where
  len : st.length ≤ st'.length
  get : ∀ i, 1 < i → i < st.length → st'[i]? = st[i]?
theorem Kp.refl (st : Store) : Kp st st := ⟨Nat.le_refl _, fun _ _ _ => rfl⟩
theorem Kp.trans {a b c : Store} (h : Kp a b) (k : Kp b c) : Kp a c := ⟨Nat.le_trans h.len k.len, fun i h1 h2 => by rw [k.get i h1 (Nat.lt_of_lt_of_le h2 h.len), h.get i h1 h2]⟩
theorem Kp.grown {a b : Store} (h : Grown a b) : Kp a b := by
  obtain ⟨g, rfl⟩ := h
  exact ⟨by simp, fun i _ h => List.getElem?_append_left h⟩
theorem Kp.lst {a b : Store} (h : Kp a b) {i : Nat} {o : Ob} (hi : 1 < i) (e : a[i]? = some o) : b[i]? = some o := by
  rw [h.get i hi (List.getElem?_eq_some_iff.mp e).1]
  exact e
theorem Kp.stL {a b : Store} (h : Kp a b) {i : Nat} {xs : List A} (hi : 1 < i) (e : ML.stL a i = some xs) : ML.stL b i = some xs := stL_of (h.lst hi (stL_eq e))
theorem TpOk.grown {a b : Store} (t : TpOk a) (h : Grown a b) : TpOk b := by
  obtain ⟨ns, p, r, q, h0, h1, h2⟩ := t.ex
  exact ⟨ns, p, r, q, h0, h.get h1, h.get h2⟩
theorem TpOk.len {a : Store} (t : TpOk a) : 2 ≤ a.length := by
  obtain ⟨ns, p, r, q, h0, h1, h2⟩ := t.ex
  exact (List.getElem?_eq_some_iff.mp h2).1
theorem tape_set {st : Store} {ns : List Int} {p r q : Int} (h0 : 0 ≤ p) (h1 : st[0]? = some (.lst (ns.map .int))) (h2 : st[1]?.isSome = true) : TpOk (st.set 1 (.lst [.ref 0, .int p, .int r, .int q])) := by
  obtain ⟨o, e⟩ := Option.isSome_iff_exists.mp h2
  refine ⟨ns, p, r, q, h0, ?_, ?_⟩
  · rw [List.getElem?_set_ne (by decide)]
    exact h1
  · rw [List.getElem?_set_self (List.getElem?_eq_some_iff.mp e).1]
theorem kp_set {st : Store} {o : Ob} : Kp st (st.set 1 o) := ⟨by simp, fun i h _ => by rw [List.getElem?_set_ne (by omega)]⟩
theorem max_pos {many : Int} : 0 < (if many < 1 then 1 else many) := by split <;> omega
theorem max_pos2 {many : Int} : 0 < (if many < 2 then 2 else many) := by split <;> omega
theorem max_eq {many : Int} : (if many < 1 then 1 else many) = max many 1 := by
  split <;> omega
theorem max_log {many : Int} (h : many.natAbs < 2 ^ 200) : (if many < 2 then 2 else many).natAbs.log2 < 9000 := by
  split
  · decide
  · exact Nat.lt_of_lt_of_le (PySem.Flt.log2_lt_of (by decide) h) (by decide)
theorem small64 {i : Int} (h : -1000000000000000000 ≤ i) (h2 : i ≤ 1000000000000000000) : -(2 ^ 64) < i ∧ i < 2 ^ 64 := by omega
theorem cmul_r {i j : Int} (h : -1000000000000000000 ≤ j) (h2 : j ≤ 1000000000000000000) : CMulA i j := .inl (.inr (small64 h h2))
theorem cmul_l {i j : Int} (h : -1000000000000000000 ≤ i) (h2 : i ≤ 1000000000000000000) : CMulA i j := .inl (.inl (small64 h h2))
theorem draw_wp {st : Store} {many : Int} {Q : A → Store → Prop} (t : TpOk st) (hm : many.natAbs < 2 ^ 200) (k : ∀ (n : Int) st', 0 ≤ n → n < max many 1 → TpOk st' → Kp st st' → st'.length = st.length → Q (.int n) st') : (m_law_draw [.ref 1, .int many] st).wp Q := by
  obtain ⟨ns, p, r, q, h0, h1, h2⟩ := t.ex
  have g1 := stL_of h1
  have g2 := stL_of h2
  have hs : st[1]?.isSome = true := by rw [h2]; rfl
  have fin : ∀ (n r' p' q' : Int) st', 0 ≤ p' → st' = st.set 1 (.lst [.ref 0, .int p', .int r', .int q']) → Q (.int (n % (if many < 1 then 1 else many))) st' := fun n r' p' q' st' hp e => by
    subst e
    refine k _ _ (Int.emod_nonneg _ (by have := max_pos (many := many); omega)) ?_ (tape_set hp h1 hs) kp_set (by simp)
    rw [← max_eq]
    exact Int.emod_lt_of_pos _ max_pos
  have c1 : CMulA p 69621 := cmul_r (by decide) (by decide)
  have c2 : CMulA q 48271 := cmul_r (by decide) (by decide)
  have c3 : ∀ i, CMulA i 48271 := fun i => cmul_r (by decide) (by decide)
  have c4 : ∀ i, CMulA i 69621 := fun i => cmul_r (by decide) (by decide)
  by_cases hr : r = 0
  · by_cases hp : p < ns.length
    · have hpn : p.toNat < ns.length := by omega
      simp only [m_law_draw] 
      simp [g1, g2, hr, hp, h0, hpn, max_pos, max_pos2, max_log hm, c3, c4]
      split <;> split <;> exact fin _ _ (p + 1) _ _ (by omega) rfl
    · simp only [m_law_draw] 
      simp [g1, g2, hr, hp, h0, max_pos, max_pos2, max_log hm, c3, c4]
      split <;> exact fin _ _ (p + 1) _ _ (by omega) rfl
  · simp only [m_law_draw] 
    simp [g1, g2, hr, max_pos, max_pos2, max_log hm]
    exact fin _ _ _ _ _ h0 rfl
theorem tape_wp {ns : List Int} {Q : A → Store → Prop} (k : ∀ st, TpOk st → st.length = 2 → Q (.ref 1) st) : (m_law_tape [.scr (ns.map .int)] []).wp Q := by
  simp only [m_law_tape]
  simp
  refine for_vals (fun i ρ st => st = [] ∧ ∃ t v, ρ = [some (.scr (ns.map .int)), some (.int t), v]) ⟨rfl, 7, none, rfl⟩ ?_ ?_
  · rintro i x ρ st hx ⟨rfl, t, v, rfl⟩
    rw [List.getElem?_map] at hx
    cases e : ns[i]? with
    | none => rw [e] at hx; cases hx
    | some n =>
      rw [e] at hx
      cases hx
      refine ⟨_, rfl, ?_⟩
      simp
      exact cmul_r (by decide) (by decide)
  · rintro ρ st ⟨rfl, t, v, rfl⟩
    simp
    exact k _ ⟨ns, 0, 0, t, by decide, rfl, rfl⟩ rfl
mutual
def depA : A → Nat
  | .tup xs => depAs xs + 1
  | _ => 0
def depAs : List A → Nat
  | [] => 0
  | x :: xs => max (depA x) (depAs xs)
end
mutual
def fewA : A → Bool
  | .tup xs => decide (xs.length ≤ 16777216) && fewAs xs
  | _ => true
def fewAs : List A → Bool
  | [] => true
  | x :: xs => fewA x && fewAs xs
end
mutual
def cleanA : A → Bool
  | .non => true
  | .int _ => true
  | .str x => PySem.PyData.strOk x
  | .tup xs => cleanAs xs
  | _ => false
def cleanAs : List A → Bool
  | [] => true
  | x :: xs => cleanA x && cleanAs xs
end
end Law
namespace Law
open PySem L2 ML
def m_law_sign : MF := mFn 2 1 (mSeq (mSet 1 (mC (.str " !\"#$&'()*+,-./0123456789:;<=>?@ABCDEFGHIJKLMNOPQRSTUVWXYZ[\\]^_`")))
    (mSeq (mSet 1 (mBin addA (mVar 1) (mC (.str "abcdefghijklmnopqrstuvwxyz{|}~"))))
    (mRet (mBin ixA (mVar 1) (mCall m_law_draw (mCons (mVar 0) (mCons (mC (.int 94)) mNil)))))))
def m_law_word : MF := mFn 3 1 (mSeq (mSet 1 (mBin ixA (mLst (mCons (mC (.str "")) (mCons (mC (.str "")) (mCons (mC (.str "to")) (mCons (mC (.str "abcdefghij0123456")) mNil))))) (mCall m_law_draw (mCons (mVar 0) (mCons (mC (.int 4)) mNil)))))
    (mSeq (mFor (mRng (mCons (mCall m_law_draw (mCons (mVar 0) (mCons (mC (.int 4)) mNil))) mNil)) (.one 2) (mSet 1 (mBin addA (mVar 1) (mCall m_law_sign (mCons (mVar 0) mNil)))))
    (mRet (mVar 1))))
def m_law_scalar : MF := mFn 3 1 (mSeq (mSet 1 (mCall m_law_draw (mCons (mVar 0) (mCons (mC (.int 7)) mNil))))
    (mSeq (mIfS (mGB (mBin eqA (mVar 1) (mC (.int 0)))) (mRet (mCall m_law_word (mCons (mVar 0) mNil))) mNext)
    (mSeq (mIfS (mGB (mBin eqA (mVar 1) (mC (.int 1)))) (mSeq (mSet 2 (mLst (mCons (mC (.int 0)) (mCons (mC (.int 1)) (mCons (mC (.int 65535)) (mCons (mC (.int 65536)) (mCons (mC (.int 65537)) (mCons (mC (.int 4294967295)) (mCons (mC (.int 4294967296)) (mCons (mC (.int 281474976710656)) (mCons (mBin subA (mBin powA (mC (.int 10)) (mC (.int 15))) (mC (.int 1))) (mCons (mBin powA (mC (.int 10)) (mC (.int 15))) mNil))))))))))))
    (mRet (mBin mulA (mBin ixA (mVar 2) (mCall m_law_draw (mCons (mVar 0) (mCons (mC (.int 10)) mNil)))) (mBin subA (mC (.int 1)) (mBin mulA (mC (.int 2)) (mCall m_law_draw (mCons (mVar 0) (mCons (mC (.int 2)) mNil)))))))) mNext)
    (mSeq (mIfS (mGB (mBin eqA (mVar 1) (mC (.int 2)))) (mRet (mBin mulA (mBin subA (mCall m_law_draw (mCons (mVar 0) (mCons (mC (.int 2000001)) mNil))) (mC (.int 1000000))) (mBin ixA (mLst (mCons (mC (.int 1)) (mCons (mC (.int 65536)) (mCons (mC (.int 1000000000)) mNil)))) (mCall m_law_draw (mCons (mVar 0) (mCons (mC (.int 3)) mNil)))))) mNext)
    (mSeq (mIfS (mGB (mBin eqA (mVar 1) (mC (.int 3)))) (mRet (mBin subA (mCall m_law_draw (mCons (mVar 0) (mCons (mBin addA (mBin mulA (mC (.int 2)) (mBin powA (mC (.int 10)) (mC (.int 15)))) (mC (.int 1))) mNil))) (mBin powA (mC (.int 10)) (mC (.int 15))))) mNext)
    (mRet (mCall m_law_draw (mCons (mVar 0) (mCons (mC (.int 9)) mNil)))))))))
def m_law_element : MF := mFn 2 1 (mSeq (mSet 1 (mCall m_law_scalar (mCons (mVar 0) mNil)))
    (mSeq (mIfS (mGB (mBin eqA (mCall m_law_draw (mCons (mVar 0) (mCons (mC (.int 4)) mNil))) (mC (.int 0)))) (mRet (mTup (mCons (mVar 1) (mCons (mCall m_law_scalar (mCons (mVar 0) mNil)) mNil)))) mNext)
    (mRet (mVar 1))))
structure SStr (x : Str) : Prop where
  len : x.length ≤ 20
  ch : ∀ (c : Nat), c ∈ x.cps.toList → 32 ≤ c ∧ c < 127
def Sca (a : A) : Prop := (∃ x, a = .str x ∧ SStr x) ∨ ∃ i : Int, a = .int i ∧ -1000000000000000 ≤ i ∧ i ≤ 1000000000000000
def El (a : A) : Prop := Sca a ∨ ∃ x y, a = .tup [x, y] ∧ Sca x ∧ Sca y
def signL : List Nat := [32,33,34,35,36,38,39,40,41,42,43,44,45,46,47,48,49,50,51,52,53,54,55,56,57,58,59,60,61,62,63,64,65,66,67,68,69,70,71,72,73,74,75,76,77,78,79,80,81,82,83,84,85,86,87,88,89,90,91,92,93,94,95,96,97,98,99,100,101,102,103,104,105,106,107,108,109,110,111,112,113,114,115,116,117,118,119,120,121,122,123,124,125,126]
theorem sign_eq : ((Str.ofString " !\"#$&'()*+,-./0123456789:;<=>?@ABCDEFGHIJKLMNOPQRSTUVWXYZ[\\]^_`") ++ (Str.ofString "abcdefghijklmnopqrstuvwxyz{|}~") : Str) = ⟨signL.toArray⟩ := by decide +kernel
theorem sign_wp {st : Store} {Q : A → Store → Prop} (t : TpOk st) (k : ∀ (c : Nat) st', 32 ≤ c → c < 127 → TpOk st' → Kp st st' → st'.length = st.length → Q (.str ⟨#[c]⟩) st') : (m_law_sign [.ref 1] st).wp Q := by
  simp only [m_law_sign]
  simp only [wp_fn, sp_seq, sp_set, wp_c, wp_bin, wp_var, sp_ret, wp_call, wp_cons, wp_nil, w_addS, List.map_cons, List.map_nil, List.set_cons_succ, List.set_cons_zero, List.getElem?_cons_succ, List.getElem?_cons_zero, Option.some.injEq, ex_eq, List.length_cons, List.length_nil, List.cons_append, List.nil_append, List.replicate]
  refine ⟨trivial, by decide +kernel, ?_⟩
  rw [sign_eq]
  refine draw_wp t (by decide) fun n st1 na nb t1 k1 l1 => ?_
  rw [w_ixS]
  refine ⟨by decide +kernel, ?_⟩
  have hn : n.toNat < signL.length := by
    have : signL.length = 94 := by decide +kernel
    omega
  have hs : ∀ c ∈ signL, 32 ≤ c ∧ c < 127 := by decide +kernel
  refine ⟨signL[n.toNat], ?_, ?_⟩
  · rw [atI_nn na]
    exact List.getElem?_eq_getElem hn
  · obtain ⟨h1, h2⟩ := hs _ (List.getElem_mem hn)
    exact k _ _ h1 h2 t1 k1 l1
def WdI (st0 : Store) (i : Nat) (ρ : ML.Env) (st : Store) : Prop := ∃ (x : Str) (v : Option A), x.length ≤ 17 + i ∧ (∀ (c : Nat), c ∈ x.cps.toList → 32 ≤ c ∧ c < 127) ∧ TpOk st ∧ Kp st0 st ∧ ρ = [some (.ref 1), some (.str x), v]
theorem word_wp {st : Store} {Q : A → Store → Prop} (t : TpOk st) (k : ∀ (x : Str) st', SStr x → TpOk st' → Kp st st' → Q (.str x) st') : (m_law_word [.ref 1] st).wp Q := by
  simp only [m_law_word]
  simp only [wp_fn, List.map_cons, List.map_nil, List.length_cons, List.length_nil, List.cons_append, List.nil_append, List.replicate]
  refine ⟨trivial, ?_⟩
  refine seq_cut (WdI st 0) ?_ ?_
  · simp only [sp_set, wp_bin, wp_lst, wp_cons, wp_c, wp_nil, wp_call, wp_var, List.getElem?_cons_zero, Option.some.injEq, ex_eq]
    refine ⟨by simp [sizeLine], ?_⟩
    have g : Grown st (st ++ [.lst [.str "", .str "", .str "to", .str "abcdefghij0123456"]]) := ⟨_, rfl⟩
    refine draw_wp (t.grown g) (by decide) fun n st1 na nb t1 k1 l1 => ?_
    have hl : stL (st ++ [.lst [.str "", .str "", .str "to", .str "abcdefghij0123456"]]) st.length = some [.str "", .str "", .str "to", .str "abcdefghij0123456"] := by simp
    have h2 := t.len
    have h1 := k1.stL (by omega) hl
    rw [w_ixL]
    have hk := (Kp.grown g).trans k1
    have hn : n = 0 ∨ n = 1 ∨ n = 2 ∨ n = 3 := by omega
    have e0 : (Str.ofString "").length ≤ 17 + 0 ∧ ∀ (c : Nat), c ∈ (Str.ofString "").cps.toList → 32 ≤ c ∧ c < 127 := by decide +kernel
    have e1 : (Str.ofString "to").length ≤ 17 + 0 ∧ ∀ (c : Nat), c ∈ (Str.ofString "to").cps.toList → 32 ≤ c ∧ c < 127 := by decide +kernel
    have e2 : (Str.ofString "abcdefghij0123456").length ≤ 17 + 0 ∧ ∀ (c : Nat), c ∈ (Str.ofString "abcdefghij0123456").cps.toList → 32 ≤ c ∧ c < 127 := by decide +kernel
    refine ⟨_, h1, ?_⟩
    rcases hn with rfl | rfl | rfl | rfl
    · exact ⟨_, rfl, _, _, e0.1, e0.2, t1, hk, rfl⟩
    · exact ⟨_, rfl, _, _, e0.1, e0.2, t1, hk, rfl⟩
    · exact ⟨_, rfl, _, _, e1.1, e1.2, t1, hk, rfl⟩
    · exact ⟨_, rfl, _, _, e2.1, e2.2, t1, hk, rfl⟩
  rintro ρ st1 ⟨x, v, hx, hc, t1, k1, rfl⟩
  refine seq_cut (WdI st 3) ?_ ?_
  · simp only [sp_for, wp_rng, wp_cons, wp_nil, wp_call, wp_var, wp_c, List.getElem?_cons_zero, Option.some.injEq, ex_eq]
    refine draw_wp t1 (by decide) fun n st2 na nb t2 k2 l2 => ?_
    rw [w_rng1]
    refine ⟨by omega, ?_⟩
    refine for_rng (WdI st) ⟨x, v, hx, hc, t2, k1.trans k2, rfl⟩ ?_ ?_
    · rintro i ρ st3 hi ⟨x, v, hx, hc, t3, k3, rfl⟩
      refine ⟨_, rfl, ?_⟩
      simp only [sp_set, wp_bin, wp_var, wp_call, wp_cons, wp_nil, List.set_cons_succ, List.set_cons_zero, List.getElem?_cons_succ, List.getElem?_cons_zero, Option.some.injEq, ex_eq]
      refine sign_wp t3 fun c st4 ca cb t4 k4 _ => ?_
      rw [w_addS]
      have hz : Str.length ⟨#[c]⟩ = 1 := rfl
      refine ⟨by rw [hz]; simp only [sizeLine]; omega, _, _, ?_, ?_, t4, k3.trans k4, rfl⟩
      · show (x.cps ++ #[c]).size ≤ _
        have : x.cps.size ≤ 17 + i := hx
        simp
        omega
      · intro d hd
        have : d ∈ (x.cps ++ #[c]).toList := hd
        simp at this
        rcases this with h | rfl
        · exact hc d (by simpa using h)
        · exact ⟨ca, cb⟩
    · rintro ρ st3 ⟨x, v, hx, hc, t3, k3, rfl⟩
      exact ⟨x, v, by omega, hc, t3, k3, rfl⟩
  rintro ρ st2 ⟨x, v, hx, hc, t2, k2, rfl⟩
  simp
  exact k x st2 ⟨by omega, hc⟩ t2 k2
theorem pow15 : (10 : Int) ^ 15 = 1000000000000000 := by decide +kernel
def edgeL : List Int := [0, 1, 65535, 65536, 65537, 4294967295, 4294967296, 281474976710656, 999999999999999, 1000000000000000]
theorem scalar_wp {st : Store} {Q : A → Store → Prop} (t : TpOk st) (k : ∀ (a : A) st', Sca a → TpOk st' → Kp st st' → Q a st') : (m_law_scalar [.ref 1] st).wp Q := by
  have ki : ∀ (i : Int) st', -1000000000000000 ≤ i → i ≤ 1000000000000000 → TpOk st' → Kp st st' → Q (.int i) st' := fun i st' h1 h2 t' k' => k _ _ (.inr ⟨i, rfl, h1, h2⟩) t' k'
  simp only [m_law_scalar]
  simp only [wp_fn, List.map_cons, List.map_nil, List.length_cons, List.length_nil, List.cons_append, List.nil_append, List.replicate, sp_seq, sp_set, wp_call, wp_cons, wp_nil, wp_var, wp_c, List.getElem?_cons_zero, Option.some.injEq, ex_eq, List.set_cons_succ, List.set_cons_zero]
  refine ⟨trivial, ?_⟩
  refine draw_wp t (by decide) fun c st1 ca cb t1 k1 l1 => ?_
  simp only [sp_ifs, wp_gb, wp_bin, wp_var, wp_c, List.getElem?_cons_succ, List.getElem?_cons_zero, Option.some.injEq, ex_eq, w_eq, w_getB, decide_eq_true_eq]
  split
  · simp only [sp_ret, wp_call, wp_cons, wp_nil, wp_var, List.getElem?_cons_zero, Option.some.injEq, ex_eq]
    exact word_wp t1 fun x st2 hx t2 k2 => k _ _ (.inl ⟨x, rfl, hx⟩) t2 (k1.trans k2)
  simp only [sp_next, sp_ifs, wp_gb, wp_bin, wp_var, wp_c, List.getElem?_cons_succ, List.getElem?_cons_zero, Option.some.injEq, ex_eq, w_eq, w_getB, decide_eq_true_eq]
  split
  · have g : Grown st1 (st1 ++ [.lst (edgeL.map .int)]) := ⟨_, rfl⟩
    have hl : stL (st1 ++ [.lst (edgeL.map .int)]) st1.length = some (edgeL.map .int) := by simp
    simp [pow15, -List.getD_eq_getElem?_getD]
    refine draw_wp (t1.grown g) (by decide) fun n st2 na nb t2 k2 l2 => ?_
    have h2 := k2.stL (by have := t1.len; omega) hl
    have hk := k1.trans ((Kp.grown g).trans k2)
    rw [w_ixL]
    refine ⟨_, h2, ?_⟩
    have hn : n.toNat < edgeL.length := by
      have : edgeL.length = 10 := rfl
      omega
    have he : ∀ z ∈ edgeL, 0 ≤ z ∧ z ≤ 1000000000000000 := by decide +kernel
    refine ⟨.int edgeL[n.toNat], ?_, ?_⟩
    · rw [atI_nn na, List.getElem?_map, List.getElem?_eq_getElem hn]
      rfl
    obtain ⟨z1, z2⟩ := he _ (List.getElem_mem hn)
    generalize edgeL[n.toNat] = z at *
    refine draw_wp t2 (by decide) fun m st3 ma mb t3 k3 l3 => ?_
    simp
    refine ⟨cmul_l (by decide) (by decide), cmul_l (by omega) (by omega), ?_⟩
    have hm : m = 0 ∨ m = 1 := by omega
    rcases hm with rfl | rfl
    · exact ki _ _ (by omega) (by omega) t3 (hk.trans k3)
    · exact ki _ _ (by omega) (by omega) t3 (hk.trans k3)
  split
  · simp only [sp_ret, wp_bin, wp_call, wp_cons, wp_nil, wp_var, wp_c, wp_lst, List.getElem?_cons_zero, Option.some.injEq, ex_eq]
    refine draw_wp t1 (by decide) fun n st2 na nb t2 k2 l2 => ?_
    rw [w_sub]
    have g : Grown st2 (st2 ++ [.lst [.int 1, .int 65536, .int 1000000000]]) := ⟨_, rfl⟩
    have hl : stL (st2 ++ [.lst [.int 1, .int 65536, .int 1000000000]]) st2.length = some [.int 1, .int 65536, .int 1000000000] := by simp
    refine ⟨by simp [sizeLine], ?_⟩
    refine draw_wp (t2.grown g) (by decide) fun m st3 ma mb t3 k3 l3 => ?_
    have h3 := k3.stL (by have := t2.len; omega) hl
    have hk := k1.trans (k2.trans ((Kp.grown g).trans k3))
    rw [w_ixL]
    have hn : m = 0 ∨ m = 1 ∨ m = 2 := by omega
    refine ⟨_, h3, ?_⟩
    rcases hn with rfl | rfl | rfl
    · refine ⟨_, rfl, ?_⟩
      rw [w_mul]
      exact ⟨cmul_r (by decide) (by decide), ki _ _ (by omega) (by omega) t3 hk⟩
    · refine ⟨_, rfl, ?_⟩
      rw [w_mul]
      exact ⟨cmul_r (by decide) (by decide), ki _ _ (by omega) (by omega) t3 hk⟩
    · refine ⟨_, rfl, ?_⟩
      rw [w_mul]
      exact ⟨cmul_r (by decide) (by decide), ki _ _ (by omega) (by omega) t3 hk⟩
  split
  · simp [pow15]
    refine ⟨cmul_l (by decide) (by decide), ?_⟩
    refine draw_wp t1 (by decide) fun n st2 na nb t2 k2 l2 => ?_
    simp
    exact ki _ _ (by omega) (by omega) t2 (k1.trans k2)
  simp
  exact draw_wp t1 (by decide) fun n st2 na nb t2 k2 l2 => ki _ _ (by omega) (by omega) t2 (k1.trans k2)
theorem element_wp {st : Store} {Q : A → Store → Prop} (t : TpOk st) (k : ∀ (a : A) st', El a → TpOk st' → Kp st st' → Q a st') : (m_law_element [.ref 1] st).wp Q := by
  simp only [m_law_element]
  simp
  refine scalar_wp t fun a st1 ha t1 k1 => ?_
  refine draw_wp t1 (by decide) fun n st2 na nb t2 k2 l2 => ?_
  simp
  split
  · refine scalar_wp t2 fun b st3 hb t3 k3 => ?_
    exact k _ _ (.inr ⟨a, b, rfl, ha, hb⟩) t3 ((k1.trans k2).trans k3)
  · exact k _ _ (.inl ha) t2 (k1.trans k2)
end Law
namespace Law
open PySem L2 ML
def m_digits_of : MF := mFn 4 2 (mSeq (mSet 2 (mTup mNil))
    (mSeq (mFor (mRng (mCons (mVar 1) mNil)) (.one 3) (mSeq (mSet 2 (mBin addA (mTup (mCons (mBin modA (mVar 0) (mC (.int 65536))) mNil)) (mVar 2)))
    (mSet 0 (mBin fdivA (mVar 0) (mC (.int 65536))))))
    (mRet (mVar 2))))
def m_code_of : Nat → MF
  | 0 => fun _ _ => .bad
  | n + 1 => mFn 2 1 (mSeq (mIfS (mTru (mUn (isiA .tup) (mVar 0))) (mRet (mBin addA (mBin addA (mTup (mCons (mC (.int 4)) mNil)) (mCall (m_code_of n) (mCons (mBin ixA (mVar 0) (mC (.int 0))) mNil))) (mCall (m_code_of n) (mCons (mBin ixA (mVar 0) (mC (.int 1))) mNil)))) mNext)
    (mSeq (mIfS (mTru (mUn (isiA .str) (mVar 0))) (mRet (mBin addA (mTup (mCons (mC (.int 3)) (mCons (mCa lenA (mCons (mVar 0) mNil)) mNil))) (mCa tupleA (mCons (mLc (mSrc (mVar 0)) (.one 1) [1] mYes (mCa ordA (mCons (mVar 1) mNil))) mNil)))) mNext)
    (mSeq (mIfS (mGB (mBin ltA (mVar 0) (mC (.int 0)))) (mRet (mBin addA (mTup (mCons (mC (.int 2)) mNil)) (mCall m_digits_of (mCons (mUn negA (mVar 0)) (mCons (mC (.int 4)) mNil))))) mNext)
    (mRet (mBin addA (mTup (mCons (mC (.int 1)) mNil)) (mCall m_digits_of (mCons (mVar 0) (mCons (mC (.int 4)) mNil))))))))
def digs (n : Nat) : Nat → List Int
  | 0 => []
  | i + 1 => ((n / 65536 ^ i % 65536 : Nat) : Int) :: digs n i
theorem digs_len (n i : Nat) : (digs n i).length = i := by
  induction i with
  | zero => rfl
  | succ i ih => simp [digs, ih]
theorem digs_lt (n i : Nat) : ∀ z ∈ digs n i, 0 ≤ z ∧ z < 65536 := by
  induction i with
  | zero => intro z hz; simp [digs] at hz
  | succ i ih =>
    intro z hz
    simp only [digs, List.mem_cons] at hz
    rcases hz with rfl | hz
    · omega
    · exact ih z hz
def scaCode : A → List Int
  | .str x => 3 :: (x.length : Int) :: x.cps.toList.map fun (c : Nat) => (c : Int)
  | .int i => (if i < 0 then 2 else 1) :: digs i.natAbs 4
  | _ => []
def elCode : A → List Int
  | .tup [x, y] => 4 :: (scaCode x ++ scaCode y)
  | .str x => scaCode (.str x)
  | .int i => scaCode (.int i)
  | _ => []
theorem sca_len {a : A} (h : Sca a) : (scaCode a).length ≤ 22 := by
  rcases h with ⟨x, rfl, hx⟩ | ⟨i, rfl, _, _⟩
  · have := hx.len
    have e : x.cps.size = x.length := rfl
    simp [scaCode]
    omega
  · simp [scaCode, digs_len]
theorem el_len {a : A} (h : El a) : (elCode a).length ≤ 45 := by
  rcases h with h | ⟨x, y, rfl, hx, hy⟩
  · have := sca_len h
    rcases h with ⟨x, rfl, hx⟩ | ⟨i, rfl, _, _⟩
    · simp only [elCode]; omega
    · simp only [elCode]; omega
  · have := sca_len hx
    have := sca_len hy
    simp [elCode]
    omega
theorem sca_el {a : A} (h : Sca a) : elCode a = scaCode a := by
  rcases h with ⟨x, rfl, hx⟩ | ⟨i, rfl, _, _⟩ <;> rfl
def DgI (n c : Nat) (st0 : Store) (i : Nat) (ρ : ML.Env) (st : Store) : Prop := ∃ v : Option A, st = st0 ∧ ρ = [some (.int ((n / 65536 ^ i : Nat) : Int)), some (.int (c : Int)), some (.tup ((digs n i).map A.int)), v]
theorem digits_wp {n c : Nat} {st : Store} {Q : A → Store → Prop} (hc : c ≤ 100000) (k : Q (.tup ((digs n c).map A.int)) st) : (m_digits_of [.int (n : Int), .int (c : Int)] st).wp Q := by
  simp only [m_digits_of]
  simp
  refine ⟨by omega, ?_⟩
  refine for_rng (DgI n c st) ⟨none, rfl, by simp [digs]⟩ ?_ ?_
  · rintro i ρ st' hi ⟨v, rfl, rfl⟩
    refine ⟨_, rfl, ?_⟩
    have e1 : n / 65536 ^ i / 65536 = n / 65536 ^ (i + 1) := by rw [Nat.div_div_eq_div_mul, Nat.pow_succ]
    have hl := digs_len n i
    simp [hl]
    refine ⟨by omega, by decide, some (.int ((i : Nat) : Int)), rfl, ?_⟩
    simp only [digs]
    rw [← e1]
    simp
  · rintro ρ st' ⟨v, rfl, rfl⟩
    simpa using k
theorem lc_chars {tg : Tg} {own : List Nat} {tt : MT} {elt : MX} {ρ0 : ML.Env} {x : Str} {st : Store} {QL : List A → Store → Prop} (I : Nat → Store → List A → Prop) (h0 : I 0 st [])
    (hs : ∀ i c st acc, x.cps[i]? = some c → I i st acc → ∃ ρ1, asgT tg (.str ⟨#[c]⟩) ρ0 st = some ρ1 ∧ (tt ρ1 st).wp fun b st1 => if b = true then (elt ρ1 st1).wp fun y st2 => acc.length < sizeLine ∧ I (i + 1) st2 (acc ++ [y]) else I (i + 1) st1 acc)
    (hd : ∀ st acc, I x.cps.size st acc → QL acc st) : (loopC (.chars x) tg own tt elt ρ0 (Src.size (.chars x) st + 1) 0 st []).wp QL :=
  lc_wp x.cps.size (fun i => .str ⟨#[x.cps.getD i 0]⟩) I (fun i st acc _ => ⟨fun h => by simp [Src.at, h], fun h => by simp [Src.at]; omega⟩) (fun i st acc h q => hs i _ st acc (by simp [h]) q) hd _ _ _ _ (by simp [Src.size]) (Nat.zero_le _) h0
theorem take_succ_map {α β : Type} {f : α → β} {xs : List α} {i : Nat} {c : α} (h : xs[i]? = some c) : (xs.take i).map f ++ [f c] = (xs.take (i + 1)).map f := by
  rw [List.take_add_one, h]
  simp
theorem ords_wp {x : Str} {st : Store} {ρ0 : ML.Env} {j : Nat} {own : List Nat} {QL : List A → Store → Prop} (hj : j < ρ0.length) (hx : x.length ≤ 100000) (k : QL (x.cps.toList.map fun (c : Nat) => A.int (c : Int)) st) :
    (loopC (.chars x) (.one j) own mYes (mCa ordA (mCons (mVar j) mNil)) ρ0 (Src.size (.chars x) st + 1) 0 st []).wp QL := by
  refine lc_chars (fun i st' acc => st' = st ∧ acc = (x.cps.toList.take i).map fun (c : Nat) => A.int (c : Int)) ⟨rfl, by simp⟩ ?_ ?_
  · rintro i c st' acc hc ⟨rfl, rfl⟩
    refine ⟨_, rfl, ?_⟩
    have hz : Str.length ⟨#[c]⟩ = 1 := rfl
    have hx' : x.cps.size ≤ 100000 := hx
    have hg : x.cps.toList[i]? = some c := by simpa using hc
    simp [List.getElem?_set, hj, hz]
    refine ⟨by omega, ?_⟩
    have := take_succ_map (f := fun (c : Nat) => A.int (c : Int)) hg
    simpa using this
  · rintro st' acc ⟨rfl, rfl⟩
    rw [List.take_of_length_le (by simp)]
    exact k
theorem code_sca_wp (n : Nat) {a : A} {st : Store} {Q : A → Store → Prop} (h : Sca a) (k : ∀ st', Grown st st' → Q (.tup ((scaCode a).map A.int)) st') : (m_code_of (n + 1) [a] st).wp Q := by
  simp only [m_code_of]
  rcases h with ⟨x, rfl, hx⟩ | ⟨i, rfl, h1, h2⟩
  · have hl := hx.len
    simp
    refine ⟨by omega, ?_⟩
    refine ords_wp (j := 1) (by simp) (by omega) ?_
    have e : x.cps.size = x.length := rfl
    simp [e]
    refine ⟨by omega, ?_⟩
    have := k (st ++ [.lst (x.cps.toList.map fun (c : Nat) => A.int (c : Int))]) (.one _ _)
    simpa [scaCode, Function.comp_def] using this
  · simp
    split
    · rename_i hn
      have e : -i = ((i.natAbs : Nat) : Int) := by omega
      rw [e]
      refine digits_wp (c := 4) (by decide) ?_
      simp [digs_len]
      have := k st (.refl _)
      simpa [scaCode, hn] using this
    · rename_i hn
      have e : i = ((i.natAbs : Nat) : Int) := by omega
      have := k st (.refl _)
      simp only [scaCode, if_neg hn] at this
      rw [e]
      refine digits_wp (c := 4) (by decide) ?_
      simp [digs_len]
      simpa using this
theorem code_wp (n : Nat) {a : A} {st : Store} {Q : A → Store → Prop} (h : El a) (k : ∀ st', Grown st st' → Q (.tup ((elCode a).map A.int)) st') : (m_code_of (n + 2) [a] st).wp Q := by
  rcases h with h | ⟨x, y, rfl, hx, hy⟩
  · rw [sca_el h] at k
    exact code_sca_wp (n + 1) h k
  · unfold m_code_of
    have l1 := sca_len hx
    have l2 := sca_len hy
    simp
    refine code_sca_wp n hx fun st1 g1 => ?_
    simp
    refine ⟨by omega, ?_⟩
    refine code_sca_wp n hy fun st2 g2 => ?_
    simp
    refine ⟨by omega, ?_⟩
    have := k st2 (g1.trans g2)
    simpa [elCode] using this
theorem digs4 (n : Nat) : digs n 4 = [((n / 281474976710656 % 65536 : Nat) : Int), ((n / 4294967296 % 65536 : Nat) : Int), ((n / 65536 % 65536 : Nat) : Int), ((n % 65536 : Nat) : Int)] := by
  simp [digs]
end Law
namespace Law
open PySem L2 ML
def m_block_code : MF := mFn 3 1 (mSeq (mSet 1 (mLst (mCons (mC (.int 6)) (mCons (mCa lenA (mCons (mVar 0) mNil)) mNil))))
    (mSeq (mFor (mSrc (mVar 0)) (.one 2) (mExpr (mBm extendA (mVar 1) (mCons (mVar 2) mNil))))
    (mRet (mCa tupleA (mCons (mVar 1) mNil)))))
def m_run_code : MF := mFn 2 2 (mRet (mBin addA (mBin addA (mTup (mCons (mC (.int 5)) mNil)) (mCall m_digits_of (mCons (mVar 0) (mCons (mC (.int 2)) mNil)))) (mVar 1)))
inductive Nd where
  | leaf (e : A) | run (b : Nd) (t : Nat) | blk (cs : List Nd)
mutual
def ndA : Nd → A
  | .leaf e => .tup [.str "leaf", e]
  | .run b t => .tup [.str "run", ndA b, .int (t : Int)]
  | .blk cs => .tup [.str "block", .tup (ndAs cs)]
def ndAs : List Nd → List A
  | [] => []
  | c :: cs => ndA c :: ndAs cs
end
mutual
def okN : Nd → Prop
  | .leaf e => El e
  | .run b t => okN b ∧ 2 ≤ t ∧ t ≤ 2000
  | .blk cs => 1 ≤ cs.length ∧ cs.length ≤ 100 ∧ okNs cs
def okNs : List Nd → Prop
  | [] => True
  | c :: cs => okN c ∧ okNs cs
end
mutual
def szN : Nd → Nat
  | .leaf _ => 1
  | .run b t => szN b * t
  | .blk cs => szNs cs
def szNs : List Nd → Nat
  | [] => 0
  | c :: cs => szN c + szNs cs
end
mutual
def dpN : Nd → Nat
  | .leaf _ => 1
  | .run b _ => dpN b + 1
  | .blk cs => dpNs cs + 1
def dpNs : List Nd → Nat
  | [] => 0
  | c :: cs => max (dpN c) (dpNs cs)
end
theorem okNs_iff : ∀ cs : List Nd, okNs cs ↔ ∀ c ∈ cs, okN c
  | [] => by simp [okNs]
  | c :: cs => by simp [okNs, okNs_iff cs]
theorem dpNs_le : ∀ {cs : List Nd} {d : Nat}, (∀ c ∈ cs, dpN c ≤ d) → dpNs cs ≤ d
  | [], d, h => by simp [dpNs]
  | c :: cs, d, h => by
    have h1 := h c (by simp)
    have h2 := dpNs_le (cs := cs) (d := d) fun x hx => h x (by simp [hx])
    simp only [dpNs]
    omega
theorem dp_mem : ∀ {cs : List Nd} {c : Nd}, c ∈ cs → dpN c ≤ dpNs cs
  | d :: cs, c, h => by
    simp only [dpNs]
    rcases List.mem_cons.mp h with rfl | h
    · omega
    · have := dp_mem h
      omega
def isRun : Nd → Bool
  | .run _ _ => true
  | _ => false
theorem draw3_wp {st : Store} {xs : List Int} {many : Int} {Q : A → Store → Prop} (t : TpOk st) (hm : many = xs.length) (hl : xs.length ≤ 1000) (k : ∀ x st', x ∈ xs → TpOk st' → Kp st st' → Q (.int x) st') (hne : xs ≠ []) :
    (m_law_draw [.ref 1, .int many] (st ++ [.lst (xs.map .int)])).wp fun a st1 => (ixA (.ref st.length) a st1).wp Q := by
  have g : Grown st (st ++ [.lst (xs.map .int)]) := ⟨_, rfl⟩
  have hl2 : stL (st ++ [.lst (xs.map .int)]) st.length = some (xs.map .int) := by simp
  have hp := List.length_pos_iff.mpr hne
  refine draw_wp (t.grown g) (by subst hm; omega) fun n st1 na nb t1 k1 l1 => ?_
  rw [w_ixL]
  have hn : n.toNat < xs.length := by omega
  refine ⟨_, k1.stL (by have := t.len; omega) hl2, .int xs[n.toNat], ?_, k _ _ (List.getElem_mem hn) t1 ((Kp.grown g).trans k1)⟩
  rw [atI_nn na, List.getElem?_map, List.getElem?_eq_getElem hn]
  rfl
end Law
namespace Law
open PySem L2 ML
mutual
def codeN : Nd → List Int
  | .leaf e => elCode e
  | .run b t => 5 :: (digs t 2 ++ codeN b)
  | .blk cs => 6 :: (cs.length : Int) :: codesN cs
def codesN : List Nd → List Int
  | [] => []
  | c :: cs => codeN c ++ codesN cs
end
theorem codesN_app : ∀ (xs ys : List Nd), codesN (xs ++ ys) = codesN xs ++ codesN ys
  | [], ys => rfl
  | x :: xs, ys => by simp only [List.cons_append, codesN, codesN_app xs ys, List.append_assoc]
theorem codesN_mem : ∀ {cs : List Nd} {c : Nd}, c ∈ cs → (codeN c).length ≤ (codesN cs).length
  | d :: cs, c, h => by
    simp only [codesN, List.length_append]
    rcases List.mem_cons.mp h with rfl | h
    · omega
    · have := codesN_mem h
      omega
theorem codesN_take {cs : List Nd} {i : Nat} : (codesN (cs.take i)).length ≤ (codesN cs).length := by
  have : cs = cs.take i ++ cs.drop i := (List.take_append_drop i cs).symm
  have e := congrArg (fun z => (codesN z).length) this
  simp only [codesN_app, List.length_append] at e
  omega
mutual
theorem szN_pos : ∀ nd : Nd, okN nd → 1 ≤ szN nd
  | .leaf _, _ => by simp only [szN]; omega
  | .run b t, h => by
    simp only [okN] at h
    have := szN_pos b h.1
    simp only [szN]
    exact Nat.mul_pos this (by omega)
  | .blk cs, h => by
    simp only [okN] at h
    have := szNs_pos cs h.2.2
    simp only [szN]
    omega
theorem szNs_pos : ∀ cs : List Nd, okNs cs → cs.length ≤ szNs cs
  | [], _ => by simp
  | c :: cs, h => by
    simp only [okNs] at h
    have := szN_pos c h.1
    have := szNs_pos cs h.2
    simp only [szNs, List.length_cons]
    omega
end
mutual
theorem codeN_len : ∀ nd : Nd, okN nd → (codeN nd).length ≤ (45 + 3 * dpN nd) * szN nd
  | .leaf e, h => by
    simp only [okN] at h
    have := el_len h
    simp only [codeN, szN, dpN]
    omega
  | .run b t, h => by
    simp only [okN] at h
    have h1 := codeN_len b h.1
    have h2 := szN_pos b h.1
    have h3 : (45 + 3 * dpN b) * szN b + 3 ≤ (45 + 3 * (dpN b + 1)) * szN b := by
      have : (45 + 3 * (dpN b + 1)) * szN b = (45 + 3 * dpN b) * szN b + 3 * szN b := by rw [← Nat.add_mul]; congr 1
      omega
    have h4 : (45 + 3 * (dpN b + 1)) * szN b ≤ (45 + 3 * (dpN b + 1)) * szN b * t := Nat.le_mul_of_pos_right _ (by omega)
    simp only [codeN, szN, dpN, List.length_cons, List.length_append, digs_len]
    rw [← Nat.mul_assoc]
    omega
  | .blk cs, h => by
    simp only [okN] at h
    have h1 := codesN_len cs h.2.2 (dpNs cs) (Nat.le_refl _)
    have h2 := szNs_pos cs h.2.2
    simp only [codeN, szN, dpN, List.length_cons]
    have : (45 + 3 * (dpNs cs + 1)) * szNs cs = (45 + 3 * dpNs cs) * szNs cs + 3 * szNs cs := by rw [← Nat.add_mul]; congr 1
    omega
theorem codesN_len : ∀ cs : List Nd, okNs cs → ∀ d, dpNs cs ≤ d → (codesN cs).length ≤ (45 + 3 * d) * szNs cs
  | [], _, d, _ => by simp [codesN]
  | c :: cs, h, d, hd => by
    simp only [okNs] at h
    simp only [dpNs] at hd
    have h1 := codeN_len c h.1
    have h2 := codesN_len cs h.2 d (by omega)
    have h3 : (45 + 3 * dpN c) * szN c ≤ (45 + 3 * d) * szN c := Nat.mul_le_mul_right _ (by omega)
    simp only [codesN, szNs, List.length_append, Nat.mul_add]
    omega
end
@[simp] theorem leaf_run : ((Str.ofString "leaf") = (Str.ofString "run")) ↔ False := by
  constructor
  · intro h; revert h; decide +kernel
  · exact False.elim
@[simp] theorem run_leaf : ((Str.ofString "run") = (Str.ofString "leaf")) ↔ False := by
  constructor
  · intro h; revert h; decide +kernel
  · exact False.elim
@[simp] theorem block_leaf : ((Str.ofString "block") = (Str.ofString "leaf")) ↔ False := by
  constructor
  · intro h; revert h; decide +kernel
  · exact False.elim
@[simp] theorem block_run : ((Str.ofString "block") = (Str.ofString "run")) ↔ False := by
  constructor
  · intro h; revert h; decide +kernel
  · exact False.elim
def BkI (q : Nat) (st0 : Store) (cs : List Nd) (i : Nat) (ρ : ML.Env) (st : Store) : Prop := ∃ v : Option A, st = st0 ++ [.lst ((6 :: (cs.length : Int) :: codesN (cs.take i)).map A.int)] ∧ ρ = [some (.ref q), some (.ref st0.length), v]
theorem block_code_wp {q : Nat} {cs : List Nd} {st : Store} {Q : A → Store → Prop} (hq : stL st q = some (cs.map fun c => A.tup ((codeN c).map A.int))) (hl : (codesN cs).length ≤ 1000000) (hc : cs.length ≤ 1000)
    (k : ∀ st', Grown st st' → Q (.tup ((codeN (.blk cs)).map A.int)) st') : (m_block_code [.ref q] st).wp Q := by
  simp only [m_block_code]
  simp [hq]
  have hq2 : ∀ zs, stL (st ++ [.lst zs]) q = some (cs.map fun c => A.tup ((codeN c).map A.int)) := fun zs => Grown.stL (.one _ _) hq
  refine for_lst (BkI q st cs) (xs := cs.map fun c => A.tup ((codeN c).map A.int)) (hq2 _) ⟨none, by simp [codesN], rfl⟩ ?_ ?_ ?_
  · rintro i ρ st' ⟨v, rfl, rfl⟩
    exact hq2 _
  · rintro i x ρ st' hx ⟨v, rfl, rfl⟩
    refine ⟨_, rfl, ?_⟩
    rw [List.getElem?_map] at hx
    obtain ⟨c, hc', rfl⟩ := Option.map_eq_some_iff.mp hx
    have ht := codesN_take (cs := cs) (i := i)
    have hm := codesN_mem (List.mem_of_getElem? hc')
    simp
    refine ⟨by omega, some (.tup ((codeN c).map A.int)), ?_, rfl⟩
    rw [List.take_add_one, hc']
    simp [codesN_app, codesN]
  · rintro ρ st' ⟨v, rfl, rfl⟩
    simp
    have := k _ (.one st (.lst ((codeN (.blk cs)).map A.int)))
    simpa [codeN] using this
end Law
namespace Law
open PySem L2 ML
structure Cmp (d : Nat) (a : A) : Prop where
  cl : cleanA a = true
  fw : fewA a = true
  dp : depA a ≤ d
theorem sca_cmp {a : A} (h : Sca a) : Cmp 0 a := by
  rcases h with ⟨x, rfl, hx⟩ | ⟨i, rfl, _, _⟩
  · refine ⟨?_, rfl, by simp [depA]⟩
    simp only [cleanA, PySem.PyData.strOk]
    rw [← Array.all_toList, List.all_eq_true]
    intro c hc
    have := hx.ch c hc
    simp
    omega
  · exact ⟨rfl, rfl, by simp [depA]⟩
theorem Cmp.mono {d e : Nat} {a : A} (h : Cmp d a) (k : d ≤ e) : Cmp e a := ⟨h.cl, h.fw, Nat.le_trans h.dp k⟩
theorem cmps {d : Nat} : ∀ {xs : List A}, (∀ x ∈ xs, Cmp d x) → cleanAs xs = true ∧ fewAs xs = true ∧ depAs xs ≤ d
  | [], _ => ⟨rfl, rfl, by simp [depAs]⟩
  | x :: xs, h => by
    have h1 := h x (by simp)
    obtain ⟨a1, a2, a3⟩ := cmps (xs := xs) (d := d) fun y hy => h y (by simp [hy])
    simp only [cleanAs, fewAs, depAs, h1.cl, h1.fw, a1, a2, Bool.and_self, true_and]
    have := h1.dp
    omega
theorem Cmp.tup {d : Nat} {xs : List A} (h : ∀ x ∈ xs, Cmp d x) (hl : xs.length ≤ 1000000) : Cmp (d + 1) (.tup xs) := by
  obtain ⟨a1, a2, a3⟩ := cmps h
  refine ⟨a1, ?_, ?_⟩
  · simp only [fewA, a2, Bool.and_true]
    simp
    omega
  · simp only [depA]
    omega
theorem el_cmp {a : A} (h : El a) : Cmp 1 a := by
  rcases h with h | ⟨x, y, rfl, hx, hy⟩
  · exact (sca_cmp h).mono (by omega)
  · refine Cmp.tup (d := 0) ?_ (by simp)
    intro z hz
    simp at hz
    rcases hz with rfl | rfl
    · exact sca_cmp hx
    · exact sca_cmp hy
theorem intsOf_map : ∀ ns : List Int, intsOf (ns.map A.int) = some ns
  | [] => rfl
  | n :: ns => by simp only [List.map_cons, intsOf, intsOf_map ns, Option.map_some]
theorem w_sumI {r : Nat} {ns : List Int} {st : Store} {Q : A → Store → Prop} (hr : stL st r = some (ns.map A.int)) (k : Q (.int ns.sum) st) : (sumA [.ref r] st).wp Q := by
  rw [w_sumL]
  exact ⟨_, hr, ns, intsOf_map ns, k⟩
end Law
namespace Law
open PySem L2 ML
def com : List Int → List Int → Prop
  | [], _ => True
  | _, [] => True
  | x :: xs, y :: ys => x = y ∧ com xs ys
theorem com_nil (l : List Int) : com l [] := by cases l <;> trivial
theorem com_app : ∀ {a b u v : List Int}, a.length = b.length → com (a ++ u) (b ++ v) → a = b ∧ com u v
  | [], [], u, v, _, h => ⟨rfl, h⟩
  | x :: xs, y :: ys, u, v, hl, h => by
    obtain ⟨h1, h2⟩ := h
    obtain ⟨h3, h4⟩ := com_app (a := xs) (b := ys) (by simpa using hl) h2
    exact ⟨by rw [h1, h3], h4⟩
theorem digs_inj {n m : Nat} (hn : n < 18446744073709551616) (hm : m < 18446744073709551616) (h : digs n 4 = digs m 4) : n = m := by
  rw [digs4, digs4] at h
  simp only [List.cons.injEq, Int.natCast_inj, and_true] at h
  omega
theorem str_inj {x y : Str} (h : (x.cps.toList.map fun (c : Nat) => (c : Int)) = y.cps.toList.map fun (c : Nat) => (c : Int)) : x = y := by
  have h2 : x.cps.toList = y.cps.toList := (List.map_inj_right (fun a b e => Int.ofNat_inj.mp e)).mp h
  cases x with
  | mk xc =>
    cases y with
    | mk yc =>
      simp only [Str.mk.injEq]
      exact Array.toList_inj.mp h2
theorem sca_com {x y : A} (hx : Sca x) (hy : Sca y) {u v : List Int} (h : com (scaCode x ++ u) (scaCode y ++ v)) : x = y ∧ com u v := by
  rcases hx with ⟨x, rfl, hx⟩ | ⟨i, rfl, h1, h2⟩
  · rcases hy with ⟨y, rfl, hy⟩ | ⟨j, rfl, h3, h4⟩
    · simp only [scaCode, List.cons_append] at h
      obtain ⟨_, h1, h2⟩ := h
      have hl : x.cps.size = y.cps.size := by
        have : (x.length : Int) = (y.length : Int) := h1
        simp only [Str.length] at this
        omega
      obtain ⟨h3, h4⟩ := com_app (by simp [hl]) h2
      exact ⟨by rw [str_inj h3], h4⟩
    · simp only [scaCode, List.cons_append] at h
      obtain ⟨h0, _⟩ := h
      split at h0 <;> omega
  · rcases hy with ⟨y, rfl, hy⟩ | ⟨j, rfl, h3, h4⟩
    · simp only [scaCode, List.cons_append] at h
      obtain ⟨h0, _⟩ := h
      split at h0 <;> omega
    · simp only [scaCode, List.cons_append] at h
      obtain ⟨h0, h5⟩ := h
      obtain ⟨h6, h7⟩ := com_app (by rw [digs_len, digs_len]) h5
      have h8 := digs_inj (by omega) (by omega) h6
      refine ⟨?_, h7⟩
      have : i = j := by
        split at h0 <;> split at h0 <;> omega
      rw [this]
theorem sca_tag {x : A} (h : Sca x) : ∃ t r, scaCode x = t :: r ∧ (t = 1 ∨ t = 2 ∨ t = 3) ∧ 1 ≤ r.length := by
  rcases h with ⟨x, rfl, hx⟩ | ⟨i, rfl, h1, h2⟩
  · exact ⟨3, _, rfl, by omega, by simp⟩
  · exact ⟨_, _, rfl, by split <;> omega, by rw [digs_len]; omega⟩
theorem el_com {a b : A} (ha : El a) (hb : El b) {u v : List Int} (h : com (elCode a ++ u) (elCode b ++ v)) : a = b ∧ com u v := by
  rcases ha with ha | ⟨x, y, rfl, hx, hy⟩
  · rcases hb with hb | ⟨x', y', rfl, hx', hy'⟩
    · rw [sca_el ha, sca_el hb] at h
      exact sca_com ha hb h
    · rw [sca_el ha] at h
      obtain ⟨t, r, e, ht, _⟩ := sca_tag ha
      rw [e] at h
      simp only [elCode, List.cons_append] at h
      obtain ⟨h0, _⟩ := h
      omega
  · rcases hb with hb | ⟨x', y', rfl, hx', hy'⟩
    · rw [sca_el hb] at h
      obtain ⟨t, r, e, ht, _⟩ := sca_tag hb
      rw [e] at h
      simp only [elCode, List.cons_append] at h
      obtain ⟨h0, _⟩ := h
      omega
    · simp only [elCode, List.cons_append, List.append_assoc] at h
      obtain ⟨_, h⟩ := h
      obtain ⟨e1, h⟩ := sca_com hx hx' h
      obtain ⟨e2, h⟩ := sca_com hy hy' h
      exact ⟨by rw [e1, e2], h⟩
def Small (l : List Int) : Prop := ∀ z ∈ l, 0 ≤ z ∧ z ≤ 65535
theorem small_app {l m : List Int} (h : Small l) (k : Small m) : Small (l ++ m) := fun z hz => by
  rcases List.mem_append.mp hz with q | q
  · exact h z q
  · exact k z q
theorem small_cons {x : Int} {l : List Int} (h : 0 ≤ x ∧ x ≤ 65535) (k : Small l) : Small (x :: l) := fun z hz => by
  rcases List.mem_cons.mp hz with rfl | q
  · exact h
  · exact k z q
theorem small_digs (n i : Nat) : Small (digs n i) := fun z hz => by
  have := digs_lt n i z hz
  omega
theorem small_sca {x : A} (h : Sca x) : Small (scaCode x) := by
  rcases h with ⟨x, rfl, hx⟩ | ⟨i, rfl, h1, h2⟩
  · have := hx.len
    refine small_cons (by omega) (small_cons (by omega) fun z hz => ?_)
    obtain ⟨c, hc, rfl⟩ := List.mem_map.mp hz
    have := hx.ch c hc
    omega
  · exact small_cons (by split <;> omega) (small_digs _ _)
theorem small_el {x : A} (h : El x) : Small (elCode x) := by
  rcases h with h | ⟨x, y, rfl, hx, hy⟩
  · rw [sca_el h]
    exact small_sca h
  · exact small_cons (by omega) (small_app (small_sca hx) (small_sca hy))
theorem el_tag {x : A} (h : El x) : ∃ t r, elCode x = t :: r ∧ 1 ≤ t ∧ t ≤ 4 ∧ 1 ≤ r.length := by
  rcases h with h | ⟨x, y, rfl, hx, hy⟩
  · rw [sca_el h]
    obtain ⟨t, r, e, ht, hr⟩ := sca_tag h
    exact ⟨t, r, e, by omega, by omega, hr⟩
  · obtain ⟨t, r, e, ht, hr⟩ := sca_tag hx
    exact ⟨4, _, rfl, by omega, by omega, by rw [e]; simp⟩
end Law
namespace Law
open PySem L2 ML
def isPk (cs : List Int) (j : Nat) : Prop := cs.getD (j - 1) 0 < cs.getD j 0 ∧ cs.getD (j + 1) 0 < cs.getD j 0
instance (cs : List Int) (j : Nat) : Decidable (isPk cs j) := by unfold isPk; infer_instance
def pks (cs : List Int) (m : Nat) : List Nat := ((List.range m).filter fun t => decide (isPk cs (t + 2))).map (· + 2)
def startsL (cs : List Int) : List Nat := if cs = [] then [] else 0 :: pks cs (cs.length - 3)
theorem pks_succ (cs : List Int) (m : Nat) : pks cs (m + 1) = if isPk cs (m + 2) then pks cs m ++ [m + 2] else pks cs m := by
  unfold pks
  rw [List.range_succ, List.filter_append, List.map_append]
  by_cases h : isPk cs (m + 2)
  · simp [h]
  · simp [h]
theorem pks_len (cs : List Int) (m : Nat) : (pks cs m).length ≤ m := by
  unfold pks
  rw [List.length_map]
  exact Nat.le_trans (List.length_filter_le _ _) (by simp)
def m_is_peak : MF := mFn 2 2 (mRet (mAndV (mBin ltA (mBin ixA (mVar 0) (mBin subA (mVar 1) (mC (.int 1)))) (mBin ixA (mVar 0) (mVar 1))) (mBin gtA (mBin ixA (mVar 0) (mVar 1)) (mBin ixA (mVar 0) (mBin addA (mVar 1) (mC (.int 1)))))))
def m_starts_of : MF := mFn 2 1 (mSeq (mIfS (mNot (mTru (mVar 0))) (mRet (mTup mNil)) mNext)
    (mRet (mBin addA (mTup (mCons (mC (.int 0)) mNil)) (mCa tupleA (mCons (mLc (mRng (mCons (mC (.int 2)) (mCons (mBin subA (mCa lenA (mCons (mVar 0) mNil)) (mC (.int 1))) mNil))) (.one 1) [1] (mTru (mCall m_is_peak (mCons (mVar 0) (mCons (mVar 1) mNil)))) (mVar 1)) mNil)))))
theorem ints_get {cs : List Int} {j : Nat} {i : Int} (h : j < cs.length) (e : i = (j : Nat)) : atI (cs.map A.int) i = some (.int (cs.getD j 0)) := by
  subst e
  rw [atI_nn (by omega), Int.toNat_natCast, List.getElem?_map, List.getElem?_eq_getElem h]
  simp [h]
theorem peak_wp {cs : List Int} {i : Int} {j : Nat} {st : Store} {Q : A → Store → Prop} (h : j + 1 < cs.length) (h1 : 1 ≤ j) (e : i = (j : Nat)) (k : Q (.bl (decide (isPk cs j))) st) : (m_is_peak [.tup (cs.map .int), .int i] st).wp Q := by
  have a1 := ints_get (cs := cs) (j := j - 1) (i := i - 1) (by omega) (by omega)
  have a2 := ints_get (cs := cs) (j := j) (i := i) (by omega) (by omega)
  have a3 := ints_get (cs := cs) (j := j + 1) (i := i + 1) (by omega) (by omega)
  simp only [m_is_peak]
  simp [-atI_nn, a1, a2, a3]
  split
  · rename_i h1
    have : decide (cs.getD (j + 1) 0 < cs.getD j 0) = decide (isPk cs j) := by
      unfold isPk
      simp [h1]
    simp only [List.getD_eq_getElem?_getD] at this
    rw [this]
    exact k
  · rename_i h1
    have : decide (isPk cs j) = false := by
      unfold isPk
      simp [h1]
    rw [this] at k
    exact k
theorem starts_wp {cs : List Int} {st : Store} {Q : A → Store → Prop} (hl : cs.length ≤ 100000) (k : ∀ st', Grown st st' → Q (.tup ((startsL cs).map fun (n : Nat) => A.int (n : Int))) st') : (m_starts_of [.tup (cs.map .int)] st).wp Q := by
  simp only [m_starts_of]
  simp
  by_cases hc : cs = []
  · subst hc
    simpa [startsL] using k st (.refl st)
  · simp [hc]
    have hpos : 0 < cs.length := List.length_pos_iff.mpr hc
    refine ⟨by omega, ?_⟩
    have hn : (cs.length - 1 - 2 : Int).toNat = cs.length - 3 := by omega
    rw [hn]
    refine lc_rng (fun i st' acc => st' = st ∧ acc = (pks cs i).map fun (n : Nat) => A.int (n : Int)) ⟨rfl, rfl⟩ ?_ ?_
    · rintro i st' acc hi ⟨rfl, rfl⟩
      refine ⟨_, rfl, ?_⟩
      simp [wipeA]
      refine peak_wp (j := i + 2) (by omega) (by omega) (by omega) ?_
      have hlen := pks_len cs i
      by_cases hp : isPk cs (i + 2)
      · simp [hp, pks_succ]
        exact ⟨by omega, by omega⟩
      · simp [hp, pks_succ]
    · rintro st' acc ⟨rfl, rfl⟩
      have hlen := pks_len cs (cs.length - 3)
      simp
      refine ⟨by omega, ?_⟩
      have := k (st' ++ [.lst ((pks cs (cs.length - 3)).map fun (n : Nat) => A.int (n : Int))]) (.one _ _)
      simpa [startsL, hc] using this
end Law
namespace Law
open PySem L2 ML
noncomputable def m_first_difference : MF := mFn 3 2 (mSeq (mSet 2 (mC (.int 0)))
    (mSeq (mWhile (mAnd (mGB (mBin ltA (mVar 2) (mCa lenA (mCons (mVar 0) mNil)))) (mGB (mBin eqA (mBin ixA (mVar 0) (mVar 2)) (mBin ixA (mVar 1) (mVar 2))))) (mAug 2 iaddA (mC (.int 1))))
    (mRet (mVar 2))))
noncomputable def m_coin_after : MF := mFn 3 2 (mSeq (mSet 2 (mCall m_first_difference (mCons (mVar 0) (mCons (mVar 1) mNil))))
    (mRet (mBin addA (mBin mulA (mC (.int 65536)) (mVar 2)) (mBin ixA (mVar 1) (mVar 2)))))
noncomputable def m_coins_of_codes : MF := mFn 4 1 (mSeq (mSet 1 (mLst mNil))
    (mSeq (mSet 2 (mTup mNil))
    (mSeq (mFor (mSrc (mVar 0)) (.one 3) (mSeq (mExpr (mBm appendA (mVar 1) (mCons (mCall m_coin_after (mCons (mVar 2) (mCons (mVar 3) mNil))) mNil)))
    (mSet 2 (mVar 3))))
    (mRet (mCa tupleA (mCons (mVar 1) mNil))))))
theorem small_codes : (∀ nd : Nd, okN nd → Small (codeN nd)) ∧ True := by
  refine ⟨fun nd h => ?_, trivial⟩
  refine Nd.rec (motive_1 := fun nd => okN nd → Small (codeN nd)) (motive_2 := fun cs => okNs cs → Small (codesN cs)) ?_ ?_ ?_ ?_ ?_ nd h
  · intro e h
    simp only [okN] at h
    simpa only [codeN] using small_el h
  · intro b t ih h
    simp only [okN] at h
    simp only [codeN]
    exact small_cons (by omega) (small_app (small_digs _ _) (ih h.1))
  · intro cs ih h
    simp only [okN] at h
    simp only [codeN]
    exact small_cons (by omega) (small_cons (by omega) (ih h.2.2))
  · intro _ z hz
    simp [codesN] at hz
  · intro c cs h1 h2 h
    simp only [okNs] at h
    simp only [codesN]
    exact small_app (h1 h.1) (h2 h.2)
theorem nd_tag {nd : Nd} (h : okN nd) : ∃ t r, codeN nd = t :: r ∧ 1 ≤ t ∧ t ≤ 6 ∧ 1 ≤ r.length := by
  cases nd with
  | leaf e =>
    simp only [okN] at h
    obtain ⟨t, r, e1, a, b, c⟩ := el_tag h
    exact ⟨t, r, by simpa only [codeN] using e1, a, by omega, c⟩
  | run b t => exact ⟨5, _, by simp only [codeN]; rfl, by omega, by omega, by simp [digs_len]; omega⟩
  | blk cs => exact ⟨6, _, by simp only [codeN]; rfl, by omega, by omega, by simp⟩
mutual
theorem nd_com : ∀ (a b : Nd), okN a → okN b → ∀ u v, com (codeN a ++ u) (codeN b ++ v) → a = b ∧ com u v
  | .leaf e, .leaf e', ha, hb, u, v, h => by
    simp only [okN] at ha hb
    simp only [codeN] at h
    obtain ⟨h1, h2⟩ := el_com ha hb h
    exact ⟨by rw [h1], h2⟩
  | .leaf e, .run b t, ha, hb, u, v, h => by
    simp only [okN] at ha
    obtain ⟨t, r, e1, a1, a2, a3⟩ := el_tag ha
    simp only [codeN, e1, List.cons_append] at h
    have := h.1
    omega
  | .leaf e, .blk cs, ha, hb, u, v, h => by
    simp only [okN] at ha
    obtain ⟨t, r, e1, a1, a2, a3⟩ := el_tag ha
    simp only [codeN, e1, List.cons_append] at h
    have := h.1
    omega
  | .run b t, .leaf e, ha, hb, u, v, h => by
    simp only [okN] at hb
    obtain ⟨t, r, e1, a1, a2, a3⟩ := el_tag hb
    simp only [codeN, e1, List.cons_append] at h
    have := h.1
    omega
  | .run b t, .run b' t', ha, hb, u, v, h => by
    simp only [okN] at ha hb
    simp only [codeN, List.cons_append, List.append_assoc] at h
    obtain ⟨h1, h2⟩ := com_app (by rw [digs_len, digs_len]) h.2
    obtain ⟨h3, h4⟩ := nd_com b b' ha.1 hb.1 u v h2
    have ht : t = t' := by
      simp only [digs, List.cons.injEq, Int.natCast_inj, and_true] at h1
      omega
    exact ⟨by rw [h3, ht], h4⟩
  | .run b t, .blk cs, ha, hb, u, v, h => by
    simp only [codeN, List.cons_append] at h
    have := h.1
    omega
  | .blk cs, .leaf e, ha, hb, u, v, h => by
    simp only [okN] at hb
    obtain ⟨t, r, e1, a1, a2, a3⟩ := el_tag hb
    simp only [codeN, e1, List.cons_append] at h
    have := h.1
    omega
  | .blk cs, .run b t, ha, hb, u, v, h => by
    simp only [codeN, List.cons_append] at h
    have := h.1
    omega
  | .blk cs, .blk ds, ha, hb, u, v, h => by
    simp only [okN] at ha hb
    simp only [codeN, List.cons_append] at h
    obtain ⟨_, h1, h2⟩ := h
    obtain ⟨h3, h4⟩ := nds_com cs ds (by omega) ha.2.2 hb.2.2 u v h2
    exact ⟨by rw [h3], h4⟩
theorem nds_com : ∀ (as bs : List Nd), as.length = bs.length → okNs as → okNs bs → ∀ u v, com (codesN as ++ u) (codesN bs ++ v) → as = bs ∧ com u v
  | [], [], _, _, _, u, v, h => ⟨rfl, h⟩
  | [], _ :: _, hl, _, _, u, v, h => by simp at hl
  | _ :: _, [], hl, _, _, u, v, h => by simp at hl
  | a :: as, b :: bs, hl, ha, hb, u, v, h => by
    simp only [okNs] at ha hb
    simp only [codesN, List.append_assoc] at h
    obtain ⟨h1, h2⟩ := nd_com a b ha.1 hb.1 _ _ h
    obtain ⟨h3, h4⟩ := nds_com as bs (by simpa using hl) ha.2 hb.2 u v h2
    exact ⟨by rw [h1, h3], h4⟩
end
theorem leaf_block : ¬ (Str.ofString "leaf" = Str.ofString "block") := by decide +kernel
structure It1 (nd : Nd) : Prop where
  ok : okN nd
  sz : szN nd ≤ 2000
  dp : dpN nd ≤ 28
theorem It1.len {nd : Nd} (h : It1 nd) : (codeN nd).length ≤ 300000 := by
  have := codeN_len nd h.ok
  have h1 := h.sz
  have h2 := h.dp
  have h3 : (45 + 3 * dpN nd) * szN nd ≤ 129 * 2000 := Nat.mul_le_mul (by omega) h1
  omega
structure Row (xs : List Nd) : Prop where
  it : ∀ c ∈ xs, It1 c
  ap : ∀ (i : Nat) a b, xs[i]? = some a → xs[i + 1]? = some b → a ≠ b
@[simp] theorem w_iadd {i j : Int} {st : Store} {Q : A → Store → Prop} : (iaddA (.int i) (.int j) st).wp Q ↔ Q (.int (i + j)) st := Iff.rfl
def fd : List Int → List Int → Nat
  | x :: xs, y :: ys => if x = y then fd xs ys + 1 else 0
  | _, _ => 0
theorem fd_nil (m : List Int) : fd [] m = 0 := by cases m <;> rfl
theorem fd_lt : ∀ {l m : List Int} {i : Nat}, i < fd l m → ∃ x, l[i]? = some x ∧ m[i]? = some x
  | [], m, i, h => by rw [fd_nil] at h; omega
  | x :: xs, [], i, h => by simp [fd] at h
  | x :: xs, y :: ys, i, h => by
    simp only [fd] at h
    split at h
    · rename_i e
      cases i with
      | zero => exact ⟨x, rfl, by rw [e]; rfl⟩
      | succ i =>
        obtain ⟨z, h1, h2⟩ := fd_lt (l := xs) (m := ys) (i := i) (by omega)
        exact ⟨z, by simpa using h1, by simpa using h2⟩
    · omega
theorem fd_at : ∀ {l m : List Int}, ¬ com l m → ∃ x y, l[fd l m]? = some x ∧ m[fd l m]? = some y ∧ x ≠ y
  | [], m, h => absurd (by cases m <;> trivial) h
  | x :: xs, [], h => absurd (com_nil _) h
  | x :: xs, y :: ys, h => by
    by_cases e : x = y
    · have h2 : ¬ com xs ys := fun z => h ⟨e, z⟩
      obtain ⟨a, b, h3, h4, h5⟩ := fd_at h2
      refine ⟨a, b, ?_, ?_, h5⟩
      · simp only [fd, if_pos e]
        simpa using h3
      · simp only [fd, if_pos e]
        simpa using h4
    · exact ⟨x, y, by simp only [fd, if_neg e]; rfl, by simp only [fd, if_neg e]; rfl, e⟩
def coinV (b c : List Int) : Int := 65536 * (fd b c : Nat) + c.getD (fd b c) 0
def Bef (b c : List Int) : Prop := b = [] ∨ ¬ com b c
theorem bef_in {b c : List Int} (h : Bef b c) (hc : c ≠ []) : fd b c < c.length := by
  rcases h with rfl | h
  · rw [fd_nil]
    exact List.length_pos_iff.mpr hc
  · obtain ⟨x, y, _, h2, _⟩ := fd_at h
    exact (List.getElem?_eq_some_iff.mp h2).1
def FdI (b c : List Int) (st0 : Store) (ρ : ML.Env) (st : Store) : Prop := ∃ p : Nat, st = st0 ∧ p ≤ fd b c ∧ ρ = [some (.tup (b.map A.int)), some (.tup (c.map A.int)), some (.int (p : Int))]
theorem first_wp {b c : List Int} {st : Store} {Q : A → Store → Prop} (h : Bef b c) (k : Q (.int ((fd b c : Nat) : Int)) st) : (m_first_difference [.tup (b.map A.int), .tup (c.map A.int)] st).wp Q := by
  simp only [m_first_difference]
  rw [wp_fn]
  refine ⟨rfl, ?_⟩
  simp only [List.map_cons, List.map_nil, List.cons_append, List.nil_append, List.replicate]
  refine seq_cut (FdI b c st) ?_ ?_
  · simp
    exact ⟨0, rfl, by omega, rfl⟩
  intro ρ st1 h1
  refine seq_cut (fun ρ st2 => st2 = st ∧ ρ = [some (.tup (b.map A.int)), some (.tup (c.map A.int)), some (.int ((fd b c : Nat) : Int))]) ?_ ?_
  · refine while_wp (FdI b c st) (fun ρ _ => match ρ with
      | [_, _, some (.int p)] => fd b c - p.toNat
      | _ => 0) ?_ h1
    rintro ρ st2 ⟨p, rfl, hp, rfl⟩
    simp only [wp_and, wp_gb, wp_bin, wp_var, wp_ca, wp_cons, wp_nil, List.getElem?_cons_succ, List.getElem?_cons_zero, Option.some.injEq, ex_eq, w_lenT, List.length_map, w_lt, w_getB, decide_eq_true_eq]
    split
    · rename_i hlt
      have hlt' : p < b.length := by omega
      rcases h with rfl | h
      · simp at hlt'
      obtain ⟨x, y, f1, f2, f3⟩ := fd_at h
      have hpc : p < c.length := by
        have := (List.getElem?_eq_some_iff.mp f2).1
        omega
      have a1 := ints_get (cs := b) (j := p) (i := (p : Int)) hlt' rfl
      have a2 := ints_get (cs := c) (j := p) (i := (p : Int)) hpc rfl
      simp only [w_ixT, a1, a2, Option.some.injEq, ex_eq, w_eq, w_getB, decide_eq_true_eq]
      by_cases hq : p < fd b c
      · obtain ⟨z, z1, z2⟩ := fd_lt hq
        have e1 : b.getD p 0 = c.getD p 0 := by simp [List.getD_eq_getElem?_getD, z1, z2]
        rw [if_pos e1]
        simp
        exact ⟨⟨p + 1, rfl, by omega, by simp⟩, by omega⟩
      · have e : p = fd b c := by omega
        have e1 : ¬ b.getD p 0 = c.getD p 0 := by
          rw [e]
          simp only [List.getD_eq_getElem?_getD, f1, f2, Option.getD_some]
          exact f3
        rw [if_neg e1]
        exact ⟨trivial, by rw [e]⟩
    · rename_i hge
      have : p = fd b c := by
        rcases h with rfl | h
        · rw [fd_nil] at hp ⊢
          omega
        · obtain ⟨x, y, f1, _, _⟩ := fd_at h
          have := (List.getElem?_eq_some_iff.mp f1).1
          omega
      exact ⟨trivial, by rw [this]⟩
  rintro ρ st2 ⟨rfl, rfl⟩
  simpa using k
theorem coin_wp {b c : List Int} {st : Store} {Q : A → Store → Prop} (h : Bef b c) (hc : c ≠ []) (hl : c.length ≤ 1000000) (k : Q (.int (coinV b c)) st) : (m_coin_after [.tup (b.map A.int), .tup (c.map A.int)] st).wp Q := by
  simp only [m_coin_after]
  rw [wp_fn]
  refine ⟨rfl, ?_⟩
  simp only [List.map_cons, List.map_nil, List.cons_append, List.nil_append, List.replicate]
  refine seq_cut (fun ρ st2 => st2 = st ∧ ρ = [some (.tup (b.map A.int)), some (.tup (c.map A.int)), some (.int ((fd b c : Nat) : Int))]) ?_ ?_
  · simp
    exact first_wp h ⟨rfl, rfl⟩
  rintro ρ st2 ⟨rfl, rfl⟩
  have a2 := ints_get (cs := c) (j := fd b c) (i := ((fd b c : Nat) : Int)) (bef_in h hc) rfl
  simp [-atI_nn, -List.getD_eq_getElem?_getD, a2]
  exact ⟨cmul_l (by decide) (by decide), k⟩
def bef (xs : List Nd) : Nat → List Int
  | 0 => []
  | i + 1 => (xs[i]?.map codeN).getD []
def cod (xs : List Nd) (i : Nat) : List Int := (xs[i]?.map codeN).getD []
def coinsN (xs : List Nd) : List Int := (List.range xs.length).map fun i => coinV (bef xs i) (cod xs i)
theorem cod_some {xs : List Nd} {i : Nat} {c : Nd} (h : xs[i]? = some c) : cod xs i = codeN c := by simp [cod, h]
theorem nd_ne {nd : Nd} (h : okN nd) : codeN nd ≠ [] := by
  obtain ⟨t, r, e, _⟩ := nd_tag h
  rw [e]
  simp
theorem row_bef {xs : List Nd} (h : Row xs) {i : Nat} {c : Nd} (hi : xs[i]? = some c) : Bef (bef xs i) (codeN c) := by
  cases i with
  | zero => exact .inl rfl
  | succ i =>
    have hlt := (List.getElem?_eq_some_iff.mp hi).1
    have e : xs[i]? = some xs[i] := List.getElem?_eq_getElem (by omega)
    refine .inr ?_
    simp only [bef, e, Option.map_some, Option.getD_some]
    intro z
    have := (nd_com xs[i] c (h.it _ (List.getElem_mem _)).ok (h.it _ (List.mem_of_getElem? hi)).ok [] [] (by simpa using z)).1
    exact h.ap i _ _ e hi this
theorem coins_len (xs : List Nd) : (coinsN xs).length = xs.length := by simp [coinsN]
theorem coins_get {xs : List Nd} {i : Nat} (h : i < xs.length) : (coinsN xs)[i]? = some (coinV (bef xs i) (cod xs i)) := by
  simp [coinsN, h]
theorem coins_take {xs : List Nd} {i : Nat} (h : i < xs.length) : (coinsN xs).take (i + 1) = (coinsN xs).take i ++ [coinV (bef xs i) (cod xs i)] := by
  rw [List.take_add_one, coins_get h]
  rfl
theorem grown_set' {a b : Store} {r : Nat} {o : Ob} (h : Grown a b) (hr : a.length ≤ r) : Grown a (b.set r o) := by
  obtain ⟨g, rfl⟩ := h
  exact ⟨g.set (r - a.length) o, by rw [List.set_append_right _ _ hr]⟩
def CcI (xs : List Nd) (q : Nat) (st0 : Store) (r : Nat) (i : Nat) (ρ : ML.Env) (st : Store) : Prop := ∃ v : Option A, Grown st0 st ∧ stL st q = some (xs.map fun c => A.tup ((codeN c).map A.int)) ∧ stL st r = some (((coinsN xs).take i).map A.int) ∧ q ≠ r ∧ ρ = [some (.ref q), some (.ref r), some (.tup ((bef xs i).map A.int)), v]
theorem codes_wp {xs : List Nd} {q : Nat} {st : Store} {Q : A → Store → Prop} (h : Row xs) (hl : xs.length ≤ 10000) (hq : stL st q = some (xs.map fun c => A.tup ((codeN c).map A.int))) (k : ∀ st', Grown st st' → Q (.tup ((coinsN xs).map A.int)) st') : (m_coins_of_codes [.ref q] st).wp Q := by
  simp only [m_coins_of_codes]
  rw [wp_fn]
  refine ⟨rfl, ?_⟩
  simp only [List.map_cons, List.map_nil, List.cons_append, List.nil_append, List.replicate]
  have hlt := (List.getElem?_eq_some_iff.mp (stL_eq hq)).1
  refine seq_cut (fun ρ st' => st' = st ++ [.lst []] ∧ ρ = [some (.ref q), some (.ref st.length), none, none]) ?_ ?_
  · simp [sizeLine]
  rintro ρ st1 ⟨e1, rfl⟩
  refine seq_cut (fun ρ st' => st' = st1 ∧ ρ = [some (.ref q), some (.ref st.length), some (.tup []), none]) ?_ ?_
  · simp [sizeLine]
  rintro ρ st2 ⟨e2, rfl⟩
  have hq2 : stL st2 q = some (xs.map fun c => A.tup ((codeN c).map A.int)) := by
    rw [e2, e1]
    exact Grown.stL (.one _ _) hq
  refine seq_cut (CcI xs q st st.length xs.length) ?_ ?_
  · simp only [sp_for, wp_src, wp_var, List.getElem?_cons_zero, Option.some.injEq, ex_eq, w_srcL, hq2]
    refine ⟨rfl, ?_⟩
    refine for_lst (CcI xs q st st.length) (xs := xs.map fun c => A.tup ((codeN c).map A.int)) hq2 ⟨none, by rw [e2, e1]; exact .one _ _, hq2, by rw [e2, e1]; simp, by omega, rfl⟩ ?_ ?_ ?_
    · rintro i ρ st3 ⟨v, g, h1, h2, h3, rfl⟩
      exact h1
    · rintro i x ρ st3 hx ⟨v, g, h1, h2, h3, rfl⟩
      refine ⟨_, rfl, ?_⟩
      rw [List.getElem?_map] at hx
      obtain ⟨c, hc', rfl⟩ := Option.map_eq_some_iff.mp hx
      have hi := (List.getElem?_eq_some_iff.mp hc').1
      have hit := h.it c (List.mem_of_getElem? hc')
      have hln := hit.len
      simp only [List.set_cons_succ, List.set_cons_zero, sp_seq, sp_expr, wp_bm, wp_var, wp_cons, wp_nil, wp_call, List.getElem?_cons_succ, List.getElem?_cons_zero, Option.some.injEq, ex_eq, isL_ref, h2, Option.isSome_some]
      refine ⟨trivial, ?_⟩
      refine coin_wp (row_bef h hc') (nd_ne hit.ok) (by omega) ?_
      rw [w_append]
      refine ⟨_, h2, by simp [coins_len, sizeLine]; omega, ?_⟩
      simp
      refine ⟨some (.tup ((codeN c).map A.int)), grown_set' g (Nat.le_refl _), by rw [stL_set_ne (Ne.symm h3)]; exact h1, ?_, h3, ?_⟩
      · rw [stL_set_self h2, coins_take hi, cod_some hc']
        simp
      · simp [bef, hc']
    · rintro ρ st3 ⟨v, g, h1, h2, h3, rfl⟩
      exact ⟨v, g, h1, by simpa using h2, h3, by simp⟩
  rintro ρ st3 ⟨v, g, h1, h2, h3, rfl⟩
  have e : (coinsN xs).take xs.length = coinsN xs := List.take_of_length_le (by rw [coins_len]; omega)
  rw [e] at h2
  simp [h2]
  exact k st3 g
theorem coins_ne {xs : List Nd} (h : Row xs) {i : Nat} (hi : i + 1 < xs.length) : coinV (bef xs i) (cod xs i) ≠ coinV (bef xs (i + 1)) (cod xs (i + 1)) := by
  have e0 : xs[i]? = some xs[i] := List.getElem?_eq_getElem (by omega)
  have e1 : xs[i + 1]? = some xs[i + 1] := List.getElem?_eq_getElem hi
  have i0 := h.it _ (List.getElem_mem (show i < xs.length by omega))
  have i1 := h.it _ (List.getElem_mem hi)
  have b0 := row_bef h e0
  have b1 := row_bef h e1
  rw [cod_some e0, cod_some e1]
  have eb : bef xs (i + 1) = codeN xs[i] := by simp [bef, e0]
  rw [eb] at b1 ⊢
  have hn : ¬ com (codeN xs[i]) (codeN xs[i + 1]) := by
    rcases b1 with z | z
    · exact absurd z (nd_ne i0.ok)
    · exact z
  obtain ⟨x, y, f1, f2, f3⟩ := fd_at hn
  have p0 := bef_in b0 (nd_ne i0.ok)
  generalize fd (bef xs i) (codeN xs[i]) = p at *
  have s0 := small_codes.1 _ i0.ok
  have s1 := small_codes.1 _ i1.ok
  have g0 : (codeN xs[i])[fd (bef xs i) (codeN xs[i])]? = (codeN xs[i])[fd (bef xs i) (codeN xs[i])]? := rfl
  intro z
  unfold coinV at z
  have hq := bef_in b0 (nd_ne i0.ok)
  have u1 : ∃ u, (codeN xs[i]).getD (fd (bef xs i) (codeN xs[i])) 0 = u ∧ 0 ≤ u ∧ u ≤ 65535 := ⟨_, rfl, by
    rw [List.getD_eq_getElem?_getD, List.getElem?_eq_getElem hq]
    exact s0 _ (List.getElem_mem hq)⟩
  have u2 : (codeN xs[i + 1]).getD (fd (codeN xs[i]) (codeN xs[i + 1])) 0 = y := by rw [List.getD_eq_getElem?_getD, f2]; rfl
  have u3 := s1 y (List.mem_of_getElem? f2)
  obtain ⟨u, hu, hu1, hu2⟩ := u1
  rw [hu, u2] at z
  have hp : fd (bef xs i) (codeN xs[i]) = fd (codeN xs[i]) (codeN xs[i + 1]) := by omega
  have hy : u = y := by omega
  rw [hp, List.getD_eq_getElem?_getD, f1] at hu
  exact f3 (by simpa [hy] using hu)
end Law
namespace Law
open PySem L2 ML
def m_mix : MF := mFn 4 2 (mSeq (mSet 2 (mBin xorA (mVar 0) (mVar 1)))
    (mSeq (mSet 3 (mBin subA (mUn bitsA (mBin andA (mVar 2) (mUn negA (mVar 2)))) (mC (.int 1))))
    (mRet (mBin addA (mBin mulA (mC (.int 2)) (mVar 3)) (mBin andA (mBin shrA (mVar 1) (mVar 3)) (mC (.int 1)))))))
theorem and_even_odd (e g : Nat) : (2 * e) &&& (2 * g + 1) = 2 * (e &&& g) := by
  refine Nat.eq_of_testBit_eq fun i => ?_
  cases i with
  | zero => simp [Nat.testBit_and, Nat.testBit_zero]
  | succ i =>
    rw [Nat.testBit_and, Nat.testBit_succ, Nat.testBit_succ, Nat.testBit_succ]
    have h1 : 2 * e / 2 = e := by omega
    have h2 : (2 * g + 1) / 2 = g := by omega
    have h3 : 2 * (e &&& g) / 2 = e &&& g := by omega
    rw [h1, h2, h3, Nat.testBit_and]
theorem and_odd_even (e g : Nat) : (2 * e + 1) &&& (2 * g) = 2 * (e &&& g) := by
  rw [Nat.and_comm, and_even_odd, Nat.and_comm]
theorem low_and (k : Nat) : ∀ p : Nat, (2 ^ p * (2 * k + 1)) &&& (2 ^ p * (2 * k + 1) - 1) = 2 ^ p * (2 * k)
  | 0 => by
    have : 2 * k + 1 - 1 = 2 * k := by omega
    rw [Nat.pow_zero, Nat.one_mul, Nat.one_mul, this, and_odd_even, Nat.and_self]
  | p + 1 => by
    have hp : 0 < 2 ^ p := Nat.two_pow_pos p
    have h1 : 1 ≤ 2 ^ p * (2 * k + 1) := Nat.mul_pos hp (by omega)
    have e1 : 2 ^ (p + 1) * (2 * k + 1) = 2 * (2 ^ p * (2 * k + 1)) := by rw [Nat.pow_succ]; ac_rfl
    have e2 : 2 * (2 ^ p * (2 * k + 1)) - 1 = 2 * (2 ^ p * (2 * k + 1) - 1) + 1 := by omega
    rw [e1, e2, and_even_odd, low_and k p, Nat.pow_succ]
    ac_rfl
theorem xor_parts (a b : Nat) : a ^^^ b = 2 * ((a / 2) ^^^ (b / 2)) + (if a % 2 = b % 2 then 0 else 1) := by
  refine Nat.eq_of_testBit_eq fun i => ?_
  cases i with
  | zero =>
    rw [Nat.testBit_xor, Nat.testBit_zero, Nat.testBit_zero, Nat.testBit_zero]
    rcases Nat.mod_two_eq_zero_or_one a with h | h <;> rcases Nat.mod_two_eq_zero_or_one b with h' | h' <;> simp [h, h']
  | succ i =>
    rw [Nat.testBit_xor, Nat.testBit_succ, Nat.testBit_succ, Nat.testBit_succ]
    have h3 : (2 * ((a / 2) ^^^ (b / 2)) + (if a % 2 = b % 2 then 0 else 1)) / 2 = (a / 2) ^^^ (b / 2) := by split <;> omega
    rw [h3, Nat.testBit_xor]
structure Low (a b p : Nat) : Prop where
  below : a % 2 ^ p = b % 2 ^ p
  at_ : a / 2 ^ p % 2 ≠ b / 2 ^ p % 2
  xor : ∃ k, a ^^^ b = 2 ^ p * (2 * k + 1)
theorem low_ex : ∀ (f a b : Nat), a < 2 ^ f → b < 2 ^ f → a ≠ b → ∃ p, p < f ∧ Low a b p
  | 0, a, b, ha, hb, h => by simp at ha hb; omega
  | f + 1, a, b, ha, hb, h => by
    have hx := xor_parts a b
    by_cases c : a % 2 = b % 2
    · rw [Nat.pow_succ] at ha hb
      obtain ⟨p, hp, l⟩ := low_ex f (a / 2) (b / 2) (by omega) (by omega) (by omega)
      refine ⟨p + 1, by omega, ?_, ?_, ?_⟩
      · have := l.below
        rw [Nat.pow_succ, Nat.mul_comm, Nat.mod_mul, Nat.mod_mul, this, c]
      · have := l.at_
        rw [Nat.pow_succ, Nat.mul_comm, ← Nat.div_div_eq_div_mul, ← Nat.div_div_eq_div_mul]
        exact this
      · obtain ⟨k, hk⟩ := l.xor
        refine ⟨k, ?_⟩
        rw [hx, if_pos c, hk, Nat.pow_succ]
        simp only [Nat.add_zero]
        ac_rfl
    · refine ⟨0, by omega, by simp [Nat.mod_one], by simpa using c, (a / 2) ^^^ (b / 2), ?_⟩
      rw [hx, if_neg c]
      simp
theorem low_one {a b p q : Nat} (h : Low a b p) (k : Low a b q) : p = q := by
  have key : ∀ {p q}, Low a b p → Low a b q → ¬ p < q := fun {p q} h k l => by
    apply h.at_
    have hb := k.below
    have e : ∀ x : Nat, x % 2 ^ q / 2 ^ p % 2 = x / 2 ^ p % 2 := fun x => by
      have h2 : 2 ^ q = 2 ^ p * (2 * 2 ^ (q - p - 1)) := by
        rw [← Nat.pow_succ', ← Nat.pow_add]
        congr 1
        omega
      rw [h2, Nat.mod_mul_right_div_self, Nat.mod_mul_right_mod]
    rw [← e a, ← e b, hb]
  rcases Nat.lt_trichotomy p q with l | l | l
  · exact absurd l (key h k)
  · exact l
  · exact absurd l (key k h)
def mixV (b p : Nat) : Int := 2 * (p : Int) + ((b / 2 ^ p % 2 : Nat) : Int)
theorem bits_pow (p : Nat) : Builtin.Int.intBits ((2 ^ p : Nat) : Int) = p + 1 := by
  unfold Builtin.Int.intBits
  have h : 0 < 2 ^ p := Nat.two_pow_pos p
  have : (((2 ^ p : Nat) : Int) == 0) = false := by
    rw [beq_eq_false_iff_ne]
    omega
  rw [this, if_neg (by decide), Int.natAbs_natCast, Nat.log2_two_pow]
theorem and_neg {d : Nat} (h : 0 < d) : Builtin.bitAnd (d : Int) (-(d : Int)) = ((d - (d &&& (d - 1)) : Nat) : Int) := by
  unfold Builtin.bitAnd
  have h1 : decide (0 ≤ (d : Int)) = true := by simp
  have h2 : decide (0 ≤ -(d : Int)) = false := by simp; omega
  rw [h1, h2]
  show (d : Int) - (((d : Int).toNat &&& (Builtin.bitNot (-(d : Int))).toNat : Nat) : Int) = _
  have h3 : (Builtin.bitNot (-(d : Int))).toNat = d - 1 := by
    unfold Builtin.bitNot
    omega
  rw [h3, Int.toNat_natCast]
  have := Nat.and_le_left (n := d) (m := d - 1)
  omega
theorem mix_wp {a b p : Nat} (l : Low a b p) {st : Store} {Q : A → Store → Prop} (k : Q (.int (mixV b p)) st) : (m_mix [.int (a : Int), .int (b : Int)] st).wp Q := by
  obtain ⟨c, hc⟩ := l.xor
  have hp : 0 < 2 ^ p := Nat.two_pow_pos p
  have hpos : 0 < a ^^^ b := by rw [hc]; exact Nat.mul_pos hp (by omega)
  have e1 : Builtin.bitXor (a : Int) (b : Int) = ((a ^^^ b : Nat) : Int) := by rw [Bits.bitXor_pp (by omega) (by omega)]; rfl
  have e2 : Builtin.bitAnd ((a ^^^ b : Nat) : Int) (-((a ^^^ b : Nat) : Int)) = ((2 ^ p : Nat) : Int) := by
    rw [and_neg hpos]
    congr 1
    rw [hc, low_and, ← Nat.mul_sub]
    have : 2 * c + 1 - 2 * c = 1 := by omega
    rw [this, Nat.mul_one]
  have e3 : (((p + 1 : Nat) : Int) - 1) = (p : Int) := by omega
  have e4 : Builtin.bitAnd ((b : Int) / 2 ^ p) 1 = ((b / 2 ^ p % 2 : Nat) : Int) := by
    have := Bits.bit_at (x := (b : Int)) p
    rw [Int.fdiv_eq_ediv_of_nonneg _ (Int.le_of_lt (Int.pow_pos (by decide)))] at this
    rw [this]
    push_cast
    rfl
  simp only [m_mix]
  simp only [wp_fn, sp_seq, sp_set, wp_bin, wp_un, wp_var, wp_c, sp_ret, w_xor, w_neg, w_and, w_bits, w_sub, w_shr, w_mul, w_add, List.map_cons, List.map_nil, List.length_cons, List.length_nil, Nat.reduceAdd, Nat.reduceSub, List.reduceReplicate, List.cons_append, List.nil_append, List.getElem?_cons_zero, List.getElem?_cons_succ, Option.some.injEq, ex_eq, List.set_cons_succ, List.set_cons_zero, e1, e2, bits_pow, e3, Int.toNat_natCast, e4, true_and]
  exact ⟨cmul_l (by decide) (by decide), by omega, k⟩
theorem mixV_ne {a b c p q : Nat} (l : Low a b p) (k : Low b c q) : mixV b p ≠ mixV c q := fun h => by
  unfold mixV at h
  have h1 : b / 2 ^ p % 2 < 2 := Nat.mod_lt _ (by decide)
  have h2 : c / 2 ^ q % 2 < 2 := Nat.mod_lt _ (by decide)
  have e : p = q := by omega
  subst e
  exact k.at_ (by omega)
open Classical in
noncomputable def lowP (a b : Nat) : Nat := if h : ∃ p, Low a b p then h.choose else 0
noncomputable def mixN (a b : Nat) : Nat := 2 * lowP a b + b / 2 ^ lowP a b % 2
theorem low_of {a b : Nat} (h : a ≠ b) : Low a b (lowP a b) := by
  obtain ⟨p, _, l⟩ := low_ex (a + b) a b (Nat.lt_of_lt_of_le Nat.lt_two_pow_self (Nat.pow_le_pow_right (by decide) (Nat.le_add_right a b))) (Nat.lt_of_lt_of_le Nat.lt_two_pow_self (Nat.pow_le_pow_right (by decide) (Nat.le_add_left b a))) h
  have hx : ∃ p, Low a b p := ⟨p, l⟩
  unfold lowP
  rw [dif_pos hx]
  exact hx.choose_spec
theorem mixV_N {a b : Nat} : mixV b (lowP a b) = ((mixN a b : Nat) : Int) := by
  unfold mixV mixN
  omega
theorem mixN_lt {a b f : Nat} (h : a ≠ b) (ha : a < 2 ^ f) (hb : b < 2 ^ f) : mixN a b < 2 * f := by
  obtain ⟨p, hp, l⟩ := low_ex f a b ha hb h
  have e := low_one l (low_of h)
  subst e
  unfold mixN
  have := Nat.mod_lt (b / 2 ^ lowP a b) (show 0 < 2 by decide)
  omega
theorem mixN_ne {a b c : Nat} (h : a ≠ b) (k : b ≠ c) : mixN a b ≠ mixN b c := fun e => by
  apply mixV_ne (low_of h) (low_of k)
  rw [mixV_N, mixV_N, e]
theorem mixN_first {a b : Nat} (h : a ≠ b) : a % 2 ≠ mixN a b := fun e => by
  have l := low_of h
  unfold mixN at e
  have h1 := Nat.mod_lt a (show 0 < 2 by decide)
  have h2 := Nat.mod_lt (b / 2 ^ lowP a b) (show 0 < 2 by decide)
  have z : lowP a b = 0 := by omega
  rw [z] at l e
  have := l.at_
  simp at this e
  omega
theorem mixN_wp {a b : Nat} (h : a ≠ b) {st : Store} {Q : A → Store → Prop} (k : Q (.int ((mixN a b : Nat) : Int)) st) : (m_mix [.int (a : Int), .int (b : Int)] st).wp Q := mix_wp (low_of h) (by rw [mixV_N]; exact k)
def Apart (ns : List Nat) : Prop := ∀ i, i + 1 < ns.length → ns.getD i 0 ≠ ns.getD (i + 1) 0
noncomputable def roundL (ns : List Nat) : List Nat := (ns.take 1).map (· % 2) ++ (List.range (ns.length - 1)).map fun i => mixN (ns.getD i 0) (ns.getD (i + 1) 0)
theorem round_len (ns : List Nat) : (roundL ns).length = ns.length := by
  unfold roundL
  cases ns <;> simp
theorem round_zero {ns : List Nat} (h : 0 < ns.length) : (roundL ns).getD 0 0 = ns.getD 0 0 % 2 := by
  cases ns with
  | nil => simp at h
  | cons x r => simp [roundL]
theorem round_succ {ns : List Nat} {i : Nat} (h : i + 1 < ns.length) : (roundL ns).getD (i + 1) 0 = mixN (ns.getD i 0) (ns.getD (i + 1) 0) := by
  cases ns with
  | nil => simp at h
  | cons x r =>
    simp only [List.length_cons] at h
    have hi : i < r.length := by omega
    simp [roundL, List.getElem?_append, hi]
theorem round_apart {ns : List Nat} (h : Apart ns) : Apart (roundL ns) := fun i hi => by
  rw [round_len] at hi
  rw [round_succ hi]
  cases i with
  | zero =>
    rw [round_zero (by omega)]
    exact mixN_first (h 0 hi)
  | succ i =>
    rw [round_succ (by omega)]
    exact mixN_ne (h i (by omega)) (h (i + 1) hi)
theorem round_lt {ns : List Nat} {f : Nat} (hf : 1 ≤ f) (h : Apart ns) (hl : ∀ i, i < ns.length → ns.getD i 0 < 2 ^ f) : ∀ i, i < (roundL ns).length → (roundL ns).getD i 0 < 2 * f := fun i hi => by
  rw [round_len] at hi
  cases i with
  | zero =>
    rw [round_zero hi]
    have := Nat.mod_lt (ns.getD 0 0) (show 0 < 2 by decide)
    omega
  | succ i =>
    rw [round_succ hi]
    exact mixN_lt (h i hi) (hl i (by omega)) (hl (i + 1) hi)
def natsA (ns : List Nat) : List A := ns.map fun (n : Nat) => A.int (n : Int)
@[simp] theorem natsA_len (ns : List Nat) : (natsA ns).length = ns.length := by simp [natsA]
@[simp] theorem natsA_take (ns : List Nat) (k : Nat) : (natsA ns).take k = natsA (ns.take k) := by simp [natsA, List.map_take]
@[simp] theorem natsA_drop (ns : List Nat) (k : Nat) : (natsA ns).drop k = natsA (ns.drop k) := by simp [natsA, List.map_drop]
@[simp] theorem natsA_tail (ns : List Nat) : (natsA ns).tail = natsA ns.tail := by simp [natsA]
@[simp] theorem natsA_app (ns ms : List Nat) : natsA ns ++ natsA ms = natsA (ns ++ ms) := by simp [natsA]
@[simp] theorem natsA_app1 (ns : List Nat) (m : Nat) : natsA ns ++ [A.int (m : Int)] = natsA (ns ++ [m]) := by simp [natsA]
@[simp] theorem natsA_nil : natsA [] = [] := rfl
@[simp] theorem natsA_empty (ns : List Nat) : (natsA ns).isEmpty = ns.isEmpty := by cases ns <;> rfl
theorem natsA_get {ns : List Nat} {i : Nat} (h : i < ns.length) : (natsA ns)[i]? = some (.int ((ns.getD i 0 : Nat) : Int)) := by
  simp [natsA, h]
theorem natsA_some {ns : List Nat} {i : Nat} {x : A} (h : (natsA ns)[i]? = some x) : i < ns.length ∧ x = .int ((ns.getD i 0 : Nat) : Int) := by
  have hi := (List.getElem?_eq_some_iff.mp h).1
  rw [natsA_len] at hi
  rw [natsA_get hi] at h
  exact ⟨hi, (Option.some.inj h).symm⟩
def m_one_round : MF := mFn 5 1 (mSeq (mSet 1 (mLc (mSrc (mSl (mVar 0) mNoPart (mPart (mC (.int 1))))) (.one 4) [4] mYes (mBin andA (mVar 4) (mC (.int 1)))))
    (mSeq (mFor (mZip (mCons (mVar 0) (mCons (mSl (mVar 0) (mPart (mC (.int 1))) mNoPart) mNil))) (.many [2, 3]) (mExpr (mBm appendA (mVar 1) (mCons (mCall m_mix (mCons (mVar 2) (mCons (mVar 3) mNil))) mNil))))
    (mRet (mCa tupleA (mCons (mVar 1) mNil)))))
theorem round_take {ns : List Nat} {i : Nat} (h : i + 1 < ns.length) : (roundL ns).take (i + 1 + 1) = (roundL ns).take (i + 1) ++ [mixN (ns.getD i 0) (ns.getD (i + 1) 0)] := by
  have hl : i + 1 < (roundL ns).length := by rw [round_len]; exact h
  rw [List.take_succ, List.getElem?_eq_getElem hl]
  have := round_succ h
  rw [List.getD_eq_getElem?_getD, List.getElem?_eq_getElem hl, Option.getD_some] at this
  rw [this]
  rfl
theorem round_take1 {ns : List Nat} : (roundL ns).take 1 = (ns.take 1).map (· % 2) := by
  cases ns <;> simp [roundL]
end Law
namespace Law
open PySem L2 ML
def m_colors_of_coins : MF := mFn 3 1 (mSeq (mSet 1 (mVar 0))
    (mSeq (mFor (mRng (mCons (mC (.int 4)) mNil)) (.one 2) (mSet 1 (mCall m_one_round (mCons (mVar 1) mNil))))
    (mRet (mVar 1))))
theorem coin_in {xs : List Nd} (h : Row xs) {i : Nat} (hi : i < xs.length) : 0 ≤ coinV (bef xs i) (cod xs i) ∧ coinV (bef xs i) (cod xs i) < 34359738368 := by
  have e0 : xs[i]? = some xs[i] := List.getElem?_eq_getElem hi
  have i0 := h.it _ (List.getElem_mem hi)
  rw [cod_some e0]
  have hq := bef_in (row_bef h e0) (nd_ne i0.ok)
  have hs := small_codes.1 _ i0.ok _ (List.getElem_mem hq)
  have hl := i0.len
  unfold coinV
  rw [List.getD_eq_getElem?_getD, List.getElem?_eq_getElem hq]
  simp only [Option.getD_some]
  omega
def coinsT (xs : List Nd) : List Nat := (List.range xs.length).map fun i => (coinV (bef xs i) (cod xs i)).toNat
theorem coinsT_len (xs : List Nd) : (coinsT xs).length = xs.length := by simp [coinsT]
theorem coinsT_get {xs : List Nd} {i : Nat} (h : i < xs.length) : (coinsT xs).getD i 0 = (coinV (bef xs i) (cod xs i)).toNat := by
  rw [List.getD_eq_getElem?_getD]
  simp [coinsT, h]
theorem coinsT_eq {xs : List Nd} (h : Row xs) : (coinsN xs).map A.int = natsA (coinsT xs) := by
  unfold natsA coinsN coinsT
  rw [List.map_map, List.map_map]
  refine List.map_congr_left fun i hi => ?_
  have hi' : i < xs.length := by simpa using hi
  have := (coin_in h hi').1
  show A.int _ = A.int _
  rw [Int.toNat_of_nonneg this]
theorem coinsT_apart {xs : List Nd} (h : Row xs) : Apart (coinsT xs) := fun i hi => by
  rw [coinsT_len] at hi
  rw [coinsT_get (by omega), coinsT_get hi]
  have a := (coin_in h (show i < xs.length by omega)).1
  have b := (coin_in h hi).1
  have c := coins_ne h hi
  omega
theorem coinsT_lt {xs : List Nd} (h : Row xs) : ∀ j, j < (coinsT xs).length → (coinsT xs).getD j 0 < 2 ^ 35 := fun j hj => by
  rw [coinsT_len] at hj
  rw [coinsT_get hj]
  have := coin_in h hj
  omega
noncomputable def rnd (ns : List Nat) : Nat → List Nat
  | 0 => ns
  | i + 1 => roundL (rnd ns i)
theorem rnd_len (ns : List Nat) : ∀ i, (rnd ns i).length = ns.length
  | 0 => rfl
  | i + 1 => by rw [rnd, round_len, rnd_len ns i]
theorem rnd_apart {ns : List Nat} (h : Apart ns) : ∀ i, Apart (rnd ns i)
  | 0 => h
  | i + 1 => round_apart (rnd_apart h i)
noncomputable def colN (xs : List Nd) : List Nat := rnd (coinsT xs) 4
theorem col_len (xs : List Nd) : (colN xs).length = xs.length := by rw [colN, rnd_len, coinsT_len]
theorem col_lt {xs : List Nd} (h : Row xs) : ∀ j, j < (colN xs).length → (colN xs).getD j 0 < 6 := by
  have a0 := coinsT_apart h
  have b1 := round_lt (f := 35) (by decide) a0 (coinsT_lt h)
  have a1 := round_apart a0
  have b2 := round_lt (f := 7) (by decide) a1 fun j hj => Nat.lt_of_lt_of_le (b1 j hj) (by decide)
  have a2 := round_apart a1
  have b3 := round_lt (f := 4) (by decide) a2 fun j hj => Nat.lt_of_lt_of_le (b2 j hj) (by decide)
  have a3 := round_apart a2
  have b4 := round_lt (f := 3) (by decide) a3 fun j hj => Nat.lt_of_lt_of_le (b3 j hj) (by decide)
  exact b4
theorem col_apart {xs : List Nd} (h : Row xs) : Apart (colN xs) := rnd_apart (coinsT_apart h) 4
end Law
namespace Law
open PySem L2 ML
def m_law_large : MF := mFn 6 2 (mSeq (mSet 2 (mBin addA (mC (.int 1)) (mCall m_law_draw (mCons (mVar 0) (mCons (mC (.int 2147483646)) mNil)))))
    (mSeq (mSet 3 (mBin ixA (mLst (mCons (mC (.int 2)) (mCons (mC (.int 9)) (mCons (mC (.int 1000)) (mCons (mC (.int 1000000)) (mCons (mC (.int 1000000)) mNil)))))) (mCall m_law_draw (mCons (mVar 0) (mCons (mC (.int 5)) mNil)))))
    (mSeq (mSet 4 (mLst mNil))
    (mSeq (mFor (mRng (mCons (mVar 1) mNil)) (.one 5) (mSeq (mSet 2 (mBin modA (mCa intA (mCons (mBin mulA (mVar 2) (mC (.int 48271))) mNil)) (mC (.int 2147483647))))
    (mExpr (mBm appendA (mVar 4) (mCons (mBin modA (mCa intA (mCons (mVar 2) mNil)) (mVar 3)) mNil)))))
    (mRet (mVar 4))))))
def LaI (size w : Int) (q : Nat) (st0 : Store) (i : Nat) (ρ : ML.Env) (st : Store) : Prop := ∃ (ns : List Int) (z : Int) (v : Option A), ns.length = i ∧ (∀ n ∈ ns, 0 ≤ n ∧ n < 1000000) ∧ 0 ≤ z ∧ z < 2147483647 ∧ TpOk st ∧ Kp st0 st ∧ st0.length ≤ q ∧ 1 < q ∧ stL st q = some (ns.map A.int) ∧ ρ = [some (.ref 1), some (.int size), some (.int z), some (.int w), some (.ref q), v]
theorem large_wp {size : Nat} {st : Store} {Q : A → Store → Prop} (t : TpOk st) (hs : size ≤ 100000) (k : ∀ q (ns : List Int) st', ns.length = size → (∀ n ∈ ns, 0 ≤ n ∧ n < 1000000) → TpOk st' → Kp st st' → stL st' q = some (ns.map A.int) → Q (.ref q) st') : (m_law_large [.ref 1, .int (size : Int)] st).wp Q := by
  simp only [m_law_large]
  rw [wp_fn]
  refine ⟨rfl, ?_⟩
  simp only [List.map_cons, List.map_nil, List.cons_append, List.nil_append, List.replicate]
  refine seq_cut (fun ρ st1 => ∃ z : Int, 0 ≤ z ∧ z < 2147483647 ∧ TpOk st1 ∧ Kp st st1 ∧ ρ = [some (.ref 1), some (.int (size : Int)), some (.int z), none, none, none]) ?_ ?_
  · simp only [sp_set, wp_bin, wp_call, wp_cons, wp_nil, wp_var, wp_c, List.getElem?_cons_succ, List.getElem?_cons_zero, Option.some.injEq, ex_eq, List.set_cons_succ, List.set_cons_zero]
    refine draw_wp t (by decide) fun n st1 na nb t1 k1 l1 => ?_
    exact ⟨1 + n, by omega, by omega, t1, k1, rfl⟩
  rintro ρ st1 ⟨z, z0, z1, t1, k1, rfl⟩
  refine seq_cut (fun ρ st2 => ∃ w : Int, 1 ≤ w ∧ w ≤ 1000000 ∧ TpOk st2 ∧ Kp st st2 ∧ ρ = [some (.ref 1), some (.int (size : Int)), some (.int z), some (.int w), none, none]) ?_ ?_
  · simp only [sp_set, wp_bin, wp_call, wp_cons, wp_nil, wp_var, wp_c, wp_lst, List.getElem?_cons_succ, List.getElem?_cons_zero, Option.some.injEq, ex_eq, List.set_cons_succ, List.set_cons_zero]
    refine ⟨by simp [sizeLine], draw3_wp (xs := [2, 9, 1000, 1000000, 1000000]) t1 rfl (by decide) (fun w st2 hw t2 k2 => ?_) (by decide)⟩
    have hw2 : 1 ≤ w ∧ w ≤ 1000000 := by
      simp at hw
      omega
    exact ⟨w, hw2.1, hw2.2, t2, k1.trans k2, rfl⟩
  rintro ρ st2 ⟨w, w0, w1, t2, k2, rfl⟩
  have h2 := t2.len
  generalize hF : @mFor = F
  refine seq_cut (LaI size w st2.length st 0) ?_ ?_
  · simp
    exact ⟨[], z, none, rfl, by simp, z0, z1, t2.grown (.one _ _), k2.trans (Kp.grown (.one _ _)), k2.len, by omega, by simp, rfl⟩
  intro ρ st3 h3
  refine seq_cut (LaI size w st2.length st size) ?_ ?_
  · subst hF
    have h3' := h3
    obtain ⟨ns, z, v, _, _, _, _, _, _, _, _, _, rfl⟩ := h3
    simp only [sp_for, wp_rng, wp_cons, wp_nil, wp_var, List.getElem?_cons_succ, List.getElem?_cons_zero, Option.some.injEq, ex_eq, w_rng1]
    refine ⟨by omega, ?_⟩
    rw [Int.toNat_natCast]
    refine for_rng (LaI size w st2.length st) h3' ?_ (fun _ _ h => h)
    rintro i ρ st4 hi ⟨ns, z, v, n1, n2, n3, n4, t4, k4, q1, q2, hq, rfl⟩
    refine ⟨_, rfl, ?_⟩
    simp [hq]
    refine ⟨cmul_r (by decide) (by decide), by omega, by omega, ns ++ [z * 48271 % 2147483647 % w], z * 48271 % 2147483647, _, by simp [n1], ?_, by omega, by omega, ?_, ?_, q1, q2, by rw [stL_set_self hq]; simp, rfl⟩
    · intro n hn
      rcases List.mem_append.mp hn with h | h
      · exact n2 n h
      · simp at h
        subst h
        have a1 := Int.emod_nonneg (z * 48271 % 2147483647) (show w ≠ 0 by omega)
        have a2 := Int.emod_lt_of_pos (z * 48271 % 2147483647) (show 0 < w by omega)
        omega
    · obtain ⟨ms, p, r, q', y0, y1, y2⟩ := t4.ex
      exact ⟨ms, p, r, q', y0, by rw [List.getElem?_set_ne (by omega)]; exact y1, by rw [List.getElem?_set_ne (by omega)]; exact y2⟩
    · refine ⟨by have := k4.len; simp; omega, fun j hj hj2 => ?_⟩
      rw [List.getElem?_set_ne (by omega)]
      exact k4.get j hj hj2
  subst hF
  rintro ρ st4 ⟨ns, z, v, n1, n2, n3, n4, t4, k4, q1, q2, hq, rfl⟩
  simp
  exact k _ ns st4 n1 n2 t4 k4 hq
def cpd : Nd → Nd
  | .run b _ => b
  | .leaf e => .leaf e
  | .blk cs => .blk cs
def cps : Nd → Nat
  | .run _ t => t
  | _ => 1
def Gd (m : Nat) (c : Nd) : Prop := ∃ n : Int, 0 ≤ n ∧ n < 1000000 ∧ (c = .leaf (.int n) ∨ ∃ t, 2 ≤ t ∧ t ≤ m + 1 ∧ c = .run (.leaf (.int n)) t)
theorem Gd.mono {m k : Nat} {c : Nd} (h : Gd m c) (hk : m ≤ k) : Gd k c := by
  obtain ⟨n, h0, h1, h2⟩ := h
  refine ⟨n, h0, h1, ?_⟩
  rcases h2 with rfl | ⟨t, t1, t2, rfl⟩
  · exact .inl rfl
  · exact .inr ⟨t, t1, by omega, rfl⟩
theorem el_int {n : Int} (h0 : 0 ≤ n) (h1 : n < 1000000) : El (.int n) := .inl (.inr ⟨n, rfl, by omega, by omega⟩)
theorem Gd.it {m : Nat} {c : Nd} (h : Gd m c) (hm : m ≤ 300) : It1 c := by
  obtain ⟨n, h0, h1, h2⟩ := h
  have he := el_int h0 h1
  rcases h2 with rfl | ⟨t, t1, t2, rfl⟩
  · exact ⟨by simpa only [okN] using he, by simp only [szN]; omega, by simp only [dpN]; omega⟩
  · exact ⟨by simp only [okN]; exact ⟨he, t1, by omega⟩, by simp only [szN]; omega, by simp only [dpN]; omega⟩
structure GRow (m : Nat) (xs : List Nd) : Prop where
  gd : ∀ c ∈ xs, Gd m c
  ap : ∀ (i : Nat) a b, xs[i]? = some a → xs[i + 1]? = some b → cpd a ≠ cpd b
theorem GRow.row {m : Nat} {xs : List Nd} (h : GRow m xs) (hm : m ≤ 300) : Row xs := ⟨fun c hc => (h.gd c hc).it hm, fun i a b h1 h2 e => h.ap i a b h1 h2 (by rw [e])⟩
end Law
namespace Law
open PySem L2 ML
theorem rnd_loc : ∀ (n : Nat) (ns ms : List Nat) (i k : Nat), (∀ t, t ≤ n → ns.getD (i - t) 0 = ms.getD (k - t) 0) → n ≤ i → n ≤ k → i < ns.length → k < ms.length → (rnd ns n).getD i 0 = (rnd ms n).getD k 0
  | 0, ns, ms, i, k, h, _, _, _, _ => h 0 (by omega)
  | n + 1, ns, ms, i, k, h, hi, hk, hn, hm => by
    obtain ⟨i', rfl⟩ : ∃ i', i = i' + 1 := ⟨i - 1, by omega⟩
    obtain ⟨k', rfl⟩ : ∃ k', k = k' + 1 := ⟨k - 1, by omega⟩
    have a := rnd_loc n ns ms (i' + 1) (k' + 1) (fun t ht => h t (by omega)) (by omega) (by omega) hn hm
    have b := rnd_loc n ns ms i' k' (fun t ht => by
      have := h (t + 1) (by omega)
      rwa [show i' + 1 - (t + 1) = i' - t by omega, show k' + 1 - (t + 1) = k' - t by omega] at this) (by omega) (by omega) (by omega) (by omega)
    show (roundL (rnd ns n)).getD (i' + 1) 0 = (roundL (rnd ms n)).getD (k' + 1) 0
    rw [round_succ (by rw [rnd_len]; exact hn), round_succ (by rw [rnd_len]; exact hm), a, b]
theorem rnd_pre : ∀ (n : Nat) (ns xs : List Nat) (i : Nat), i < ns.length → (rnd (ns ++ xs) n).getD i 0 = (rnd ns n).getD i 0
  | 0, ns, xs, i, hi => by
    show (ns ++ xs).getD i 0 = ns.getD i 0
    rw [List.getD_eq_getElem?_getD, List.getElem?_append_left hi, List.getD_eq_getElem?_getD]
  | n + 1, ns, xs, i, hi => by
    show (roundL (rnd (ns ++ xs) n)).getD i 0 = (roundL (rnd ns n)).getD i 0
    cases i with
    | zero =>
      rw [round_zero (by rw [rnd_len]; simp; omega), round_zero (by rw [rnd_len]; exact hi), rnd_pre n ns xs 0 hi]
    | succ i =>
      rw [round_succ (by rw [rnd_len]; simp; omega), round_succ (by rw [rnd_len]; exact hi), rnd_pre n ns xs i (by omega), rnd_pre n ns xs (i + 1) hi]
theorem coin_loc {xs ys : List Nd} {i k : Nat} (hi : 1 ≤ i) (hk : 1 ≤ k) (h0 : xs[i]? = ys[k]?) (h1 : xs[i - 1]? = ys[k - 1]?) : coinV (bef xs i) (cod xs i) = coinV (bef ys k) (cod ys k) := by
  obtain ⟨i', rfl⟩ : ∃ i', i = i' + 1 := ⟨i - 1, by omega⟩
  obtain ⟨k', rfl⟩ : ∃ k', k = k' + 1 := ⟨k - 1, by omega⟩
  simp only [Nat.add_sub_cancel] at h1
  simp only [bef, cod, h0, h1]
theorem col_loc {xs ys : List Nd} {i k : Nat} (hi : 5 ≤ i) (hk : 5 ≤ k) (hx : i < xs.length) (hy : k < ys.length) (h : ∀ t, t ≤ 5 → xs[i - t]? = ys[k - t]?) : (colN xs).getD i 0 = (colN ys).getD k 0 := by
  refine rnd_loc 4 _ _ i k (fun t ht => ?_) (by omega) (by omega) (by rw [coinsT_len]; exact hx) (by rw [coinsT_len]; exact hy)
  rw [coinsT_get (by omega), coinsT_get (by omega)]
  have := coin_loc (xs := xs) (ys := ys) (i := i - t) (k := k - t) (by omega) (by omega) (h t (by omega)) (by
    have := h (t + 1) (by omega)
    rwa [show i - (t + 1) = i - t - 1 by omega, show k - (t + 1) = k - t - 1 by omega] at this)
  rw [this]
theorem coinsT_app (xs ys : List Nd) : ∃ zs, coinsT (xs ++ ys) = coinsT xs ++ zs := by
  refine ⟨(coinsT (xs ++ ys)).drop xs.length, ?_⟩
  have e : (coinsT (xs ++ ys)).take xs.length = coinsT xs := by
    unfold coinsT
    rw [← List.map_take, List.length_append]
    have e1 : (List.range (xs.length + ys.length)).take xs.length = List.range xs.length := by
      rw [List.take_range]
      congr 1
      omega
    rw [e1]
    refine List.map_congr_left fun i hi => ?_
    have hi' : i < xs.length := by simpa using hi
    have c0 : (xs ++ ys)[i]? = xs[i]? := List.getElem?_append_left hi'
    cases i with
    | zero => simp only [bef, cod, c0]
    | succ i =>
      have c1 : (xs ++ ys)[i]? = xs[i]? := List.getElem?_append_left (by omega)
      simp only [bef, cod, c0, c1]
  rw [← e, List.take_append_drop]
theorem col_pre {xs ys : List Nd} {i : Nat} (hi : i < xs.length) : (colN (xs ++ ys)).getD i 0 = (colN xs).getD i 0 := by
  obtain ⟨zs, e⟩ := coinsT_app xs ys
  unfold colN
  rw [e]
  exact rnd_pre 4 _ _ i (by rw [coinsT_len]; exact hi)
end Law
namespace Law
open PySem L2 ML
def m_cut : MF := mFn 5 2 (mSeq (mSet 2 (mBin addA (mSl (mVar 1) (mPart (mC (.int 1))) mNoPart) (mTup (mCons (mCa lenA (mCons (mVar 0) mNil)) mNil))))
    (mRet (mLc (mZip (mCons (mVar 1) (mCons (mVar 2) mNil))) (.many [3, 4]) [3, 4] mYes (mSl (mVar 0) (mPart (mVar 3)) (mPart (mVar 4))))))
section
variable {c : Nat → Int} {a b : Nat}
theorem rises (hd : ∀ j, a ≤ j → j < b → c j ≠ c (j + 1)) (hp : ∀ j, a < j → j < b → ¬ (c (j - 1) < c j ∧ c (j + 1) < c j)) {j : Nat} (hj : a ≤ j) (hu : c j < c (j + 1)) :
    ∀ k, j + 1 + k ≤ b → c j + 1 + k ≤ c (j + 1 + k) ∧ c (j + k) < c (j + 1 + k)
  | 0, _ => ⟨by simp; omega, by simpa using hu⟩
  | k + 1, h => by
    obtain ⟨h1, h2⟩ := rises hd hp hj hu k (by omega)
    have h3 := hp (j + 1 + k) (by omega) (by omega)
    have h4 := hd (j + 1 + k) (by omega) (by omega)
    have e : j + 1 + k - 1 = j + k := by omega
    rw [e] at h3
    have e2 : j + 1 + (k + 1) = j + 1 + k + 1 := by omega
    have e3 : j + (k + 1) = j + 1 + k := by omega
    rw [e2, e3]
    have : c (j + 1 + k) < c (j + 1 + k + 1) := by
      by_cases q : c (j + 1 + k + 1) < c (j + 1 + k)
      · exact absurd ⟨h2, q⟩ h3
      · omega
    exact ⟨by push_cast; omega, this⟩
theorem stretch (hab : a ≤ b) (h0 : ∀ j, a ≤ j → j ≤ b → 0 ≤ c j ∧ c j ≤ 5) (hd : ∀ j, a ≤ j → j < b → c j ≠ c (j + 1)) (hp : ∀ j, a < j → j < b → ¬ (c (j - 1) < c j ∧ c (j + 1) < c j)) : b ≤ a + 10 := by
  -- falling up to the first rise
  have key : ∀ m, a + m ≤ b → (∀ j, a ≤ j → j < a + m → c (j + 1) < c j) → c (a + m) + m ≤ c a := by
    intro m
    induction m with
    | zero => intro _ _; simp
    | succ m ih =>
      intro h1 h2
      have := ih (by omega) fun j p q => h2 j p (by omega)
      have h3 := h2 (a + m) (by omega) (by omega)
      have e : a + (m + 1) = a + m + 1 := by omega
      rw [e]
      push_cast
      omega
  by_cases hx : ∃ j, a ≤ j ∧ j < b ∧ c j < c (j + 1)
  · have hm : ∃ m, a + m < b ∧ c (a + m) < c (a + m + 1) ∧ ∀ j, a ≤ j → j < a + m → ¬ c j < c (j + 1) := by
      obtain ⟨j, h1, h2, h3⟩ := hx
      have : ∀ n, ∀ j, j - a ≤ n → a ≤ j → j < b → c j < c (j + 1) → ∃ m, a + m < b ∧ c (a + m) < c (a + m + 1) ∧ ∀ j, a ≤ j → j < a + m → ¬ c j < c (j + 1) := by
        intro n
        induction n with
        | zero =>
          intro j h0 h1 h2 h3
          have : j = a := by omega
          subst this
          exact ⟨0, by omega, h3, fun i p q => by omega⟩
        | succ n ih =>
          intro j h0 h1 h2 h3
          by_cases hy : ∃ i, a ≤ i ∧ i < j ∧ c i < c (i + 1)
          · obtain ⟨i, p, q, r⟩ := hy
            exact ih i (by omega) p (by omega) r
          · refine ⟨j - a, by omega, ?_, fun i p q r => hy ⟨i, p, by omega, r⟩⟩
            have e : a + (j - a) = j := by omega
            rw [e]
            exact h3
      exact this _ j (Nat.le_refl _) h1 h2 h3
    obtain ⟨m, h1, h2, h3⟩ := hm
    have f1 := key m (by omega) fun j p q => by
      have := h3 j p q
      have := hd j p (by omega)
      omega
    have f2 := (rises hd hp (j := a + m) (by omega) h2 (b - (a + m) - 1) (by omega)).1
    have e : a + m + 1 + (b - (a + m) - 1) = b := by omega
    rw [e] at f2
    have g1 := h0 a (by omega) (by omega)
    have g2 := h0 b (by omega) (by omega)
    have g3 := h0 (a + m) (by omega) (by omega)
    omega
  · have f1 := key (b - a) (by omega) fun j p q => by
      have : ¬ c j < c (j + 1) := fun z => hx ⟨j, p, by omega, z⟩
      have := hd j p (by omega)
      omega
    have g1 := h0 a (by omega) (by omega)
    have g2 := h0 (a + (b - a)) (by omega) (by omega)
    omega
end
theorem pks_mem {cs : List Int} {m j : Nat} : j ∈ pks cs m ↔ 2 ≤ j ∧ j < m + 2 ∧ isPk cs j := by
  unfold pks
  rw [List.mem_map]
  constructor
  · rintro ⟨t, h, rfl⟩
    rw [List.mem_filter] at h
    obtain ⟨h1, h2⟩ := h
    exact ⟨by omega, by have := List.mem_range.mp h1; omega, of_decide_eq_true h2⟩
  · rintro ⟨h1, h2, h3⟩
    refine ⟨j - 2, List.mem_filter.mpr ⟨List.mem_range.mpr (by omega), ?_⟩, by omega⟩
    have : j - 2 + 2 = j := by omega
    rw [this]
    exact decide_eq_true h3
theorem pks_asc (cs : List Int) (m : Nat) : (pks cs m).Pairwise (· < ·) := by
  unfold pks
  rw [List.pairwise_map]
  exact (List.pairwise_lt_range.filter _).imp fun h => by omega
theorem starts_asc (cs : List Int) : (startsL cs).Pairwise (· < ·) := by
  unfold startsL
  split
  · exact .nil
  · refine List.pairwise_cons.mpr ⟨fun j hj => ?_, pks_asc _ _⟩
    have := pks_mem.mp hj
    omega
theorem starts_mem {cs : List Int} {j : Nat} (h : j ∈ startsL cs) : j = 0 ∨ (2 ≤ j ∧ j + 1 < cs.length ∧ isPk cs j) := by
  unfold startsL at h
  split at h
  · cases h
  · rcases List.mem_cons.mp h with e | e
    · exact .inl e
    · have := pks_mem.mp e
      exact .inr ⟨this.1, by omega, this.2.2⟩
theorem starts_of_pk {cs : List Int} {j : Nat} (h1 : 2 ≤ j) (h2 : j + 1 < cs.length) (h3 : isPk cs j) : j ∈ startsL cs := by
  unfold startsL
  rw [if_neg (by intro z; subst z; simp at h2)]
  exact List.mem_cons_of_mem _ (pks_mem.mpr ⟨h1, by omega, h3⟩)
def endK (cs : List Int) (k : Nat) : Nat := (startsL cs).getD (k + 1) cs.length
theorem none_between {cs : List Int} {k j : Nat} (hk : k < (startsL cs).length) (h1 : (startsL cs)[k] < j) (h2 : j < endK cs k) (h3 : j ≠ 1) (h4 : j + 1 < cs.length) : ¬ isPk cs j := fun hp => by
  have hm := starts_of_pk (by omega) h4 hp
  obtain ⟨t, ht, e⟩ := List.getElem_of_mem hm
  have asc := List.pairwise_iff_getElem.mp (starts_asc cs)
  have t1 : k < t := by
    rcases Nat.lt_trichotomy k t with q | q | q
    · exact q
    · subst q; omega
    · have := asc t k ht hk q; omega
  unfold endK at h2
  by_cases hk2 : k + 1 < (startsL cs).length
  · rw [List.getD_eq_getElem?_getD, List.getElem?_eq_getElem hk2, Option.getD_some] at h2
    rcases Nat.lt_or_ge (k + 1) t with q | q
    · have := asc (k + 1) t hk2 ht q; omega
    · have : t = k + 1 := by omega
      subst this
      omega
  · omega
structure CRow (cs : List Int) : Prop where
  lo : ∀ j, j < cs.length → 0 ≤ cs.getD j 0 ∧ cs.getD j 0 ≤ 5
  ne : ∀ j, j + 1 < cs.length → cs.getD j 0 ≠ cs.getD (j + 1) 0
theorem starts_lt {cs : List Int} {k : Nat} (hk : k < (startsL cs).length) : (startsL cs)[k] < cs.length := by
  have hm := List.getElem_mem hk
  rcases starts_mem hm with e | e
  · rw [e]
    cases cs with
    | nil => simp [startsL] at hk
    | cons x r => simp
  · omega
theorem dense {cs : List Int} (r : CRow cs) {k : Nat} (hk : k < (startsL cs).length) :
    (startsL cs)[k] < endK cs k ∧ endK cs k ≤ cs.length ∧ (min 2 cs.length : Nat) ≤ endK cs k - (startsL cs)[k] ∧ endK cs k - (startsL cs)[k] ≤ 10 + (if k = 0 then 1 else 0) + (if k = (startsL cs).length - 1 then 1 else 0) := by
  have asc := List.pairwise_iff_getElem.mp (starts_asc cs)
  have h0 : (startsL cs)[k] = 0 ↔ k = 0 := by
    constructor
    · intro e
      have hm : 0 < (startsL cs).length := by omega
      rcases Nat.eq_zero_or_pos k with q | q
      · exact q
      · have := asc 0 k hm hk q; omega
    · intro e
      subst e
      have : startsL cs ≠ [] := fun z => by rw [z] at hk; simp at hk
      unfold startsL at this ⊢
      split
      · rename_i z; exact absurd (if_pos z) this
      · rfl
  have sl := starts_lt hk
  have sm := starts_mem (List.getElem_mem hk)
  by_cases hk2 : k + 1 < (startsL cs).length
  · have ee : endK cs k = (startsL cs)[k + 1] := by
      unfold endK
      rw [List.getD_eq_getElem?_getD, List.getElem?_eq_getElem hk2, Option.getD_some]
    have hlt := asc k (k + 1) hk hk2 (by omega)
    have em := starts_mem (List.getElem_mem hk2)
    have el := starts_lt hk2
    have nb := fun j => none_between (cs := cs) (k := k) (j := j) hk
    rw [ee] at nb ⊢
    generalize hs : (startsL cs)[k] = s at *
    generalize he : (startsL cs)[k + 1] = e at *
    have e2 : 2 ≤ e ∧ e + 1 < cs.length ∧ isPk cs e := by
      rcases em with q | q
      · omega
      · exact q
    have two : 2 ≤ e - s := by
      rcases sm with q | ⟨q1, q2, q3⟩
      · omega
      · by_cases z : e = s + 1
        · exfalso
          subst z
          unfold isPk at q3 e2
          have h7 := q3.2
          have h8 := e2.2.2.1
          rw [Nat.add_sub_cancel] at h8
          omega
        · omega
    refine ⟨hlt, by omega, by omega, ?_⟩
    by_cases hz : s = 0
    · have := stretch (c := fun j => cs.getD j 0) (a := 1) (b := e) (by omega) (fun j _ p => r.lo j (by omega)) (fun j _ p => r.ne j (by omega)) (fun j p q => nb j (by omega) q (by omega) (by omega))
      rw [if_pos (h0.mp hz)]
      omega
    · have := stretch (c := fun j => cs.getD j 0) (a := s) (b := e) (by omega) (fun j _ p => r.lo j (by omega)) (fun j _ p => r.ne j (by omega)) (fun j p q => nb j (by omega) q (by omega) (by omega))
      omega
  · have ee : endK cs k = cs.length := by
      unfold endK
      rw [List.getD_eq_getElem?_getD, List.getElem?_eq_none (by omega), Option.getD_none]
    have nb := fun j => none_between (cs := cs) (k := k) (j := j) hk
    rw [ee] at nb ⊢
    have kl : k = (startsL cs).length - 1 := by omega
    rw [if_pos kl]
    generalize hs : (startsL cs)[k] = s at *
    refine ⟨by omega, by omega, by omega, ?_⟩
    by_cases hz : s = 0
    · rw [if_pos (h0.mp hz)]
      by_cases h1 : cs.length ≤ 1
      · omega
      · have := stretch (c := fun j => cs.getD j 0) (a := 1) (b := cs.length - 1) (by omega) (fun j _ p => r.lo j (by omega)) (fun j _ p => r.ne j (by omega)) (fun j p q => nb j (by omega) (by omega) (by omega) (by omega))
        omega
    · have := stretch (c := fun j => cs.getD j 0) (a := s) (b := cs.length - 1) (by omega) (fun j _ p => r.lo j (by omega)) (fun j _ p => r.ne j (by omega)) (fun j p q => nb j (by omega) (by omega) (by omega) (by omega))
      omega
def intsN (ns : List Nat) : List Int := ns.map fun (n : Nat) => (n : Int)
theorem natsA_ints (ns : List Nat) : natsA ns = (intsN ns).map A.int := by simp [natsA, intsN]
theorem intsN_len (ns : List Nat) : (intsN ns).length = ns.length := by simp [intsN]
theorem intsN_get {ns : List Nat} {j : Nat} : (intsN ns).getD j 0 = ((ns.getD j 0 : Nat) : Int) := by
  simp only [intsN, List.getD_eq_getElem?_getD, List.getElem?_map]
  cases ns[j]? <;> rfl
noncomputable def colsZ (xs : List Nd) : List Int := intsN (colN xs)
theorem colsZ_len (xs : List Nd) : (colsZ xs).length = xs.length := by rw [colsZ, intsN_len, col_len]
theorem colsZ_row {xs : List Nd} (h : Row xs) : CRow (colsZ xs) := by
  refine ⟨fun j hj => ?_, fun j hj => ?_⟩
  · rw [colsZ_len] at hj
    have := col_lt h j (by rw [col_len]; exact hj)
    unfold colsZ
    rw [intsN_get]
    omega
  · rw [colsZ_len] at hj
    have := col_apart h j (by rw [col_len]; exact hj)
    unfold colsZ
    rw [intsN_get, intsN_get]
    omega
def cutsN {α : Type} (ss : List Nat) (xs : List α) : List (List α) := (List.range ss.length).map fun i => (xs.take (ss.getD (i + 1) xs.length)).drop (ss.getD i 0)
theorem cutsN_len {α : Type} (ss : List Nat) (xs : List α) : (cutsN ss xs).length = ss.length := by simp [cutsN]
theorem cutsN_get {α : Type} {ss : List Nat} {xs : List α} {i : Nat} (h : i < ss.length) : (cutsN ss xs)[i]? = some ((xs.take (ss.getD (i + 1) xs.length)).drop (ss.getD i 0)) := by
  simp [cutsN, h]
theorem cutsN_take {α : Type} {ss : List Nat} {xs : List α} {i : Nat} (h : i < ss.length) : (cutsN ss xs).take (i + 1) = (cutsN ss xs).take i ++ [(xs.take (ss.getD (i + 1) xs.length)).drop (ss.getD i 0)] := by
  rw [List.take_add_one, cutsN_get h]
  rfl
theorem lc_zipv {tg : Tg} {own : List Nat} {tt : MT} {elt : MX} {ρ0 : ML.Env} {st : Store} {xs ys : List A} {QL : List A → Store → Prop} (I : Nat → Store → List A → Prop) (hl : ys.length = xs.length) (h0 : I 0 st [])
    (hs : ∀ i x y st acc, xs[i]? = some x → ys[i]? = some y → I i st acc → ∃ ρ1, asgT tg (.tup [x, y]) ρ0 st = some ρ1 ∧ (tt ρ1 st).wp fun b st1 => if b = true then (elt ρ1 st1).wp fun y st2 => acc.length < sizeLine ∧ I (i + 1) st2 (acc ++ [y]) else I (i + 1) st1 acc)
    (hd : ∀ st acc, I xs.length st acc → QL acc st) : (loopC (.zipv xs ys) tg own tt elt ρ0 (Src.size (.zipv xs ys) st + 1) 0 st []).wp QL :=
  lc_wp xs.length (fun i => .tup [xs.getD i .non, ys.getD i .non]) I (fun i st acc _ => ⟨fun h => by
      have e1 : xs[i]? = some xs[i] := List.getElem?_eq_getElem h
      have e2 : ys[i]? = some (ys[i]'(by omega)) := List.getElem?_eq_getElem (by omega)
      simp only [Src.at, e1, e2, List.getD_eq_getElem?_getD, Option.getD_some], fun h => by
      have e1 : xs[i]? = none := List.getElem?_eq_none (by omega)
      simp only [Src.at, e1]⟩) (fun i st acc h q => hs i _ _ st acc (by simp [h]) (by simp [show i < ys.length by omega]) q) hd _ _ _ _ (by simp [Src.size]) (Nat.zero_le _) h0
theorem starts_few (xs : List Nd) : (startsL (colsZ xs)).length ≤ xs.length + 1 := by
  have hcl := colsZ_len xs
  unfold startsL
  split
  · simp
  · have := pks_len (colsZ xs) ((colsZ xs).length - 3)
    simp
    omega
theorem starts_zero (xs : List Nd) : (startsL (colsZ xs)).getD 0 xs.length = 0 := by
  have hcl := colsZ_len xs
  unfold startsL
  split
  · rename_i h
    rw [h] at hcl
    simp at hcl
    simp [← hcl]
  · simp
theorem parts_ok {xs : List Nd} (h : Row xs) {i : Nat} (hi : i < (startsL (colsZ xs)).length) : (startsL (colsZ xs)).getD i 0 < (startsL (colsZ xs)).getD (i + 1) xs.length ∧ (startsL (colsZ xs)).getD (i + 1) xs.length ≤ xs.length ∧ (min 2 xs.length : Nat) ≤ (startsL (colsZ xs)).getD (i + 1) xs.length - (startsL (colsZ xs)).getD i 0 ∧ (startsL (colsZ xs)).getD (i + 1) xs.length - (startsL (colsZ xs)).getD i 0 ≤ 12 ∧ (startsL (colsZ xs)).getD i xs.length = (startsL (colsZ xs)).getD i 0 := by
  obtain ⟨d1, d2, d3, d4⟩ := dense (colsZ_row h) hi
  unfold endK at d1 d2 d3 d4
  rw [colsZ_len] at d1 d2 d3 d4
  have e1 : (startsL (colsZ xs)).getD i 0 = (startsL (colsZ xs))[i] := by
    rw [List.getD_eq_getElem?_getD, List.getElem?_eq_getElem hi]
    rfl
  have e2 : (startsL (colsZ xs)).getD i xs.length = (startsL (colsZ xs))[i] := by
    rw [List.getD_eq_getElem?_getD, List.getElem?_eq_getElem hi]
    rfl
  rw [e1, e2]
  refine ⟨d1, d2, d3, ?_, rfl⟩
  split at d4 <;> split at d4 <;> omega
end Law
namespace Law
open PySem L2 ML
theorem Row.app {xs ys : List Nd} (h : Row xs) (k : Row ys) (hm : ∀ a b, xs[xs.length - 1]? = some a → ys[0]? = some b → 1 ≤ xs.length → a ≠ b) : Row (xs ++ ys) := by
  refine ⟨fun d hd => ?_, fun i a b h1 h2 => ?_⟩
  · rcases List.mem_append.mp hd with z | z
    · exact h.it d z
    · exact k.it d z
  · by_cases q : i + 1 < xs.length
    · rw [List.getElem?_append_left (by omega)] at h1
      rw [List.getElem?_append_left q] at h2
      exact h.ap i a b h1 h2
    · by_cases q2 : i + 1 = xs.length
      · rw [List.getElem?_append_left (by omega)] at h1
        rw [List.getElem?_append_right (by omega), q2, Nat.sub_self] at h2
        exact hm a b (by rw [← q2]; simpa using h1) h2 (by omega)
      · rw [List.getElem?_append_right (by omega)] at h1
        rw [List.getElem?_append_right (by omega), show i + 1 - xs.length = i - xs.length + 1 by omega] at h2
        exact k.ap _ a b h1 h2
theorem Row.take {xs : List Nd} (h : Row xs) (n : Nat) : Row (xs.take n) := by
  refine ⟨fun d hd => h.it d (List.mem_of_mem_take hd), fun i a b h1 h2 => ?_⟩
  have l2 := (List.getElem?_eq_some_iff.mp h2).1
  simp at l2
  rw [List.getElem?_take_of_lt (by omega)] at h1 h2
  exact h.ap i a b h1 h2
theorem Row.drop {xs : List Nd} (h : Row xs) (n : Nat) : Row (xs.drop n) := by
  refine ⟨fun d hd => h.it d (List.mem_of_mem_drop hd), fun i a b h1 h2 => ?_⟩
  rw [List.getElem?_drop] at h1 h2
  exact h.ap (n + i) a b h1 (by rw [← h2]; congr 1)
def Sty (st st' : Store) : Prop := ∀ r ys, stL st r = some ys → r ≠ 0 → r ≠ 1 → stL st' r = some ys
theorem Sty.trans {a b c : Store} (h : Sty a b) (k : Sty b c) : Sty a c := fun r ys e r0 r1 => k r ys (h r ys e r0 r1) r0 r1
theorem Sty.grown {a b : Store} (h : Grown a b) : Sty a b := fun r ys e _ _ => h.stL e
theorem Sty.get {a b : Store} (h : Sty a b) {r : Nat} {ys : List A} (e : stL a r = some ys) (hr : 1 < r) : stL b r = some ys := h r ys e (by omega) (by omega)
end Law
namespace Law
open PySem L2 ML
noncomputable def m_groups_of : MF := mFn 4 1 (mSeq (mSet 1 (mLst mNil))
    (mSeq (mSet 2 (mC (.int 0)))
    (mSeq (mWhile (mGB (mBin ltA (mVar 2) (mCa lenA (mCons (mVar 0) mNil)))) (mSeq (mSet 3 (mBin addA (mVar 2) (mC (.int 1))))
    (mSeq (mWhile (mAnd (mGB (mBin ltA (mVar 3) (mCa lenA (mCons (mVar 0) mNil)))) (mGB (mBin eqA (mBin ixA (mVar 0) (mVar 3)) (mBin ixA (mVar 0) (mVar 2))))) (mAug 3 iaddA (mC (.int 1))))
    (mSeq (mExpr (mBm appendA (mVar 1) (mCons (mTup (mCons (mBin ixA (mVar 0) (mVar 2)) (mCons (mBin subA (mVar 3) (mVar 2)) mNil))) mNil)))
    (mSet 2 (mVar 3))))))
    (mRet (mVar 1)))))
abbrev Gp := Nd × Nat
def expG (gs : List Gp) : List Nd := (gs.map fun g => List.replicate g.2 g.1).flatten
theorem expG_nil : expG [] = [] := rfl
theorem expG_app (gs hs : List Gp) : expG (gs ++ hs) = expG gs ++ expG hs := by simp [expG]
theorem expG_one (g : Gp) : expG [g] = List.replicate g.2 g.1 := by simp [expG]
def posG (gs : List Gp) (j : Nat) : Nat := (expG (gs.take j)).length
theorem expG_split {gs : List Gp} {j : Nat} {g : Gp} (h : gs[j]? = some g) : expG gs = expG (gs.take j) ++ (List.replicate g.2 g.1 ++ expG (gs.drop (j + 1))) := by
  have hj := (List.getElem?_eq_some_iff.mp h).1
  have e : gs = gs.take j ++ ([g] ++ gs.drop (j + 1)) := by
    have e1 : gs.drop j = g :: gs.drop (j + 1) := by
      rw [List.drop_eq_getElem_cons hj]
      congr 1
      rw [List.getElem?_eq_getElem hj] at h
      exact Option.some.inj h
    rw [show [g] ++ gs.drop (j + 1) = gs.drop j by rw [e1]; rfl, List.take_append_drop]
  calc expG gs = expG (gs.take j ++ ([g] ++ gs.drop (j + 1))) := by rw [← e]
    _ = _ := by rw [expG_app, expG_app, expG_one]
theorem posG_succ {gs : List Gp} {j : Nat} {g : Gp} (h : gs[j]? = some g) : posG gs (j + 1) = posG gs j + g.2 := by
  unfold posG
  rw [List.take_add_one, h]
  show (expG (gs.take j ++ [g])).length = _
  rw [expG_app, expG_one]
  simp
theorem posG_le (gs : List Gp) (j : Nat) : posG gs j ≤ (expG gs).length := by
  unfold posG
  have : expG gs = expG (gs.take j) ++ expG (gs.drop j) := by rw [← expG_app, List.take_append_drop]
  rw [this]
  simp
theorem posG_all (gs : List Gp) : posG gs gs.length = (expG gs).length := by simp [posG]
theorem expG_get {gs : List Gp} {j t : Nat} {g : Gp} (h : gs[j]? = some g) (ht : t < g.2) : (expG gs)[posG gs j + t]? = some g.1 := by
  rw [expG_split h]
  have e : posG gs j + t - (expG (gs.take j)).length = t := by unfold posG; omega
  rw [List.getElem?_append_right (by unfold posG; omega), e, List.getElem?_append_left (by simp; omega), List.getElem?_replicate, if_pos ht]
def itmN (g : Gp) : Nd := if g.2 = 1 then g.1 else .run g.1 g.2
def Old (st st' : Store) : Prop := ∀ r ys, stL st r = some ys → stL st' r = some ys
theorem Old.trans {a b c : Store} (h : Old a b) (k : Old b c) : Old a c := fun r ys e => k r ys (h r ys e)
theorem Old.grown {a b : Store} (h : Grown a b) : Old a b := fun r ys e => h.stL e
def OldB (st0 : Store) (r : Nat) (st : Store) : Prop := ∀ r' ys, stL st0 r' = some ys → stL st r' = some ys ∧ r' ≠ r
theorem OldB.old {st0 st : Store} {r : Nat} (h : OldB st0 r st) : Old st0 st := fun r' ys e => (h r' ys e).1
theorem OldB.grown {st0 st st' : Store} {r : Nat} (h : OldB st0 r st) (g : Grown st st') : OldB st0 r st' := fun r' ys e => ⟨g.stL (h r' ys e).1, (h r' ys e).2⟩
theorem OldB.set {st0 st : Store} {r : Nat} {o : Ob} (h : OldB st0 r st) : OldB st0 r (st.set r o) := fun r' ys e => by
  obtain ⟨h1, h2⟩ := h r' ys e
  refine ⟨?_, h2⟩
  unfold stL
  rw [List.getElem?_set_ne (Ne.symm h2)]
  exact h1
theorem OldB.new' {st0 st : Store} {r : Nat} (hr : st0.length ≤ r) (g : Grown st0 st) : OldB st0 r st := fun r' ys e => ⟨g.stL e, by
  have := (List.getElem?_eq_some_iff.mp (stL_eq e)).1
  omega⟩
theorem OldB.new {st0 st : Store} (g : Grown st0 st) : OldB st0 st0.length st := OldB.new' (Nat.le_refl _) g
def muG (n i : Nat) (ρ : ML.Env) (_ : Store) : Nat := match ρ[i]? with
  | some (some (.int s)) => n - s.toNat
  | _ => 0
end Law
namespace Law
open PySem L2 ML
section
variable {st : Store} {r q : Nat} {kvs : List (NestedKey × A)} {k : NestedKey} {y v : A} {Q : A → Store → Prop} {ρ : ML.Env} {N B C : ML.Env → Store → Prop} {Rt : A → Store → Prop}
@[simp] theorem wp_dnew : (mDNew ρ st).wp Q ↔ Q (.ref st.length) (st ++ [.oth (.dct [])]) := Iff.rfl
@[simp] theorem stD_new : stD (st ++ [.oth (.dct kvs)]) st.length = some kvs := by simp [stD]
theorem Grown.stD {st st' : Store} (h : Grown st st') {i : Nat} {kvs : List (NestedKey × A)} (e : ML.stD st i = some kvs) : ML.stD st' i = some kvs := by
  unfold ML.stD
  rw [h.get (stD_eq e)]
theorem stD_lt {st : Store} (e : stD st r = some kvs) : r < st.length := (List.getElem?_eq_some_iff.mp (stD_eq e)).1
theorem stL_lt {st : Store} {xs : List A} (e : stL st r = some xs) : r < st.length := (List.getElem?_eq_some_iff.mp (stL_eq e)).1
theorem stD_set_self {u : List (NestedKey × A)} (e : r < st.length) : stD (st.set r (.oth (.dct u))) r = some u := by
  unfold stD
  rw [List.getElem?_set_self e]
theorem stD_set_ne {o : Ob} (h : r ≠ q) : stD (st.set r o) q = stD st q := by
  unfold stD
  rw [List.getElem?_set_ne h]
theorem stL_set_ne' {o : Ob} (h : r ≠ q) : stL (st.set r o) q = stL st q := by
  unfold stL
  rw [List.getElem?_set_ne h]
theorem ask_eq (hs : stD st r = some kvs) (hk : keyOf y = some k) (hf : fitD kvs k = true) : askD (.ref r) y st = some (atD kvs k) := by
  unfold askD
  simp only [hs, hk, hf, if_true]
theorem w_din (hs : stD st r = some kvs) (hk : keyOf y = some k) (hf : fitD kvs k = true) (h : Q (.bl (atD kvs k).isSome) st) : (inD y (.ref r) st).wp Q := by
  unfold inD
  rw [ask_eq hs hk hf]
  exact h
theorem w_dnotin (hs : stD st r = some kvs) (hk : keyOf y = some k) (hf : fitD kvs k = true) (h : Q (.bl (!(atD kvs k).isSome)) st) : (notInD y (.ref r) st).wp Q := by
  unfold notInD
  rw [ask_eq hs hk hf]
  exact h
theorem w_dget (hs : stD st r = some kvs) (hk : keyOf y = some k) (hf : fitD kvs k = true) (hv : atD kvs k = some v) (h : Q v st) : (getD' (.ref r) y st).wp Q := by
  unfold getD'
  rw [ask_eq hs hk hf, hv]
  exact h
@[simp] theorem wp_dget1 {mo mi : MX} : (mDGet1 mo mi ρ st).wp Q ↔ (mo ρ st).wp fun d st1 => isDA d st1 = true ∧ (mi ρ st1).wp fun b st2 => ∃ o, askD d b st2 = some o ∧ Q (o.getD .non) st2 := by
  unfold mDGet1
  rw [wp_bind]
  refine iff_of_eq (congrArg _ (funext fun d => funext fun st1 => propext ?_))
  by_cases c : isDA d st1 = true
  · rw [if_pos c, wp_bind]
    simp only [c, true_and]
    refine iff_of_eq (congrArg _ (funext fun b => funext fun st2 => propext ?_))
    cases askD d b st2 with
    | none => simp [R.wp]
    | some o => simp [R.wp]
  · rw [if_neg c]
    simp [R.wp, c]
theorem isDA_ref (hs : stD st r = some kvs) : isDA (.ref r) st = true := by
  unfold isDA
  simp [hs]
theorem put_eq (hs : stD st r = some kvs) (hk : keyOf y = some k) (hf : fitD kvs k = true) (hl : kvs.length < sizeLine) : putS (.ref r) y v st = some (st.set r (.oth (.dct (putD kvs k v)))) := by
  unfold putS
  simp only [hs, hk, hf, hl, and_self, if_true]
@[simp] theorem sp_dput {mo mi ma : MX} : (mDPut mo mi ma ρ st).wp N B C Rt ↔ (ma ρ st).wp fun d st1 => (mo ρ st1).wp fun o st2 => (mi ρ st2).wp fun i st3 => ∃ st4, putS o i d st3 = some st4 ∧ N ρ st4 := by
  unfold mDPut
  rw [wp_toS]
  refine iff_of_eq (congrArg _ (funext fun d => funext fun st1 => propext ?_))
  rw [wp_toS]
  refine iff_of_eq (congrArg _ (funext fun o => funext fun st2 => propext ?_))
  rw [wp_toS]
  refine iff_of_eq (congrArg _ (funext fun i => funext fun st3 => propext ?_))
  cases putS o i d st3 with
  | none => simp [SR.wp]
  | some st4 => simp [SR.wp]
theorem w_lenD (hs : stD st r = some kvs) (hl : kvs.length ≤ sizeLine) (h : Q (.int kvs.length) st) : (lenD [.ref r] st).wp Q := by
  unfold lenD
  simp only [hs, hl, if_true]
  exact h
end
mutual
theorem keyOf_clean : ∀ {a : A}, cleanA a = true → ∃ k, keyOf a = some k ∧ k.depth = depA a
  | .non, _ => ⟨_, rfl, rfl⟩
  | .int i, _ => ⟨_, rfl, rfl⟩
  | .str x, _ => ⟨_, rfl, rfl⟩
  | .tup xs, h => by
    simp only [cleanA] at h
    obtain ⟨ks, e1, e2⟩ := keysOf_clean h
    refine ⟨.tup ks, ?_, by simp only [NestedKey.depth, depA, e2]⟩
    unfold keyOf
    rw [e1]
  | .bl _, h => nomatch h
  | .scr _, h => nomatch h
  | .ref _, h => nomatch h
theorem keysOf_clean : ∀ {xs : List A}, cleanAs xs = true → ∃ ks, keysOf xs = some ks ∧ NestedKey.depthAll ks = depAs xs
  | [], _ => ⟨[], rfl, rfl⟩
  | x :: xs, h => by
    simp only [cleanAs, Bool.and_eq_true] at h
    obtain ⟨k, e1, e2⟩ := keyOf_clean h.1
    obtain ⟨ks, e3, e4⟩ := keysOf_clean h.2
    refine ⟨k :: ks, ?_, by simp only [NestedKey.depthAll, depAs, e2, e4]⟩
    unfold keysOf
    rw [e1, e3]
end
theorem keyOf_inj {a b : A} {k : NestedKey} (ha : keyOf a = some k) (hb : keyOf b = some k) : a = b := by
  rw [← keyOf_aOf ha, keyOf_aOf hb]
end Law
namespace Law
open PySem L2 ML
open Classical
noncomputable def idx (f : List Nd) (b : Nd) : Nat := f.findIdx fun x => decide (x = b)
noncomputable def addN (f : List Nd) (n : Nd) : List Nd := if n ∈ f then f else f ++ [n]
mutual
/-- as the law visits -/
noncomputable def vis : Nd → List Nd → List Nd
  | .leaf e, f => if Nd.leaf e ∈ f then f else f ++ [.leaf e]
  | .run b t, f => if Nd.run b t ∈ f then f else vis b f ++ [.run b t]
  | .blk cs, f => if Nd.blk cs ∈ f then f else visL cs f ++ [.blk cs]
noncomputable def visL : List Nd → List Nd → List Nd
  | [], f => f
  | c :: cs, f => visL cs (vis c f)
end
mutual
/-- as the program lists -/
noncomputable def lis : Nd → List Nd → List Nd
  | .leaf e, f => addN f (.leaf e)
  | .run b t, f => addN (lis b f) (.run b t)
  | .blk cs, f => addN (lisL cs f) (.blk cs)
noncomputable def lisL : List Nd → List Nd → List Nd
  | [], f => f
  | c :: cs, f => lisL cs (lis c f)
end
def kids : Nd → List Nd
  | .leaf _ => []
  | .run b _ => [b]
  | .blk cs => cs
def Clo (f : List Nd) : Prop := f.Nodup ∧ ∀ n ∈ f, ∀ c ∈ kids n, c ∈ f
theorem addN_pre (f : List Nd) (n : Nd) : ∃ g, addN f n = f ++ g ∧ n ∈ addN f n ∧ g.length ≤ 1 := by
  unfold addN
  split
  · exact ⟨[], by simp, by assumption, by simp⟩
  · exact ⟨[n], rfl, by simp, by simp⟩
theorem addN_clo {f : List Nd} {n : Nd} (h : Clo f) (hk : ∀ c ∈ kids n, c ∈ f) : Clo (addN f n) := by
  unfold addN
  split
  · exact h
  · rename_i hn
    refine ⟨?_, fun m hm c hc => ?_⟩
    · rw [List.nodup_append]
      exact ⟨h.1, by simp, fun a ha b hb e => by
        simp at hb
        subst hb
        subst e
        exact hn ha⟩
    · rcases List.mem_append.mp hm with hm | hm
      · exact List.mem_append_left _ (h.2 m hm c hc)
      · simp at hm
        subst hm
        exact List.mem_append_left _ (hk c hc)
mutual
theorem lis_ok : ∀ (nd : Nd) {f : List Nd}, Clo f → Clo (lis nd f) ∧ (∃ g, lis nd f = f ++ g) ∧ nd ∈ lis nd f
  | .leaf e, f, h => by
    simp only [lis]
    obtain ⟨g, e1, e2, _⟩ := addN_pre f (.leaf e)
    exact ⟨addN_clo h (by simp [kids]), ⟨g, e1⟩, e2⟩
  | .run b t, f, h => by
    simp only [lis]
    obtain ⟨c1, ⟨g1, e1⟩, m1⟩ := lis_ok b h
    obtain ⟨g, e2, e3, _⟩ := addN_pre (lis b f) (.run b t)
    refine ⟨addN_clo c1 (by simpa [kids] using m1), ⟨g1 ++ g, ?_⟩, e3⟩
    rw [e2, e1, List.append_assoc]
  | .blk cs, f, h => by
    simp only [lis]
    obtain ⟨c1, ⟨g1, e1⟩, m1⟩ := lisL_ok cs h
    obtain ⟨g, e2, e3, _⟩ := addN_pre (lisL cs f) (.blk cs)
    refine ⟨addN_clo c1 (by simpa [kids] using m1), ⟨g1 ++ g, ?_⟩, e3⟩
    rw [e2, e1, List.append_assoc]
theorem lisL_ok : ∀ (cs : List Nd) {f : List Nd}, Clo f → Clo (lisL cs f) ∧ (∃ g, lisL cs f = f ++ g) ∧ ∀ c ∈ cs, c ∈ lisL cs f
  | [], f, h => ⟨h, ⟨[], by simp [lisL]⟩, by simp⟩
  | c :: cs, f, h => by
    simp only [lisL]
    obtain ⟨c1, ⟨g1, e1⟩, m1⟩ := lis_ok c h
    obtain ⟨c2, ⟨g2, e2⟩, m2⟩ := lisL_ok cs c1
    refine ⟨c2, ⟨g1 ++ g2, by rw [e2, e1, List.append_assoc]⟩, fun x hx => ?_⟩
    rcases List.mem_cons.mp hx with rfl | hx
    · rw [e2]
      exact List.mem_append_left _ m1
    · exact m2 x hx
end
mutual
theorem lis_old : ∀ (nd : Nd) {f : List Nd}, Clo f → nd ∈ f → lis nd f = f
  | .leaf e, f, h, hm => by
    simp only [lis, addN, if_pos hm]
  | .run b t, f, h, hm => by
    simp only [lis]
    rw [lis_old b h (h.2 _ hm b (by simp [kids]))]
    simp only [addN, if_pos hm]
  | .blk cs, f, h, hm => by
    simp only [lis]
    rw [lisL_old cs h fun c hc => h.2 _ hm c (by simpa [kids] using hc)]
    simp only [addN, if_pos hm]
theorem lisL_old : ∀ (cs : List Nd) {f : List Nd}, Clo f → (∀ c ∈ cs, c ∈ f) → lisL cs f = f
  | [], f, h, _ => by simp [lisL]
  | c :: cs, f, h, hm => by
    simp only [lisL]
    rw [lis_old c h (hm c (by simp)), lisL_old cs h fun x hx => hm x (by simp [hx])]
end
mutual
theorem lis_dp : ∀ (nd : Nd) {f : List Nd} {x : Nd}, x ∈ lis nd f → x ∈ f ∨ dpN x ≤ dpN nd
  | .leaf e, f, x, h => by
    simp only [lis, addN] at h
    split at h
    · exact .inl h
    · rcases List.mem_append.mp h with h | h
      · exact .inl h
      · simp at h
        subst h
        exact .inr (Nat.le_refl _)
  | .run b t, f, x, h => by
    simp only [lis, addN] at h
    have ih := fun hx => lis_dp b (f := f) (x := x) hx
    split at h
    · rcases ih h with h | h
      · exact .inl h
      · exact .inr (by simp only [dpN]; omega)
    · rcases List.mem_append.mp h with h | h
      · rcases ih h with h | h
        · exact .inl h
        · exact .inr (by simp only [dpN]; omega)
      · simp at h
        subst h
        exact .inr (Nat.le_refl _)
  | .blk cs, f, x, h => by
    simp only [lis, addN] at h
    have ih := fun hx => lisL_dp cs (f := f) (x := x) hx
    split at h
    · rcases ih h with h | h
      · exact .inl h
      · exact .inr (by simp only [dpN]; omega)
    · rcases List.mem_append.mp h with h | h
      · rcases ih h with h | h
        · exact .inl h
        · exact .inr (by simp only [dpN]; omega)
      · simp at h
        subst h
        exact .inr (Nat.le_refl _)
theorem lisL_dp : ∀ (cs : List Nd) {f : List Nd} {x : Nd}, x ∈ lisL cs f → x ∈ f ∨ dpN x ≤ dpNs cs
  | [], f, x, h => .inl (by simpa [lisL] using h)
  | c :: cs, f, x, h => by
    simp only [lisL] at h
    rcases lisL_dp cs h with h | h
    · rcases lis_dp c h with h | h
      · exact .inl h
      · exact .inr (by simp only [dpNs]; omega)
    · exact .inr (by simp only [dpNs]; omega)
end
mutual
theorem vis_lis : ∀ (nd : Nd) {f : List Nd}, Clo f → vis nd f = lis nd f
  | .leaf e, f, h => by
    simp only [vis, lis, addN]
  | .run b t, f, h => by
    simp only [vis]
    split
    · rename_i hm
      rw [lis_old _ h hm]
    · rename_i hm
      rw [vis_lis b h]
      simp only [lis, addN]
      rw [if_neg]
      intro z
      rcases lis_dp b z with z | z
      · exact hm z
      · simp only [dpN] at z
        omega
  | .blk cs, f, h => by
    simp only [vis]
    split
    · rename_i hm
      rw [lis_old _ h hm]
    · rename_i hm
      rw [visL_lis cs h]
      simp only [lis, addN]
      rw [if_neg]
      intro z
      rcases lisL_dp cs z with z | z
      · exact hm z
      · simp only [dpN] at z
        omega
theorem visL_lis : ∀ (cs : List Nd) {f : List Nd}, Clo f → visL cs f = lisL cs f
  | [], f, h => by simp [visL, lisL]
  | c :: cs, f, h => by
    simp only [visL, lisL]
    rw [vis_lis c h, visL_lis cs (lis_ok c h).1]
end
mutual
theorem lis_len : ∀ (nd : Nd) {f : List Nd}, okN nd → (lis nd f).length ≤ f.length + dpN nd * szN nd ∧ 1 ≤ szN nd
  | .leaf e, f, h => by
    simp only [lis, dpN, szN]
    obtain ⟨g, e1, _, e2⟩ := addN_pre f (.leaf e)
    rw [e1, List.length_append]
    omega
  | .run b t, f, h => by
    simp only [okN] at h
    simp only [lis, dpN, szN]
    obtain ⟨g, e1, _, e2⟩ := addN_pre (lis b f) (.run b t)
    obtain ⟨i1, i2⟩ := lis_len b (f := f) h.1
    rw [e1, List.length_append]
    have a1 : dpN b * szN b ≤ dpN b * (szN b * t) := Nat.mul_le_mul_left _ (Nat.le_mul_of_pos_right _ (by omega))
    have a2 : 1 ≤ szN b * t := Nat.mul_pos i2 (by omega)
    have a3 : (dpN b + 1) * (szN b * t) = dpN b * (szN b * t) + szN b * t := Nat.succ_mul _ _
    exact ⟨by omega, a2⟩
  | .blk cs, f, h => by
    simp only [okN] at h
    simp only [lis, dpN, szN]
    obtain ⟨g, e1, _, e2⟩ := addN_pre (lisL cs f) (.blk cs)
    obtain ⟨i1, i2⟩ := lisL_len cs (f := f) h.2.2
    rw [e1, List.length_append]
    have a2 : 1 ≤ szNs cs := by omega
    have a3 : (dpNs cs + 1) * szNs cs = dpNs cs * szNs cs + szNs cs := Nat.succ_mul _ _
    exact ⟨by omega, a2⟩
theorem lisL_len : ∀ (cs : List Nd) {f : List Nd}, okNs cs → (lisL cs f).length ≤ f.length + dpNs cs * szNs cs ∧ cs.length ≤ szNs cs
  | [], f, h => by simp [lisL]
  | c :: cs, f, h => by
    simp only [okNs] at h
    simp only [lisL, dpNs, szNs, List.length_cons]
    obtain ⟨i1, i2⟩ := lis_len c (f := f) h.1
    obtain ⟨i3, i4⟩ := lisL_len cs (f := lis c f) h.2
    have a1 : dpN c * szN c ≤ max (dpN c) (dpNs cs) * szN c := Nat.mul_le_mul_right _ (Nat.le_max_left _ _)
    have a2 : dpNs cs * szNs cs ≤ max (dpN c) (dpNs cs) * szNs cs := Nat.mul_le_mul_right _ (Nat.le_max_right _ _)
    rw [Nat.mul_add]
    exact ⟨by omega, by omega⟩
end
noncomputable def kOf (a : A) : NestedKey := (keyOf a).getD .none
noncomputable def entK (f : List Nd) : Nd → NestedKey
  | .leaf e => .tup [.text "leaf", kOf e]
  | .run b t => .tup [.text "run", .num (idx f b : Nat), .num (t : Nat)]
  | .blk cs => .tup [.text "block", .tup (cs.map fun c => .num (idx f c : Nat))]
noncomputable def entA (f : List Nd) : Nd → A
  | .leaf e => .tup [.str "leaf", e]
  | .run b t => .tup [.str "run", .int (idx f b : Nat), .int (t : Nat)]
  | .blk cs => .tup [.str "block", .tup (cs.map fun c => .int (idx f c : Nat))]
theorem keysOf_ints : ∀ (l : List Nd) (g : Nd → Nat), keysOf (l.map fun c => .int (g c : Nat)) = some (l.map fun c => .num (g c : Nat))
  | [], g => rfl
  | c :: l, g => by
    simp only [List.map_cons]
    unfold keysOf
    rw [keysOf_ints l g]
    rfl
theorem key_ent {f : List Nd} {n : Nd} (h : okN n) : keyOf (entA f n) = some (entK f n) := by
  cases n with
  | leaf e =>
    simp only [okN] at h
    obtain ⟨k, e1, _⟩ := keyOf_clean (el_cmp h).cl
    simp only [entA, entK, kOf]
    simp [keyOf, keysOf, e1]
  | run b t =>
    simp only [entA, entK]
    simp [keyOf, keysOf]
  | blk cs =>
    simp only [entA, entK]
    have := keysOf_ints cs (idx f)
    simp [keyOf, keysOf, this]
theorem dep_nums : ∀ (l : List Nd) (g : Nd → Nat), NestedKey.depthAll (l.map fun c => .num (g c : Nat)) = 0
  | [], _ => rfl
  | c :: l, g => by simp only [List.map_cons, NestedKey.depthAll, NestedKey.depth, dep_nums l g, Nat.max_self]
theorem ent_depth {f : List Nd} {n : Nd} (h : okN n) : (entK f n).depth ≤ 8 ∧ tupK (entK f n) = true ∧ entK f n ≠ .none := by
  cases n with
  | leaf e =>
    simp only [okN] at h
    obtain ⟨k, e1, e2⟩ := keyOf_clean (el_cmp h).cl
    have := (el_cmp h).dp
    refine ⟨?_, rfl, by simp [entK]⟩
    simp only [entK, kOf, e1, Option.getD_some, NestedKey.depth, NestedKey.depthAll, e2]
    omega
  | run b t => exact ⟨by simp [entK, NestedKey.depth, NestedKey.depthAll], rfl, by simp [entK]⟩
  | blk cs => exact ⟨by simp [entK, NestedKey.depth, NestedKey.depthAll, dep_nums cs (idx f)], rfl, by simp [entK]⟩
theorem idx_lt {f : List Nd} {b : Nd} (h : b ∈ f) : idx f b < f.length := List.findIdx_lt_length_of_exists ⟨b, h, by simp⟩
theorem idx_get {f : List Nd} {b : Nd} (h : b ∈ f) : f[idx f b]? = some b := by
  have hl := idx_lt h
  have := List.findIdx_getElem (p := fun x => decide (x = b)) (xs := f) (w := hl)
  have e : f[idx f b]'hl = b := by
    unfold idx
    simpa using this
  rw [List.getElem?_eq_getElem hl, e]
theorem idx_inj {f : List Nd} {a b : Nd} (ha : a ∈ f) (hb : b ∈ f) (h : idx f a = idx f b) : a = b := by
  have h1 := idx_get ha
  rw [h, idx_get hb] at h1
  exact (Option.some.inj h1).symm
theorem idx_app {f g : List Nd} {a : Nd} (ha : a ∈ f) : idx (f ++ g) a = idx f a := by
  unfold idx
  rw [List.findIdx_append, if_pos (List.findIdx_lt_length_of_exists ⟨a, ha, by simp⟩)]
theorem kOf_inj {a b : A} (ha : El a) (hb : El b) (h : kOf a = kOf b) : a = b := by
  obtain ⟨k, e1, _⟩ := keyOf_clean (el_cmp ha).cl
  obtain ⟨l, e2, _⟩ := keyOf_clean (el_cmp hb).cl
  unfold kOf at h
  rw [e1, e2] at h
  simp at h
  subst h
  exact keyOf_inj e1 e2
theorem map_idx_inj {f : List Nd} : ∀ {as bs : List Nd}, (∀ a ∈ as, a ∈ f) → (∀ b ∈ bs, b ∈ f) → (as.map fun c => NestedKey.num (idx f c : Nat)) = (bs.map fun c => NestedKey.num (idx f c : Nat)) → as = bs
  | [], [], _, _, _ => rfl
  | [], _ :: _, _, _, h => by simp at h
  | _ :: _, [], _, _, h => by simp at h
  | a :: as, b :: bs, ha, hb, h => by
    simp only [List.map_cons, List.cons.injEq, NestedKey.num.injEq, Int.ofNat_inj] at h
    rw [idx_inj (ha a (by simp)) (hb b (by simp)) h.1, map_idx_inj (fun x hx => ha x (by simp [hx])) (fun x hx => hb x (by simp [hx])) h.2]
theorem ent_inj {f : List Nd} {m n : Nd} (hm : okN m) (hn : okN n) (km : ∀ c ∈ kids m, c ∈ f) (kn : ∀ c ∈ kids n, c ∈ f) (h : entK f m = entK f n) : m = n := by
  cases m with
  | leaf e =>
    cases n with
    | leaf e' =>
      simp only [okN] at hm hn
      simp [entK] at h
      rw [kOf_inj hm hn h]
    | run b t => simp [entK] at h
    | blk cs => simp [entK] at h; exact absurd h.1 leaf_block
  | run b t =>
    cases n with
    | leaf e' => simp [entK] at h
    | run b' t' =>
      simp [entK] at h
      rw [idx_inj (km b (by simp [kids])) (kn b' (by simp [kids])) (Int.ofNat_inj.mp h.1), Int.ofNat_inj.mp h.2]
    | blk cs => simp [entK] at h
  | blk cs =>
    cases n with
    | leaf e' => simp [entK] at h
    | run b t => simp [entK] at h
    | blk ds =>
      simp only [entK, NestedKey.tup.injEq, List.cons.injEq, and_true, true_and] at h
      have e := map_idx_inj (as := cs) (bs := ds) km kn h
      rw [e]
def numG (g : Nd → NestedKey) : Nat → List Nd → List (NestedKey × A)
  | _, [] => []
  | i, n :: r => (g n, .int (i : Nat)) :: numG g (i + 1) r
noncomputable def numF (f : List Nd) : List (NestedKey × A) := numG (entK f) 0 f
theorem numG_len (g : Nd → NestedKey) : ∀ (i : Nat) (f : List Nd), (numG g i f).length = f.length
  | _, [] => rfl
  | i, n :: r => by simp only [numG, List.length_cons, numG_len g (i + 1) r]
theorem numG_app (g : Nd → NestedKey) (n : Nd) : ∀ (i : Nat) (f : List Nd), numG g i (f ++ [n]) = numG g i f ++ [(g n, .int ((i + f.length : Nat) : Nat))]
  | i, [] => by simp [numG]
  | i, m :: r => by
    simp only [List.cons_append, numG, numG_app g n (i + 1) r, List.length_cons]
    rw [show i + 1 + r.length = i + (r.length + 1) by omega]
theorem numG_congr {g g' : Nd → NestedKey} : ∀ {i : Nat} {f : List Nd}, (∀ m ∈ f, g m = g' m) → numG g i f = numG g' i f
  | _, [], _ => rfl
  | i, m :: r, h => by
    simp only [numG]
    rw [h m (by simp), numG_congr fun x hx => h x (by simp [hx])]
theorem numG_key {g : Nd → NestedKey} : ∀ {i : Nat} {f : List Nd} {kv : NestedKey × A}, kv ∈ numG g i f → ∃ m ∈ f, kv.1 = g m
  | _, [], _, h => by simp [numG] at h
  | i, m :: r, kv, h => by
    simp only [numG, List.mem_cons] at h
    rcases h with rfl | h
    · exact ⟨m, by simp, rfl⟩
    · obtain ⟨x, hx, e⟩ := numG_key h
      exact ⟨x, by simp [hx], e⟩
theorem atD_num {g : Nd → NestedKey} {n : Nd} : ∀ {i : Nat} {f : List Nd}, (∀ m ∈ f, g m = g n → m = n) → atD (numG g i f) (g n) = if n ∈ f then some (.int ((i + idx f n : Nat) : Nat)) else none
  | _, [], _ => by simp [numG, atD_nil]
  | i, m :: r, h => by
    simp only [numG]
    by_cases e : m = n
    · subst e
      rw [atD_pos rfl]
      simp [idx, List.findIdx_cons]
    · rw [atD_neg (fun z => e (h m (by simp) z)), atD_num fun x hx => h x (by simp [hx])]
      have e' : ¬ n = m := fun z => e z.symm
      by_cases c : n ∈ r
      · rw [if_pos c, if_pos (by simp [c])]
        have : idx (m :: r) n = idx r n + 1 := by
          unfold idx
          rw [List.findIdx_cons]
          simp [e]
        rw [this, show i + 1 + idx r n = i + (idx r n + 1) by omega]
      · rw [if_neg c, if_neg (by simp [c, e'])]
theorem ent_app {f g : List Nd} {n : Nd} (h : ∀ c ∈ kids n, c ∈ f) : entK (f ++ g) n = entK f n := by
  cases n with
  | leaf e => rfl
  | run b t => simp only [entK, idx_app (h b (by simp [kids]))]
  | blk cs =>
    simp only [entK]
    congr 2
    simp only [List.cons.injEq, NestedKey.tup.injEq, and_true]
    exact List.map_congr_left fun c hc => by rw [idx_app (h c (by simpa [kids] using hc))]
theorem num_app {f : List Nd} {n : Nd} (h : Clo f) (hn : n ∉ f) (hk : ∀ c ∈ kids n, c ∈ f) : numF (f ++ [n]) = numF f ++ [(entK f n, .int (f.length : Nat))] := by
  unfold numF
  rw [numG_app, ent_app hk, numG_congr (g' := entK f) fun m hm => ent_app (h.2 m hm)]
  simp
theorem at_num {f : List Nd} {n : Nd} (h : Clo f) (ok : ∀ m ∈ f, okN m) (hn : okN n) (hk : ∀ c ∈ kids n, c ∈ f) : atD (numF f) (entK f n) = if n ∈ f then some (.int (idx f n : Nat)) else none := by
  unfold numF
  rw [atD_num fun m hm e => ent_inj (ok m hm) hn (h.2 m hm) hk e]
  simp
theorem fit_num {f : List Nd} {n : Nd} (ok : ∀ m ∈ f, okN m) (hn : okN n) : fitD (numF f) (entK f n) = true := by
  obtain ⟨d1, d2, d3⟩ := ent_depth (f := f) hn
  unfold fitD
  rw [Bool.and_eq_true, Bool.and_eq_true]
  refine ⟨by simpa using d1, by simpa using d3, ?_⟩
  rw [List.all_eq_true]
  intro kv hkv
  obtain ⟨m, hm, e⟩ := numG_key hkv
  rw [e, d2, (ent_depth (f := f) (ok m hm)).2.1]
  rfl
theorem idx_new {f : List Nd} {n : Nd} (hn : n ∉ f) : idx (f ++ [n]) n = f.length := by
  unfold idx
  rw [List.findIdx_append]
  have : ¬ f.findIdx (fun x => decide (x = n)) < f.length := by
    intro z
    have := List.findIdx_getElem (p := fun x => decide (x = n)) (xs := f) (w := z)
    simp at this
    exact hn (this ▸ List.getElem_mem z)
  rw [if_neg this]
  simp
mutual
theorem lis_okN : ∀ (nd : Nd) {f : List Nd}, okN nd → (∀ m ∈ f, okN m) → ∀ m ∈ lis nd f, okN m
  | .leaf e, f, h, hf => by
    simp only [lis, addN]
    split
    · exact hf
    · intro m hm
      rcases List.mem_append.mp hm with hm | hm
      · exact hf m hm
      · simp at hm
        subst hm
        exact h
  | .run b t, f, h, hf => by
    have h' := h
    simp only [okN] at h
    have ih := lis_okN b h.1 hf
    simp only [lis, addN]
    split
    · exact ih
    · intro m hm
      rcases List.mem_append.mp hm with hm | hm
      · exact ih m hm
      · simp at hm
        subst hm
        exact h'
  | .blk cs, f, h, hf => by
    have h' := h
    simp only [okN] at h
    have ih := lisL_okN cs h.2.2 hf
    simp only [lis, addN]
    split
    · exact ih
    · intro m hm
      rcases List.mem_append.mp hm with hm | hm
      · exact ih m hm
      · simp at hm
        subst hm
        exact h'
theorem lisL_okN : ∀ (cs : List Nd) {f : List Nd}, okNs cs → (∀ m ∈ f, okN m) → ∀ m ∈ lisL cs f, okN m
  | [], f, h, hf => by simpa [lisL] using hf
  | c :: cs, f, h, hf => by
    simp only [okNs] at h
    simp only [lisL]
    exact lisL_okN cs h.2 (lis_okN c h.1 hf)
end
structure Fr2 (a b : Nat) (st st' : Store) : Prop where
  len : st.length ≤ st'.length
  get : ∀ i, i < st.length → i ≠ a → i ≠ b → st'[i]? = st[i]?
theorem Fr2.refl (a b : Nat) (st : Store) : Fr2 a b st st := ⟨Nat.le_refl _, fun _ _ _ _ => rfl⟩
theorem Fr2.trans {a b : Nat} {s1 s2 s3 : Store} (h : Fr2 a b s1 s2) (k : Fr2 a b s2 s3) : Fr2 a b s1 s3 := ⟨Nat.le_trans h.len k.len, fun i h1 h2 h3 => by rw [k.get i (Nat.lt_of_lt_of_le h1 h.len) h2 h3, h.get i h1 h2 h3]⟩
theorem Fr2.grown {a b : Nat} {s1 s2 : Store} (g : Grown s1 s2) : Fr2 a b s1 s2 := by
  obtain ⟨x, rfl⟩ := g
  exact ⟨by simp, fun i h _ _ => List.getElem?_append_left h⟩
theorem Fr2.set1 {a b : Nat} {s : Store} {o : Ob} : Fr2 a b s (s.set a o) := ⟨by simp, fun i _ h _ => List.getElem?_set_ne (Ne.symm h)⟩
end Law
namespace Law
open PySem L2 ML
def m_NodeTable___init__ : MF := mFn 1 1 (mSeq (mPutF "NodeTable" "numbers" (mVar 0) mDNew)
    (mSeq (mPutF "NodeTable" "entries" (mVar 0) (mLst mNil))
    (mSeq (mPutF "NodeTable" "codes" (mVar 0) (mLst mNil))
    (mPutF "NodeTable" "sizes" (mVar 0) (mLst mNil)))))
def m_NodeTable_measure : MF := mFn 3 2 (mIfS (mGB (mBin eqA (mBin ixA (mVar 1) (mC (.int 0))) (mC (.str "leaf")))) (mSeq (mExpr (mBm appendA (mFld "NodeTable" "codes" (mVar 0)) (mCons (mCall (m_code_of 40) (mCons (mBin ixA (mVar 1) (mC (.int 1))) mNil)) mNil)))
    (mExpr (mBm appendA (mFld "NodeTable" "sizes" (mVar 0)) (mCons (mC (.int 1)) mNil)))) (mIfS (mGB (mBin eqA (mBin ixA (mVar 1) (mC (.int 0))) (mC (.str "run")))) (mSeq (mExpr (mBm appendA (mFld "NodeTable" "codes" (mVar 0)) (mCons (mCall m_run_code (mCons (mBin ixA (mVar 1) (mC (.int 2))) (mCons (mBin ixA (mFld "NodeTable" "codes" (mVar 0)) (mBin ixA (mVar 1) (mC (.int 1)))) mNil))) mNil)))
    (mExpr (mBm appendA (mFld "NodeTable" "sizes" (mVar 0)) (mCons (mBin mulA (mBin ixA (mFld "NodeTable" "sizes" (mVar 0)) (mBin ixA (mVar 1) (mC (.int 1)))) (mBin ixA (mVar 1) (mC (.int 2)))) mNil)))) (mSeq (mExpr (mBm appendA (mFld "NodeTable" "codes" (mVar 0)) (mCons (mCall m_block_code (mCons (mLc (mSrc (mBin ixA (mVar 1) (mC (.int 1)))) (.one 2) [2] mYes (mBin ixA (mFld "NodeTable" "codes" (mVar 0)) (mVar 2))) mNil)) mNil)))
    (mExpr (mBm appendA (mFld "NodeTable" "sizes" (mVar 0)) (mCons (mCa sumA (mCons (mLc (mSrc (mBin ixA (mVar 1) (mC (.int 1)))) (.one 2) [2] mYes (mBin ixA (mFld "NodeTable" "sizes" (mVar 0)) (mVar 2))) mNil)) mNil))))))
def m_NodeTable_number_of : MF := mFn 3 2 (mSeq (mSet 2 (mDGet1 (mFld "NodeTable" "numbers" (mVar 0)) (mVar 1)))
    (mSeq (mIfS (mGB (mBin isNA (mVar 2) (mC .non))) (mSeq (mSet 2 (mCa lenA (mCons (mFld "NodeTable" "entries" (mVar 0)) mNil)))
    (mSeq (mDPut (mFld "NodeTable" "numbers" (mVar 0)) (mVar 1) (mVar 2))
    (mSeq (mExpr (mBm appendA (mFld "NodeTable" "entries" (mVar 0)) (mCons (mVar 1) mNil)))
    (mExpr (mMeth "NodeTable" "measure" m_NodeTable_measure (mVar 0) (mCons (mVar 1) mNil)))))) mNext)
    (mRet (mVar 2))))
def m_leaf_row : MF := mFn 3 2 (mRet (mLc (mSrc (mVar 1)) (.one 2) [2] mYes (mMeth "NodeTable" "number_of" m_NodeTable_number_of (mVar 0) (mCons (mTup (mCons (mC (.str "leaf")) (mCons (mVar 2) mNil))) mNil))))
def m_NodeTable_item_number : MF := mFn 3 3 (mSeq (mIfS (mGB (mBin eqA (mVar 2) (mC (.int 1)))) (mRet (mVar 1)) mNext)
    (mRet (mMeth "NodeTable" "number_of" m_NodeTable_number_of (mVar 0) (mCons (mTup (mCons (mC (.str "run")) (mCons (mVar 1) (mCons (mVar 2) mNil)))) mNil))))
noncomputable def m_item_row : MF := mFn 4 2 (mRet (mCa tupleA (mCons (mLc (mSrc (mCall m_groups_of (mCons (mVar 1) mNil))) (.many [2, 3]) [2, 3] mYes (mMeth "NodeTable" "item_number" m_NodeTable_item_number (mVar 0) (mCons (mVar 2) (mCons (mVar 3) mNil)))) mNil)))
noncomputable def m_color_row : MF := mFn 3 2 (mRet (mCall m_colors_of_coins (mCons (mCall m_coins_of_codes (mCons (mLc (mSrc (mVar 1)) (.one 2) [2] mYes (mBin ixA (mFld "NodeTable" "codes" (mVar 0)) (mVar 2))) mNil)) mNil)))
section
variable {st : Store} {cls f : Str} {Q : A → Store → Prop} {ρ : ML.Env} {N B C : ML.Env → Store → Prop} {Rt : A → Store → Prop}
@[simp] theorem wp_fld {ma : MX} : (mFld cls f ma ρ st).wp Q ↔ (ma ρ st).wp fun x st1 => ∃ fs, insA cls x st1 = some fs ∧ ∃ v, fs.lookup f = some v ∧ Q v st1 := by
  unfold mFld
  rw [wp_bind]
  refine iff_of_eq (congrArg _ (funext fun x => funext fun st1 => propext ?_))
  cases insA cls x st1 with
  | none => simp
  | some fs =>
    simp only [Option.some.injEq, ex_eq]
    cases e : fs.lookup f with
    | none => simp only [reduceCtorEq, false_and, exists_false]; rfl
    | some v => simp only [Option.some.injEq, ex_eq]; rfl
@[simp] theorem sp_putf {mo ma : MX} : (mPutF cls f mo ma ρ st).wp N B C Rt ↔ (ma ρ st).wp fun v st1 => (mo ρ st1).wp fun x st2 => ∃ st3, setIA cls f v x st2 = some st3 ∧ N ρ st3 := by
  unfold mPutF
  rw [wp_toS]
  refine iff_of_eq (congrArg _ (funext fun v => funext fun st1 => propext ?_))
  rw [wp_toS]
  refine iff_of_eq (congrArg _ (funext fun x => funext fun st2 => propext ?_))
  cases setIA cls f v x st2 with
  | none => simp [SR.wp]
  | some st3 => simp [SR.wp]
@[simp] theorem wp_meth {mf : MF} {mo : MX} {ms : MA} : (mMeth cls f mf mo ms ρ st).wp Q ↔ (mo ρ st).wp fun x st1 => ∃ fs, insA cls x st1 = some fs ∧ fs.lookup f = none ∧ (ms ρ st1).wp fun vs st2 => (mf (x :: vs) st2).wp Q := by
  unfold mMeth
  rw [wp_bind]
  refine iff_of_eq (congrArg _ (funext fun x => funext fun st1 => propext ?_))
  cases insA cls x st1 with
  | none => simp
  | some fs =>
    simp only [Option.some.injEq, ex_eq]
    by_cases c : fs.lookup f = none
    · simp only [c, if_true, wp_bind, true_and]
    · simp only [c, if_false, false_and]
      rfl
@[simp] theorem wp_make {mf : MF} {ms : MA} : (mMake cls mf ms ρ st).wp Q ↔ (ms ρ st).wp fun vs st1 => (mf (.ref st1.length :: vs) (st1 ++ [.oth (.ins cls [])])).wp fun v st2 => v = .non ∧ Q (.ref st1.length) st2 := by
  unfold mMake
  rw [wp_bind]
  refine iff_of_eq (congrArg _ (funext fun vs => funext fun st1 => propext ?_))
  rw [wp_bind]
  refine iff_of_eq (congrArg _ (funext fun v => funext fun st2 => propext ?_))
  cases v <;> simp
end
open Classical
def codA (n : Nd) : A := .tup ((codeN n).map A.int)
def szA (n : Nd) : A := .int (szN n : Nat)
def tabFs (t : Nat) : List (Str × A) := [("numbers", .ref (t + 1)), ("entries", .ref (t + 2)), ("codes", .ref (t + 3)), ("sizes", .ref (t + 4))]
@[simp] theorem tab_num (t : Nat) : List.lookup ("numbers" : Str) (tabFs t) = some (.ref (t + 1)) := rfl
@[simp] theorem tab_ent (t : Nat) : List.lookup ("entries" : Str) (tabFs t) = some (.ref (t + 2)) := rfl
@[simp] theorem tab_cod (t : Nat) : List.lookup ("codes" : Str) (tabFs t) = some (.ref (t + 3)) := rfl
@[simp] theorem tab_siz (t : Nat) : List.lookup ("sizes" : Str) (tabFs t) = some (.ref (t + 4)) := rfl
@[simp] theorem tab_m1 (t : Nat) : List.lookup ("measure" : Str) (tabFs t) = none := rfl
@[simp] theorem tab_m2 (t : Nat) : List.lookup ("number_of" : Str) (tabFs t) = none := rfl
@[simp] theorem tab_m3 (t : Nat) : List.lookup ("item_number" : Str) (tabFs t) = none := rfl
@[simp] theorem tab_m4 (t : Nat) : List.lookup ("nodes_in" : Str) (tabFs t) = none := rfl
theorem insA_of {cls : Str} {t : Nat} {fs : List (Str × A)} {st : Store} (h : st[t]? = some (.oth (.ins cls fs))) : insA cls (.ref t) st = some fs := by
  unfold insA
  simp only [h, if_true]
structure Okt (n : Nd) : Prop where
  ok : okN n
  dp : dpN n ≤ 29
  sz : szN n ≤ 2000
def Ord (f : List Nd) : Prop := ∀ (i : Nat) (n : Nd), f[i]? = some n → ∀ c ∈ kids n, idx f c < i
theorem addN_ord {f : List Nd} {n : Nd} (h : Ord f) (hc : Clo f) (hk : ∀ c ∈ kids n, c ∈ f) : Ord (addN f n) := by
  unfold addN
  split
  · exact h
  · intro i m hi c hcm
    by_cases e : i < f.length
    · rw [List.getElem?_append_left e] at hi
      rw [idx_app (hc.2 m (List.mem_of_getElem? hi) c hcm)]
      exact h i m hi c hcm
    · rw [List.getElem?_append_right (by omega)] at hi
      have h0 : i - f.length = 0 := by
        have := (List.getElem?_eq_some_iff.mp hi).1
        simp at this
        omega
      rw [h0] at hi
      simp at hi
      subst hi
      rw [idx_app (hk c hcm)]
      have := idx_lt (hk c hcm)
      omega
structure Tab (f : List Nd) (t : Nat) (st : Store) : Prop where
  c : Clo f
  o : Ord f
  ok : ∀ m ∈ f, Okt m
  i : st[t]? = some (.oth (.ins "NodeTable" (tabFs t)))
  d : stD st (t + 1) = some (numF f)
  e : stL st (t + 2) = some (f.map (entA f))
  k : stL st (t + 3) = some (f.map codA)
  z : stL st (t + 4) = some (f.map szA)
structure FrT (t : Nat) (st st' : Store) : Prop where
  len : st.length ≤ st'.length
  get : ∀ i, i < st.length → (i ≤ t ∨ t + 4 < i) → st'[i]? = st[i]?
theorem FrT.refl (t : Nat) (st : Store) : FrT t st st := ⟨Nat.le_refl _, fun _ _ _ => rfl⟩
theorem FrT.trans {t : Nat} {s1 s2 s3 : Store} (h : FrT t s1 s2) (k : FrT t s2 s3) : FrT t s1 s3 := ⟨Nat.le_trans h.len k.len, fun i h1 h2 => by rw [k.get i (Nat.lt_of_lt_of_le h1 h.len) h2, h.get i h1 h2]⟩
theorem FrT.grown {t : Nat} {s1 s2 : Store} (g : Grown s1 s2) : FrT t s1 s2 := by
  obtain ⟨x, rfl⟩ := g
  exact ⟨by simp, fun i h _ => List.getElem?_append_left h⟩
theorem FrT.set {t r : Nat} {s : Store} {o : Ob} (h1 : t < r) (h2 : r ≤ t + 4) : FrT t s (s.set r o) := ⟨by simp, fun i _ h => List.getElem?_set_ne (by omega)⟩
theorem FrT.stL {t r : Nat} {s s' : Store} {xs : List A} (h : FrT t s s') (hr : r ≤ t ∨ t + 4 < r) (e : ML.stL s r = some xs) : ML.stL s' r = some xs := stL_of (by rw [h.get r (stL_lt e) hr]; exact stL_eq e)
theorem Tab.grown {f : List Nd} {t : Nat} {st st' : Store} (h : Tab f t st) (g : Grown st st') : Tab f t st' := ⟨h.c, h.o, h.ok, g.get h.i, Grown.stD g h.d, g.stL h.e, g.stL h.k, g.stL h.z⟩
theorem Tab.set {f : List Nd} {t r : Nat} {st : Store} {o : Ob} (h : Tab f t st) (hr : r < t ∨ t + 4 < r) : Tab f t (st.set r o) := ⟨h.c, h.o, h.ok, by rw [List.getElem?_set_ne (by omega)]; exact h.i, by rw [stD_set_ne (by omega)]; exact h.d, by rw [stL_set_ne' (by omega)]; exact h.e, by rw [stL_set_ne' (by omega)]; exact h.k, by rw [stL_set_ne' (by omega)]; exact h.z⟩
theorem Tab.fr {f : List Nd} {t : Nat} {st st' : Store} (h : Tab f t st) (k : ∀ i, i < st.length → t ≤ i → i ≤ t + 4 → st'[i]? = st[i]?) : Tab f t st' := by
  have hi := (List.getElem?_eq_some_iff.mp h.i).1
  have hd := stD_lt h.d
  have he := stL_lt h.e
  have hk := stL_lt h.k
  have hz := stL_lt h.z
  refine ⟨h.c, h.o, h.ok, by rw [k _ hi (by omega) (by omega)]; exact h.i, ?_, stL_of (by rw [k _ he (by omega) (by omega)]; exact stL_eq h.e), stL_of (by rw [k _ hk (by omega) (by omega)]; exact stL_eq h.k), stL_of (by rw [k _ hz (by omega) (by omega)]; exact stL_eq h.z)⟩
  have := h.d
  unfold ML.stD at this ⊢
  rw [k _ hd (by omega) (by omega)]
  exact this
theorem entA_app {f g : List Nd} {n : Nd} (h : ∀ c ∈ kids n, c ∈ f) : entA (f ++ g) n = entA f n := by
  cases n with
  | leaf e => rfl
  | run b t => simp only [entA, idx_app (h b (by simp [kids]))]
  | blk cs =>
    simp only [entA]
    congr 2
    simp only [List.cons.injEq, A.tup.injEq, and_true]
    exact List.map_congr_left fun c hc => by rw [idx_app (h c (by simpa [kids] using hc))]
theorem ents_app {f : List Nd} {n : Nd} (h : Clo f) (hk : ∀ c ∈ kids n, c ∈ f) : (f ++ [n]).map (entA (f ++ [n])) = f.map (entA f) ++ [entA f n] := by
  rw [List.map_append, List.map_singleton, entA_app hk]
  congr 1
  exact List.map_congr_left fun m hm => entA_app (h.2 m hm)
theorem at_idx {f : List Nd} {g : Nd → A} {b : Nd} (h : b ∈ f) : atI (f.map g) (idx f b : Nat) = some (g b) := by
  rw [atI_nn (by omega), Int.toNat_natCast, List.getElem?_map, idx_get h]
  rfl
theorem okt_len {n : Nd} (h : Okt n) : (codeN n).length ≤ 300000 := by
  have := codeN_len n h.ok
  have h1 := h.sz
  have h2 := h.dp
  have h3 : (45 + 3 * dpN n) * szN n ≤ 132 * 2000 := Nat.mul_le_mul (by omega) h1
  omega
theorem szNs_sumT : ∀ (cs : List Nd), (cs.map fun c => ((szN c : Nat) : Int)).sum = ((szNs cs : Nat) : Int)
  | [] => rfl
  | c :: cs => by
    simp only [List.map_cons, List.sum_cons, szNs, szNs_sumT cs]
    omega
theorem run_code_wp {t : Nat} {c : Nd} {st : Store} {Q : A → Store → Prop} (hl : (codeN c).length ≤ 1000000) (k : Q (codA (.run c t)) st) : (m_run_code [.int (t : Int), codA c] st).wp Q := by
  simp only [m_run_code, codA]
  simp
  refine digits_wp (n := t) (c := 2) (by decide) ?_
  simp [digs_len]
  refine ⟨by omega, ?_⟩
  simpa [codA, codeN] using k
theorem measure_wp {f : List Nd} {n : Nd} {t : Nat} {st : Store} {Q : A → Store → Prop} (hi : insA "NodeTable" (.ref t) st = some (tabFs t)) (hk : stL st (t + 3) = some (f.map codA)) (hz : stL st (t + 4) = some (f.map szA)) (ok : ∀ m ∈ f, Okt m) (hn : Okt n) (hkid : ∀ c ∈ kids n, c ∈ f) (hl : f.length ≤ 1000000)
    (k : ∀ st', FrT t st st' → st'[t + 1]? = st[t + 1]? → st'[t + 2]? = st[t + 2]? → stL st' (t + 3) = some (f.map codA ++ [codA n]) → stL st' (t + 4) = some (f.map szA ++ [szA n]) → Q .non st') : (m_NodeTable_measure [.ref t, entA f n] st).wp Q := by
  simp only [m_NodeTable_measure]
  rw [wp_fn]
  refine ⟨rfl, ?_⟩
  simp only [List.map_cons, List.map_nil, List.cons_append, List.nil_append, List.replicate, Nat.reduceSub]
  have hln := okt_len hn
  have hk3 := stL_lt hk
  have hz4 := stL_lt hz
  have h1 : t + 1 < st.length := by omega
  have h2 : t + 2 < st.length := by omega
  have hit : st[t]? = some (.oth (.ins "NodeTable" (tabFs t))) := insA_eq hi
  have fin : ∀ st1, Grown st st1 → Q .non ((st1.set (t + 3) (.lst (f.map codA ++ [codA n]))).set (t + 4) (.lst (f.map szA ++ [szA n]))) := fun st1 g => by
    refine k _ (((FrT.grown g).trans (FrT.set (by omega) (by omega))).trans (FrT.set (by omega) (by omega))) ?_ ?_ ?_ ?_
    · rw [List.getElem?_set_ne (by omega), List.getElem?_set_ne (by omega)]
      rw [List.getElem?_eq_getElem h1]
      exact g.get (List.getElem?_eq_getElem h1)
    · rw [List.getElem?_set_ne (by omega), List.getElem?_set_ne (by omega)]
      rw [List.getElem?_eq_getElem h2]
      exact g.get (List.getElem?_eq_getElem h2)
    · rw [stL_set_ne' (by omega), stL_set_self (g.stL hk)]
    · rw [stL_set_self (xs := f.map szA)]
      rw [stL_set_ne' (by omega)]
      exact g.stL hz
  have app2 : ∀ (st1 : Store) (sz : A), Grown st st1 → sz = szA n → (appendA (.ref (t + 4)) [sz] (st1.set (t + 3) (.lst (f.map codA ++ [codA n])))).wp fun _ st' => Q .non st' := fun st1 sz g e => by
    subst e
    rw [w_append]
    refine ⟨f.map szA, by rw [stL_set_ne' (by omega)]; exact g.stL hz, by rw [size_eq, List.length_map]; omega, fin st1 g⟩
  have ins1 : ∀ st1, Grown st st1 → insA "NodeTable" (.ref t) st1 = some (tabFs t) := fun st1 g => insA_of (g.get hit)
  have ins2 : ∀ (st1 : Store) (o : Ob), Grown st st1 → insA "NodeTable" (.ref t) (st1.set (t + 3) o) = some (tabFs t) := fun st1 o g => insA_of (by rw [List.getElem?_set_ne (by omega)]; exact g.get hit)
  cases n with
  | leaf e =>
    simp only [entA]
    have ho := hn.ok
    simp only [okN] at ho
    have i0 : atI [A.str "leaf", e] 0 = some (.str "leaf") := rfl
    have i1 : atI [A.str "leaf", e] 1 = some e := rfl
    simp only [sp_ifs, sp_seq, sp_expr, wp_gb, wp_bin, wp_bm, wp_fld, wp_call, wp_cons, wp_nil, wp_var, wp_c, List.getElem?_cons_succ, List.getElem?_cons_zero, Option.some.injEq, ex_eq, w_ixT, i0, i1, w_eqS, w_getB, decide_true, if_true, hi, tab_cod, isL_ref, hk, Option.isSome_some, true_and]
    refine code_wp 38 ho fun st1 g1 => ?_
    rw [w_append]
    refine ⟨_, g1.stL hk, by rw [size_eq, List.length_map]; omega, ?_⟩
    have e1 : A.tup ((elCode e).map A.int) = codA (.leaf e) := by simp only [codA, codeN]
    rw [e1]
    simp only [ins2 st1 _ g1, Option.some.injEq, ex_eq, tab_siz, isL_ref, stL_set_ne' (show t + 3 ≠ t + 4 by omega), g1.stL hz, Option.isSome_some, true_and]
    exact app2 st1 _ g1 (by simp only [szA, szN]; rfl)
  | run b tm =>
    simp only [entA]
    have hb : b ∈ f := hkid b (by simp [kids])
    have ho := hn.ok
    have hsz := hn.sz
    simp only [okN] at ho
    simp only [szN] at hsz
    have hbl := okt_len (ok b hb)
    have hbs := (ok b hb).sz
    have i0 : ∀ x y : A, atI [A.str "run", x, y] 0 = some (.str "run") := fun _ _ => rfl
    have i1 : ∀ x y : A, atI [A.str "run", x, y] 1 = some x := fun _ _ => rfl
    have i2 : ∀ x y : A, atI [A.str "run", x, y] 2 = some y := fun _ _ => rfl
    simp only [sp_ifs, sp_seq, sp_expr, wp_gb, wp_bin, wp_bm, wp_fld, wp_call, wp_cons, wp_nil, wp_var, wp_c, List.getElem?_cons_succ, List.getElem?_cons_zero, Option.some.injEq, ex_eq, w_ixT, w_ixL, i0, i1, i2, w_eqS, w_getB, run_leaf, decide_true, decide_false, Bool.false_eq_true, if_true, if_false, hi, tab_cod, isL_ref, hk, Option.isSome_some, true_and, at_idx hb]
    refine run_code_wp (by omega) ?_
    rw [w_append]
    refine ⟨_, hk, by rw [size_eq, List.length_map]; omega, ?_⟩
    simp only [ins2 st _ (.refl _), Option.some.injEq, ex_eq, tab_siz, isL_ref, stL_set_ne' (show t + 3 ≠ t + 4 by omega), hz, Option.isSome_some, true_and, at_idx hb]
    rw [w_ixL]
    refine ⟨f.map szA, by rw [stL_set_ne' (by omega)]; exact hz, szA b, at_idx hb, ?_⟩
    have e : szA b = .int (szN b : Nat) := rfl
    rw [e, w_mul]
    refine ⟨cmul_l (by omega) (by omega), app2 st _ (.refl _) ?_⟩
    simp only [szA, szN, Int.natCast_mul]
  | blk cs =>
    simp only [entA]
    have hb : ∀ c ∈ cs, c ∈ f := hkid
    have ho := hn.ok
    have hsz := hn.sz
    simp only [okN] at ho
    simp only [szN] at hsz
    simp only [codeN, List.length_cons] at hln
    have i0 : ∀ x : A, atI [A.str "block", x] 0 = some (.str "block") := fun _ => rfl
    have i1 : ∀ x : A, atI [A.str "block", x] 1 = some x := fun _ => rfl
    have grab : ∀ (g : Nd → A) (fld : Str) (off : Nat) (st1 : Store) (Q1 : A → Store → Prop), insA "NodeTable" (.ref t) st1 = some (tabFs t) → (tabFs t).lookup fld = some (.ref (t + off)) → stL st1 (t + off) = some (f.map g) ∨ stL st1 (t + off) = some (f.map g ++ [codA (.blk cs)]) → Q1 (.ref st1.length) (st1 ++ [.lst (cs.map g)]) →
        (mLc (mSrc (mBin ixA (mVar 1) (mC (.int 1)))) (.one 2) [2] mYes (mBin ixA (mFld "NodeTable" fld (mVar 0)) (mVar 2)) [some (.ref t), some (.tup [.str "block", .tup (cs.map fun c => .int (idx f c : Nat))]), none] st1).wp Q1 := by
      intro g fld off st1 Q1 hi1 hf1 hl1 k1
      simp only [wp_lc, wp_src, wp_bin, wp_var, wp_c, List.getElem?_cons_succ, List.getElem?_cons_zero, Option.some.injEq, ex_eq, w_ixT, i1, w_srcT, wipeA_cons, wipeA_nil, List.set_cons_succ, List.set_cons_zero]
      refine lc_vals (fun i st' acc => st' = st1 ∧ acc = (cs.take i).map g) ⟨rfl, by simp⟩ ?_ ?_
      · rintro i x st' acc hx ⟨rfl, rfl⟩
        refine ⟨_, rfl, ?_⟩
        rw [List.getElem?_map, Option.map_eq_some_iff] at hx
        obtain ⟨c, hc, rfl⟩ := hx
        have hcm := hb c (List.mem_of_getElem? hc)
        simp only [wp_yes, if_true, wp_bin, wp_fld, wp_var, List.set_cons_succ, List.set_cons_zero, List.getElem?_cons_succ, List.getElem?_cons_zero, Option.some.injEq, ex_eq, hi1, hf1]
        have hat : ∃ ys, stL st' (t + off) = some ys ∧ atI ys (idx f c : Nat) = some (g c) := by
          rcases hl1 with h | h
          · exact ⟨_, h, at_idx hcm⟩
          · refine ⟨_, h, ?_⟩
            rw [atI_nn (by omega), Int.toNat_natCast, List.getElem?_append_left (by rw [List.length_map]; exact idx_lt hcm), List.getElem?_map, idx_get hcm]
            rfl
        obtain ⟨ys, y1, y2⟩ := hat
        rw [w_ixL]
        refine ⟨ys, y1, _, y2, ?_, rfl, ?_⟩
        · rw [size_eq, List.length_map, List.length_take]
          omega
        · rw [List.take_add_one, hc]
          simp
      · rintro st' acc ⟨rfl, rfl⟩
        rw [List.length_map, List.take_length]
        exact k1
    generalize hL : @mLc = L at grab
    simp only [sp_ifs, sp_seq, sp_expr, wp_gb, wp_bin, wp_bm, wp_fld, wp_call, wp_cons, wp_nil, wp_var, wp_c, List.getElem?_cons_succ, List.getElem?_cons_zero, Option.some.injEq, ex_eq, w_ixT, i0, w_eqS, w_getB, block_leaf, block_run, decide_true, decide_false, Bool.false_eq_true, if_true, if_false, hi, tab_cod, isL_ref, hk, Option.isSome_some, true_and]
    refine grab codA "codes" 3 st _ hi (tab_cod t) (.inl hk) ?_
    refine block_code_wp (cs := cs) (by rw [stL_new]; rfl) (by omega) (by omega) fun st1 g1 => ?_
    have g2 := (Grown.one st (.lst (cs.map codA))).trans g1
    rw [w_append]
    refine ⟨_, g2.stL hk, by rw [size_eq, List.length_map]; omega, ?_⟩
    have e1 : A.tup ((codeN (.blk cs)).map A.int) = codA (.blk cs) := rfl
    rw [e1]
    simp only [ins2 st1 _ g2, Option.some.injEq, ex_eq, tab_siz, isL_ref, stL_set_ne' (show t + 3 ≠ t + 4 by omega), g2.stL hz, Option.isSome_some, true_and, wp_ca, wp_cons, wp_nil]
    refine grab szA "sizes" 4 _ _ (ins2 st1 _ g2) (tab_siz t) (.inl (by rw [stL_set_ne' (by omega)]; exact g2.stL hz)) ?_
    have hsum := szNs_sumT cs
    refine w_sumI (ns := cs.map fun c => ((szN c : Nat) : Int)) (by rw [stL_new, List.map_map]; rfl) ?_
    generalize hs1 : st1.set (t + 3) (.lst (f.map codA ++ [codA (.blk cs)])) = s1
    rw [w_append]
    have hs4 : stL s1 (t + 4) = some (f.map szA) := by rw [← hs1, stL_set_ne' (by omega)]; exact g2.stL hz
    refine ⟨_, Grown.stL (.one _ _) hs4, by rw [size_eq, List.length_map]; omega, ?_⟩
    have e2 : (s1 ++ [Ob.lst (cs.map szA)]).set (t + 4) (.lst (f.map szA ++ [.int (cs.map fun c => ((szN c : Nat) : Int)).sum])) = ((st1 ++ [Ob.lst (cs.map szA)]).set (t + 3) (.lst (f.map codA ++ [codA (.blk cs)]))).set (t + 4) (.lst (f.map szA ++ [szA (.blk cs)])) := by
      rw [← hs1]
      have hh : t + 3 < st1.length := stL_lt (g2.stL hk)
      rw [List.set_append_left _ _ hh]
      congr 3
      simp only [szA, szN]
      rw [← hsum]
    rw [e2]
    exact fin _ (g2.trans (.one _ _))
structure Hold (a b : Store) : Prop where
  len : a.length ≤ b.length
  get : ∀ i, i < a.length → b[i]? = a[i]?
theorem Hold.refl (a : Store) : Hold a a := ⟨Nat.le_refl _, fun _ _ => rfl⟩
theorem Hold.trans {a b c : Store} (h : Hold a b) (k : Hold b c) : Hold a c := ⟨Nat.le_trans h.len k.len, fun i hi => by rw [k.get i (Nat.lt_of_lt_of_le hi h.len), h.get i hi]⟩
theorem Hold.grown {a b : Store} (g : Grown a b) : Hold a b := by
  obtain ⟨x, rfl⟩ := g
  exact ⟨by simp, fun i h => List.getElem?_append_left h⟩
theorem Hold.set {a b : Store} {r : Nat} {o : Ob} (h : Hold a b) (hr : a.length ≤ r) : Hold a (b.set r o) := ⟨by rw [List.length_set]; exact h.len, fun i hi => by rw [List.getElem?_set_ne (by omega)]; exact h.get i hi⟩
theorem Hold.stL {a b : Store} {r : Nat} {xs : List A} (h : Hold a b) (e : ML.stL a r = some xs) : ML.stL b r = some xs := stL_of (by rw [h.get r (stL_lt e)]; exact stL_eq e)
theorem Hold.fr {a b : Store} (t : Nat) (h : Hold a b) : FrT t a b := ⟨h.len, fun i hi _ => h.get i hi⟩
theorem Hold.grow {a b c : Store} (h : Hold a b) (g : Grown b c) : Hold a c := h.trans (.grown g)
theorem Tab.hold {f : List Nd} {t : Nat} {a b : Store} (h : Tab f t a) (k : Hold a b) : Tab f t b := h.fr fun i hi _ _ => k.get i hi
theorem addN_okt {f : List Nd} {n : Nd} (h : ∀ m ∈ f, Okt m) (hn : Okt n) : ∀ m ∈ addN f n, Okt m := by
  unfold addN
  split
  · exact h
  · intro m hm
    rcases List.mem_append.mp hm with z | z
    · exact h m z
    · simp at z
      subst z
      exact hn
noncomputable def numA (f : List Nd) (n : Nd) : A := .int (idx f n : Nat)
theorem number_of_wp {f : List Nd} {n : Nd} {t : Nat} {st : Store} {Q : A → Store → Prop} (hT : Tab f t st) (hn : Okt n) (hkid : ∀ c ∈ kids n, c ∈ f) (hl : f.length < 1000000)
    (k : ∀ st', FrT t st st' → Tab (addN f n) t st' → Q (numA (addN f n) n) st') : (m_NodeTable_number_of [.ref t, entA f n] st).wp Q := by
  simp only [m_NodeTable_number_of]
  generalize hM : @m_NodeTable_measure = M
  rw [wp_fn]
  refine ⟨rfl, ?_⟩
  simp only [List.map_cons, List.map_nil, List.cons_append, List.nil_append, List.replicate, Nat.reduceSub]
  have okf : ∀ m ∈ f, okN m := fun m hm => (hT.ok m hm).ok
  have hi := insA_of hT.i
  have hat := at_num hT.c okf hn.ok hkid
  have hfit := fit_num okf hn.ok (f := f) (n := n)
  have hkey := key_ent (f := f) hn.ok
  refine seq_cut (fun ρ st' => st' = st ∧ ρ = [some (.ref t), some (entA f n), some ((if n ∈ f then some (A.int (idx f n : Nat)) else none).getD .non)]) ?_ ?_
  · simp only [sp_set, wp_dget1, wp_fld, wp_var, List.getElem?_cons_succ, List.getElem?_cons_zero, Option.some.injEq, ex_eq, hi, tab_num, isDA_ref hT.d, true_and, ask_eq hT.d hkey hfit, hat, List.set_cons_succ, List.set_cons_zero]
  rintro ρ st1 ⟨e1, rfl⟩
  subst e1
  by_cases hmem : n ∈ f
  · have ea : addN f n = f := by unfold addN; rw [if_pos hmem]
    rw [ea] at k
    simp only [if_pos hmem, Option.getD_some, sp_seq, sp_ifs, wp_gb, wp_bin, wp_var, wp_c, List.getElem?_cons_succ, List.getElem?_cons_zero, Option.some.injEq, ex_eq, w_isN, isNon_int, w_getB, Bool.false_eq_true, if_false, sp_next, sp_ret]
    exact k st1 (.refl _ _) hT
  · have ea : addN f n = f ++ [n] := by unfold addN; rw [if_neg hmem]
    rw [ea] at k
    have hel := List.length_map (f := entA f) (as := f)
    have hlt1 := stD_lt hT.d
    have hlt2 := stL_lt hT.e
    have hlt3 := stL_lt hT.k
    have hlt4 := stL_lt hT.z
    have hsz : (numF f).length < sizeLine := by
      unfold numF
      rw [numG_len, size_eq]
      omega
    generalize hs2 : st1.set (t + 1) (.oth (.dct (putD (numF f) (entK f n) (.int (f.length : Nat))))) = s2
    have hl2 : s2.length = st1.length := by rw [← hs2, List.length_set]
    have he2 : stL s2 (t + 2) = some (f.map (entA f)) := by rw [← hs2, stL_set_ne' (by omega)]; exact hT.e
    have hk2 : stL s2 (t + 3) = some (f.map codA) := by rw [← hs2, stL_set_ne' (by omega)]; exact hT.k
    have hz2 : stL s2 (t + 4) = some (f.map szA) := by rw [← hs2, stL_set_ne' (by omega)]; exact hT.z
    have hi2 : s2[t]? = some (.oth (.ins "NodeTable" (tabFs t))) := by rw [← hs2, List.getElem?_set_ne (by omega)]; exact hT.i
    generalize hs3 : s2.set (t + 2) (.lst (f.map (entA f) ++ [entA f n])) = s3
    have hi3 : s3[t]? = some (.oth (.ins "NodeTable" (tabFs t))) := by rw [← hs3, List.getElem?_set_ne (by omega)]; exact hi2
    have hk3 : stL s3 (t + 3) = some (f.map codA) := by rw [← hs3, stL_set_ne' (by omega)]; exact hk2
    have hz3 : stL s3 (t + 4) = some (f.map szA) := by rw [← hs3, stL_set_ne' (by omega)]; exact hz2
    have fr3 : FrT t st1 s3 := by
      rw [← hs3, ← hs2]
      exact (FrT.set (by omega) (by omega)).trans (FrT.set (by omega) (by omega))
    have hput : ∀ v, v = A.int (f.length : Nat) → putS (.ref (t + 1)) (entA f n) v st1 = some s2 := fun v e => by
      subst e
      rw [put_eq hT.d hkey hfit hsz, hs2]
    simp only [if_neg hmem, Option.getD_none, sp_seq, sp_ifs, wp_gb, wp_bin, wp_var, wp_c, List.getElem?_cons_succ, List.getElem?_cons_zero, Option.some.injEq, ex_eq, w_isN, isNon_non, w_getB, if_true, sp_set, wp_ca, wp_cons, wp_nil, wp_fld, hi, tab_ent, w_lenL, hT.e, List.length_map, List.set_cons_succ, List.set_cons_zero, sp_dput, tab_num, hput _ rfl, sp_expr, wp_bm, insA_of hi2, isL_ref, he2, Option.isSome_some, true_and, w_append]
    refine ⟨by rw [size_eq]; omega, ?_⟩
    rw [hs3]
    simp only [wp_meth, wp_var, wp_cons, wp_nil, List.getElem?_cons_succ, List.getElem?_cons_zero, Option.some.injEq, ex_eq, insA_of hi3, tab_m1, true_and, sp_ret]
    subst hM
    refine measure_wp (insA_of hi3) hk3 hz3 hT.ok hn hkid (by omega) fun st4 f4 g1 g2 c4 z4 => ?_
    have fr : FrT t st1 st4 := fr3.trans f4
    have ei : numA (f ++ [n]) n = .int (f.length : Nat) := by unfold numA; rw [idx_new hmem]
    rw [ei] at k
    refine k st4 fr ⟨?_, ?_, ?_, ?_, ?_, ?_, ?_, ?_⟩
    · have := addN_clo hT.c hkid
      rwa [ea] at this
    · have := addN_ord hT.o hT.c hkid
      rwa [ea] at this
    · have := addN_okt hT.ok hn
      rwa [ea] at this
    · rw [fr.get t (by omega) (by omega)]
      exact hT.i
    · rw [num_app hT.c hmem hkid]
      have : st4[t + 1]? = some (.oth (.dct (putD (numF f) (entK f n) (.int (f.length : Nat))))) := by
        rw [g1, ← hs3, List.getElem?_set_ne (by omega), ← hs2, List.getElem?_set_self hlt1]
      have hnone : atD (numF f) (entK f n) = none := by rw [hat, if_neg hmem]
      unfold ML.stD
      rw [this]
      unfold putD
      rw [hnone]
      rfl
    · rw [ents_app hT.c hkid]
      refine stL_of ?_
      rw [g2, ← hs3, List.getElem?_set_self (by omega)]
    · rw [List.map_append]
      exact c4
    · rw [List.map_append]
      exact z4
noncomputable def addL (f : List Nd) (ns : List Nd) : List Nd := ns.foldl addN f
theorem addL_snoc (f ns : List Nd) (n : Nd) : addL f (ns ++ [n]) = addN (addL f ns) n := by simp [addL]
theorem addL_pre : ∀ (ns : List Nd) (f : List Nd), ∃ g, addL f ns = f ++ g ∧ g.length ≤ ns.length
  | [], f => ⟨[], by simp [addL], by simp⟩
  | n :: ns, f => by
    obtain ⟨g, e1, _, e2⟩ := addN_pre f n
    obtain ⟨h, e3, e4⟩ := addL_pre ns (addN f n)
    refine ⟨g ++ h, ?_, by simp; omega⟩
    show addL (addN f n) ns = _
    rw [e3, e1, List.append_assoc]
theorem addL_mem : ∀ {ns : List Nd} {f : List Nd} {n : Nd}, n ∈ ns → n ∈ addL f ns
  | m :: ns, f, n, h => by
    show n ∈ addL (addN f m) ns
    rcases List.mem_cons.mp h with rfl | h
    · obtain ⟨_, _, e2, _⟩ := addN_pre f n
      obtain ⟨g, e, _⟩ := addL_pre ns (addN f n)
      rw [e]
      exact List.mem_append_left _ e2
    · exact addL_mem h
theorem addL_old {ns f : List Nd} {n : Nd} (h : n ∈ f) : n ∈ addL f ns := by
  obtain ⟨g, e, _⟩ := addL_pre ns f
  rw [e]
  exact List.mem_append_left _ h
theorem addL_sub : ∀ {ns f : List Nd} {n : Nd}, n ∈ addL f ns → n ∈ f ∨ n ∈ ns
  | [], f, n, h => .inl h
  | m :: ns, f, n, h => by
    have h : n ∈ addL (addN f m) ns := h
    rcases addL_sub h with h | h
    · unfold addN at h
      split at h
      · exact .inl h
      · rcases List.mem_append.mp h with h | h
        · exact .inl h
        · simp at h
          exact .inr (by simp [h])
    · exact .inr (by simp [h])
theorem num_stay {f ns : List Nd} {n : Nd} (h : n ∈ f) : numA (addL f ns) n = numA f n := by
  obtain ⟨g, e, _⟩ := addL_pre ns f
  rw [e]
  unfold numA
  rw [idx_app h]
theorem num_stay1 {f : List Nd} {n m : Nd} (h : n ∈ f) : numA (addN f m) n = numA f n := num_stay (ns := [m]) h
theorem row_grow {f ns : List Nd} {i : Nat} {n : Nd} (h : ns[i]? = some n) : (ns.take i).map (numA (addL f (ns.take i))) ++ [numA (addN (addL f (ns.take i)) n) n] = (ns.take (i + 1)).map (numA (addL f (ns.take (i + 1)))) := by
  rw [List.take_add_one, h]
  simp only [Option.toList_some, addL_snoc, List.map_append, List.map_cons, List.map_nil]
  congr 1
  exact List.map_congr_left fun m hm => (num_stay1 (addL_mem hm)).symm
theorem addL_take_len {f ns : List Nd} {i : Nat} : (addL f (ns.take i)).length ≤ f.length + ns.length := by
  obtain ⟨g, e, h⟩ := addL_pre (ns.take i) f
  rw [e, List.length_append]
  have : (ns.take i).length ≤ ns.length := by rw [List.length_take]; omega
  omega
theorem leaf_row_wp {f : List Nd} {xs : List A} {t : Nat} {st : Store} {Q : A → Store → Prop} (hT : Tab f t st) (hx : ∀ x ∈ xs, El x) (hl : f.length + xs.length ≤ 900000)
    (k : ∀ st', FrT t st st' → Tab (addL f (xs.map .leaf)) t st' → Q (.ref st'.length) (st' ++ [.lst ((xs.map Nd.leaf).map (numA (addL f (xs.map .leaf))))])) : (m_leaf_row [.ref t, .tup xs] st).wp Q := by
  simp only [m_leaf_row]
  generalize hM : @m_NodeTable_number_of = M
  rw [wp_fn]
  refine ⟨rfl, ?_⟩
  simp only [List.map_cons, List.map_nil, List.cons_append, List.nil_append, List.replicate, Nat.reduceSub, sp_ret, wp_lc, wp_src, wp_var, List.getElem?_cons_succ, List.getElem?_cons_zero, Option.some.injEq, ex_eq, w_srcT, wipeA_cons, wipeA_nil, List.set_cons_succ, List.set_cons_zero]
  refine lc_vals (fun i st' acc => FrT t st st' ∧ Tab (addL f ((xs.map .leaf).take i)) t st' ∧ acc = ((xs.map Nd.leaf).take i).map (numA (addL f ((xs.map .leaf).take i)))) ⟨.refl _ _, by simpa [addL] using hT, by simp⟩ ?_ ?_
  · rintro i x st' acc hx' ⟨f', T', rfl⟩
    refine ⟨_, rfl, ?_⟩
    have hxe := hx x (List.mem_of_getElem? hx')
    have hi := (List.getElem?_eq_some_iff.mp hx').1
    have hn : (xs.map Nd.leaf)[i]? = some (.leaf x) := by rw [List.getElem?_map, hx']; rfl
    have hll := addL_take_len (f := f) (ns := xs.map Nd.leaf) (i := i)
    rw [List.length_map] at hll
    generalize hns : xs.map Nd.leaf = ns at *
    have hnl : ns.length = xs.length := by rw [← hns, List.length_map]
    simp only [wp_yes, if_true, wp_meth, wp_cons, wp_nil, wp_var, wp_tup, wp_c, List.set_cons_succ, List.set_cons_zero, List.getElem?_cons_succ, List.getElem?_cons_zero, Option.some.injEq, ex_eq, insA_of T'.i, tab_m2, true_and]
    refine ⟨by rw [size_eq]; simp, ?_⟩
    have ee : A.tup [.str "leaf", x] = entA (addL f (ns.take i)) (.leaf x) := rfl
    rw [ee]
    subst hM
    refine number_of_wp T' ⟨by simpa only [okN] using hxe, by simp only [dpN]; omega, by simp only [szN]; omega⟩ (by simp [kids]) (by omega) fun st2 f2 T2 => ?_
    refine ⟨by rw [size_eq, List.length_map, List.length_take]; omega, f'.trans f2, ?_, row_grow hn⟩
    rw [List.take_add_one, hn]
    simpa [addL] using T2
  · rintro st' acc ⟨f', T', rfl⟩
    have e : (xs.map Nd.leaf).take xs.length = xs.map Nd.leaf := List.take_of_length_le (by simp)
    rw [e] at T' ⊢
    exact k st' f' T'
noncomputable def grpT (f : List Nd) (g : Gp) : A := .tup [numA f g.1, .int (g.2 : Nat)]
def GpIT (f : List Nd) (gs : List Gp) (q : Nat) (st0 : Store) (r : Nat) (ρ : ML.Env) (st : Store) : Prop := ∃ (j : Nat) (v3 : Option A), j ≤ gs.length ∧ stL st r = some ((gs.take j).map (grpT f)) ∧ Hold st0 st ∧ ρ = [some (.ref q), some (.ref r), some (.int (posG gs j : Nat)), v3]
def GpJT (f : List Nd) (gs : List Gp) (q : Nat) (st0 : Store) (r j : Nat) (g : Gp) (ρ : ML.Env) (st : Store) : Prop := ∃ t : Nat, 1 ≤ t ∧ t ≤ g.2 ∧ stL st r = some ((gs.take j).map (grpT f)) ∧ Hold st0 st ∧ ρ = [some (.ref q), some (.ref r), some (.int (posG gs j : Nat)), some (.int ((posG gs j + t : Nat) : Int))]
theorem row_ixT {f xs : List Nd} {i : Nat} {c : Nd} {z : Int} (h : xs[i]? = some c) (e : z = (i : Nat)) : atI (xs.map (numA f)) z = some (numA f c) := by
  subst e
  rw [atI_nn (by omega), Int.toNat_natCast, List.getElem?_map, h]
  rfl
theorem groups_wpT {f : List Nd} {gs : List Gp} {q : Nat} {st : Store} {Q : A → Store → Prop} (h : ∀ g ∈ gs, g.1 ∈ f ∧ 1 ≤ g.2) (ap : ∀ (i : Nat) a b, gs[i]? = some a → gs[i + 1]? = some b → a.1 ≠ b.1) (hl : (expG gs).length ≤ 1000000) (hg : gs.length ≤ 100000) (hq : stL st q = some ((expG gs).map (numA f))) (k : ∀ r st', Hold st st' → st.length ≤ r → stL st' r = some (gs.map (grpT f)) → Q (.ref r) st') : (m_groups_of [.ref q] st).wp Q := by
  simp only [m_groups_of]
  rw [wp_fn]
  refine ⟨rfl, ?_⟩
  simp only [List.map_cons, List.map_nil, List.cons_append, List.nil_append, List.replicate]
  generalize hF : @mWhile = F
  refine seq_cut (fun ρ st' => st' = st ++ [.lst []] ∧ ρ = [some (.ref q), some (.ref st.length), none, none]) ?_ ?_
  · simp [sizeLine]
  rintro ρ st1 ⟨e1, rfl⟩
  refine seq_cut (GpIT f gs q st st.length) ?_ ?_
  · simp
    exact ⟨0, none, by omega, by rw [e1]; simp, by rw [e1]; exact .grown (.one _ _), by simp [posG, expG_nil]⟩
  intro ρ st2 h2
  have key : (F (mGB (mBin ltA (mVar 2) (mCa lenA (mCons (mVar 0) mNil)))) (mSeq (mSet 3 (mBin addA (mVar 2) (mC (.int 1))))
    (mSeq (F (mAnd (mGB (mBin ltA (mVar 3) (mCa lenA (mCons (mVar 0) mNil)))) (mGB (mBin eqA (mBin ixA (mVar 0) (mVar 3)) (mBin ixA (mVar 0) (mVar 2))))) (mAug 3 iaddA (mC (.int 1))))
    (mSeq (mExpr (mBm appendA (mVar 1) (mCons (mTup (mCons (mBin ixA (mVar 0) (mVar 2)) (mCons (mBin subA (mVar 3) (mVar 2)) mNil))) mNil)))
    (mSet 2 (mVar 3))))) ρ st2).wp (fun ρ st' => ∃ v2 v3 : Option A, stL st' st.length = some (gs.map (grpT f)) ∧ Hold st st' ∧ ρ = [some (.ref q), some (.ref st.length), v2, v3]) NoS NoS (fun _ _ => False) := by
    subst hF
    refine while_wp (GpIT f gs q st st.length) (muG (expG gs).length 2) ?_ h2
    rintro ρ st3 ⟨j, v3, hj, hr, ho, rfl⟩
    have hq3 := ho.stL hq
    simp only [wp_gb, wp_bin, wp_var, wp_ca, wp_cons, wp_nil, List.getElem?_cons_succ, List.getElem?_cons_zero, Option.some.injEq, ex_eq, w_lenL, hq3, List.length_map, w_lt, w_getB, decide_eq_true_eq]
    by_cases hjl : j < gs.length
    · have hgj : gs[j]? = some gs[j] := List.getElem?_eq_getElem hjl
      generalize gs[j] = g at hgj
      have hgm := h g (List.mem_of_getElem? hgj)
      have hps := posG_succ hgj
      have hple := posG_le gs (j + 1)
      rw [if_pos (by omega)]
      refine seq_cut (GpJT f gs q st st.length j g) ?_ ?_
      · simp
        exact ⟨1, by omega, hgm.2, hr, ho, by simp⟩
      intro ρ st4 h4
      refine seq_cut (fun ρ st' => stL st' st.length = some ((gs.take j).map (grpT f)) ∧ Hold st st' ∧ ρ = [some (.ref q), some (.ref st.length), some (.int (posG gs j : Nat)), some (.int ((posG gs j + g.2 : Nat) : Int))]) ?_ ?_
      · refine while_wp (GpJT f gs q st st.length j g) (muG (expG gs).length 3) ?_ h4
        rintro ρ st5 ⟨t, t1, t2, hr5, ho5, rfl⟩
        have hq5 := ho5.stL hq
        simp only [wp_and, wp_gb, wp_bin, wp_var, wp_ca, wp_cons, wp_nil, List.getElem?_cons_succ, List.getElem?_cons_zero, Option.some.injEq, ex_eq, w_lenL, hq5, List.length_map, w_lt, w_getB, decide_eq_true_eq]
        have h0 := row_ixT (f := f) (z := ((posG gs j : Nat) : Int)) (expG_get (t := 0) hgj (by omega)) (by simp)
        by_cases hin : ((posG gs j + t : Nat) : Int) < ((expG gs).length : Int)
        · rw [if_pos hin]
          have hin' : posG gs j + t < (expG gs).length := by omega
          by_cases htg : t < g.2
          · have h1 := row_ixT (f := f) (z := ((posG gs j + t : Nat) : Int)) (expG_get hgj htg) rfl
            simp only [w_ixL, hq5, h0, h1, Option.some.injEq, ex_eq]
            simp only [numA, w_eq, w_getB, decide_true, if_true]
            simp [iaddA, R.wp]
            refine ⟨⟨t + 1, by omega, by omega, hr5, ho5, by simp; omega⟩, ?_⟩
            simp only [muG, List.getElem?_cons_succ, List.getElem?_cons_zero]
            omega
          · have et : t = g.2 := by omega
            subst et
            have hj1 : j + 1 < gs.length := by
              rcases Nat.lt_or_ge (j + 1) gs.length with q | q
              · exact q
              · have e : posG gs (j + 1) = (expG gs).length := by
                  rw [← posG_all]
                  congr 1
                  omega
                omega
            have hg1 : gs[j + 1]? = some gs[j + 1] := List.getElem?_eq_getElem hj1
            generalize gs[j + 1] = g' at hg1
            have hgm' := h g' (List.mem_of_getElem? hg1)
            have h1 := row_ixT (f := f) (z := ((posG gs j + g.2 : Nat) : Int)) (expG_get (t := 0) hg1 (by omega)) (by simp [hps])
            have hne := ap j g g' hgj hg1
            simp only [w_ixL, hq5, h0, h1, Option.some.injEq, ex_eq]
            have hf : ¬ ((idx f g'.1 : Nat) : Int) = ((idx f g.1 : Nat) : Int) := fun z => hne (idx_inj hgm'.1 hgm.1 (Int.ofNat_inj.mp z)).symm
            simp only [numA, w_eq, w_getB, hf, decide_false, Bool.false_eq_true, if_false]
            exact ⟨hr5, ho5, trivial⟩
        · rw [if_neg hin]
          have et : t = g.2 := by omega
          subst et
          simp only [Bool.false_eq_true, if_false]
          exact ⟨hr5, ho5, trivial⟩
      rintro ρ st5 ⟨hr5, ho5, rfl⟩
      have hq5 := ho5.stL hq
      have h0 := row_ixT (f := f) (z := ((posG gs j : Nat) : Int)) (expG_get (t := 0) hgj (by omega)) (by simp)
      have hsz : j < 16777216 := by omega
      simp only [sp_seq, sp_expr, wp_bm, wp_var, wp_cons, wp_nil, wp_tup, wp_bin, sp_set, List.getElem?_cons_succ, List.getElem?_cons_zero, Option.some.injEq, ex_eq, isL_ref, hr5, Option.isSome_some, w_ixL, hq5, h0, w_sub, w_append, List.length_map, List.length_take, true_and, List.set_cons_succ, List.set_cons_zero]
      refine ⟨by simp [sizeLine], by simp [sizeLine]; omega, ⟨j + 1, some (.int ((posG gs j + g.2 : Nat) : Int)), by omega, ?_, ho5.set (Nat.le_refl _), ?_⟩, ?_⟩
      · rw [stL_set_self hr5, List.take_add_one, hgj]
        simp [grpT]
        omega
      · rw [hps]
      · simp only [muG, List.getElem?_cons_succ, List.getElem?_cons_zero]
        omega
    · have e : j = gs.length := by omega
      subst e
      rw [posG_all, if_neg (by omega)]
      rw [List.take_of_length_le (Nat.le_refl _)] at hr
      exact ⟨_, _, hr, ho, rfl⟩
  rw [sp_seq]
  refine key.imp ?_ (fun _ _ z => z.elim) (fun _ _ z => z.elim) (fun _ _ z => z.elim)
  rintro ρ st5 ⟨v2, v3, h5, ho, rfl⟩
  simp
  exact k _ _ ho (Nat.le_refl _) h5
theorem item_row_wp {f : List Nd} {gs : List Gp} {q t : Nat} {st : Store} {Q : A → Store → Prop} (hT : Tab f t st) (h : ∀ g ∈ gs, g.1 ∈ f ∧ 1 ≤ g.2 ∧ Okt (itmN g)) (ap : ∀ (i : Nat) a b, gs[i]? = some a → gs[i + 1]? = some b → a.1 ≠ b.1) (hl : (expG gs).length ≤ 1000000) (hg : gs.length ≤ 100000) (hfl : f.length + gs.length ≤ 900000) (hq : stL st q = some ((expG gs).map (numA f))) (hqt : t + 4 < q)
    (k : ∀ st', FrT t st st' → Tab (addL f (gs.map itmN)) t st' → Q (.tup ((gs.map itmN).map (numA (addL f (gs.map itmN))))) st') : (m_item_row [.ref t, .ref q] st).wp Q := by
  simp only [m_item_row]
  generalize hM : @m_NodeTable_item_number = M
  rw [wp_fn]
  refine ⟨rfl, ?_⟩
  simp only [List.map_cons, List.map_nil, List.cons_append, List.nil_append, List.replicate, Nat.reduceSub, sp_ret, wp_ca, wp_lc, wp_src, wp_call, wp_cons, wp_nil, wp_var, List.getElem?_cons_succ, List.getElem?_cons_zero, Option.some.injEq, ex_eq]
  refine groups_wpT (fun g hg => ⟨(h g hg).1, (h g hg).2.1⟩) ap hl hg hq fun r st1 ho hr1 h1 => ?_
  rw [w_srcL, h1]
  refine ⟨rfl, ?_⟩
  have hlt := stL_lt hq
  have T1 := hT.hold ho
  generalize hns : gs.map itmN = ns at *
  have hnl : ns.length = gs.length := by rw [← hns, List.length_map]
  simp only [wipeA_cons, wipeA_nil, List.set_cons_succ, List.set_cons_zero]
  refine lc_lst (fun i st' acc => FrT t st1 st' ∧ Tab (addL f (ns.take i)) t st' ∧ acc = (ns.take i).map (numA (addL f (ns.take i)))) h1 ⟨.refl _ _, by simpa [addL] using T1, by simp⟩ ?_ ?_ ?_
  · rintro i st' acc ⟨f', T', rfl⟩
    exact f'.stL (by omega) h1
  · rintro i x st' acc hx ⟨f', T', rfl⟩
    rw [List.getElem?_map] at hx
    obtain ⟨g, hg', rfl⟩ := Option.map_eq_some_iff.mp hx
    refine ⟨_, rfl, ?_⟩
    have hi := (List.getElem?_eq_some_iff.mp hg').1
    obtain ⟨m1, m2, m3⟩ := h g (List.mem_of_getElem? hg')
    have hn : ns[i]? = some (itmN g) := by rw [← hns, List.getElem?_map, hg']; rfl
    have hll := addL_take_len (f := f) (ns := ns) (i := i)
    have hrow := row_grow (f := f) hn
    have en : addL f (ns.take (i + 1)) = addN (addL f (ns.take i)) (itmN g) := by
      rw [List.take_add_one, hn]
      simp [addL]
    have mf : g.1 ∈ addL f (ns.take i) := addL_old m1
    have es : numA f g.1 = numA (addL f (ns.take i)) g.1 := (num_stay m1).symm
    have hsz : (List.map (numA (addL f (ns.take i))) (ns.take i)).length < sizeLine := by rw [size_eq, List.length_map, List.length_take]; omega
    generalize hF : addL f (ns.take i) = F at *
    subst hM
    simp only [grpT, setsA, wp_yes, if_true, wp_meth, wp_cons, wp_nil, wp_var, List.set_cons_succ, List.set_cons_zero, List.getElem?_cons_succ, List.getElem?_cons_zero, Option.some.injEq, ex_eq, insA_of T'.i, tab_m3, true_and, m_NodeTable_item_number]
    generalize hM2 : @m_NodeTable_number_of = M2
    rw [wp_fn]
    refine ⟨rfl, ?_⟩
    simp only [List.map_cons, List.map_nil, List.cons_append, List.nil_append, List.replicate, Nat.reduceSub, sp_seq, sp_ifs, wp_gb, wp_bin, wp_var, wp_c, List.getElem?_cons_succ, List.getElem?_cons_zero, Option.some.injEq, ex_eq, w_eq, w_getB, decide_eq_true_eq, sp_ret, sp_next]
    by_cases c : (g.2 : Int) = 1
    · have c' : g.2 = 1 := by omega
      have ei : itmN g = g.1 := by unfold itmN; rw [if_pos c']
      rw [if_pos c]
      rw [ei] at hrow en
      have ea : addN F g.1 = F := by unfold addN; rw [if_pos mf]
      rw [ea] at hrow en
      refine ⟨hsz, f', ?_, ?_⟩
      · rw [en]
        exact T'
      · rw [← hrow, es]
    · have c' : ¬ g.2 = 1 := by omega
      have ei : itmN g = .run g.1 g.2 := by unfold itmN; rw [if_neg c']
      rw [if_neg c]
      rw [ei] at hrow en m3
      simp only [wp_meth, wp_cons, wp_nil, wp_var, wp_tup, wp_c, List.getElem?_cons_succ, List.getElem?_cons_zero, Option.some.injEq, ex_eq, insA_of T'.i, tab_m2, true_and]
      refine ⟨by rw [size_eq]; simp, ?_⟩
      have ee : A.tup [.str "run", numA f g.1, .int (g.2 : Nat)] = entA F (.run g.1 g.2) := by rw [es]; rfl
      rw [ee]
      subst hM2
      refine number_of_wp T' m3 (by simpa [kids] using mf) (by omega) fun st2 f2 T2 => ?_
      refine ⟨hsz, f'.trans f2, ?_, ?_⟩
      · rw [en]
        exact T2
      · rw [← hrow]
  · rintro st' acc ⟨f', T', rfl⟩
    have e : ns.take (gs.map (grpT f)).length = ns := List.take_of_length_le (by simp [hnl])
    rw [e] at T' ⊢
    rw [w_tupL, stL_new]
    refine ⟨_, rfl, ?_⟩
    exact k _ ((ho.fr t).trans (f'.trans (.grown (.one _ _)))) (T'.grown (.one _ _))
def RoG (ns : List Nat) (st0 : Store) (q : Nat) (i : Nat) (ρ : ML.Env) (st : Store) : Prop := Hold st0 st ∧ st0.length ≤ q ∧ ∃ v2 v3, ρ = [some (.tup (natsA ns)), some (.ref q), v2, v3, none] ∧ stL st q = some (natsA ((roundL ns).take (i + 1)))
theorem one_round_wpG {ns : List Nat} (ha : Apart ns) (hl : ns.length ≤ 100000) {st : Store} {Q : A → Store → Prop} (k : ∀ st', Hold st st' → Q (.tup (natsA (roundL ns))) st') : (m_one_round [.tup (natsA ns)] st).wp Q := by
  simp only [m_one_round]
  simp
  refine lc_vals (fun i st' acc => st' = st ∧ acc = natsA ((ns.map (· % 2)).take i)) ⟨rfl, rfl⟩ ?_ ?_
  · rintro i x st' acc hx ⟨rfl, rfl⟩
    refine ⟨_, rfl, ?_⟩
    obtain ⟨hi, rfl⟩ := natsA_some hx
    simp at hi
    have e : ∀ n : Nat, Builtin.bitAnd (n : Int) 1 = ((n % 2 : Nat) : Int) := fun n => by
      have := Bits.bit_at (x := (n : Int)) 0
      simpa [Int.fdiv_eq_ediv_of_nonneg] using this
    have hi0 : i = 0 := by omega
    subst hi0
    simp only [wp_yes, if_true, wp_bin, wp_c, w_and, e]
    simp
    cases ns with
    | nil => simp at hi
    | cons x r => simp [e, natsA]
  · rintro st' acc ⟨rfl, rfl⟩
    have e0 : natsA ((ns.map (· % 2)).take (natsA (ns.take 1)).length) = natsA ((roundL ns).take 1) := by
      rw [round_take1]
      cases ns <;> simp
    rw [e0]
    try simp
    refine for_zipv (RoG ns st' st'.length) (by simp) ⟨.grown (.one _ _), Nat.le_refl _, none, none, rfl, stL_new⟩ ?_ ?_ _ (by simp [Src.size])
    · rintro i x y ρ st'' hx hy ⟨kp, kq, v2, v3, rfl, h⟩
      obtain ⟨h1, rfl⟩ := natsA_some hx
      obtain ⟨h2, rfl⟩ := natsA_some hy
      have hi : i + 1 < ns.length := by
        simp at h2
        omega
      have et : ns.tail.getD i 0 = ns.getD (i + 1) 0 := by
        cases ns <;> simp
      rw [et]
      refine ⟨_, rfl, ?_⟩
      simp only [setsA, sp_expr, wp_bm, wp_var, wp_cons, wp_call, wp_nil]
      simp [h, setsA, -List.getD_eq_getElem?_getD]
      refine mixN_wp (ha i hi) ?_
      have hr := round_len ns
      simp [h, -List.getD_eq_getElem?_getD]
      refine ⟨by omega, kp.set kq, kq, _, _, rfl, ?_⟩
      rw [stL_set_self h, round_take hi]
    · rintro ρ st'' ⟨kp, kq, v2, v3, rfl, h⟩
      have e1 : (roundL ns).take ((natsA ns.tail).length + 1) = roundL ns := by
        refine List.take_of_length_le ?_
        rw [round_len]
        simp
        omega
      rw [e1] at h
      simp [h]
      exact k _ kp
def CoG (ns : List Nat) (st0 : Store) (i : Nat) (ρ : ML.Env) (st : Store) : Prop := ∃ v : Option A, Hold st0 st ∧ ρ = [some (.tup (natsA ns)), some (.tup (natsA (rnd ns i))), v]
theorem colors_of_coins_wpG {ns : List Nat} {st : Store} {Q : A → Store → Prop} (ha : Apart ns) (hl : ns.length ≤ 10000) (k : ∀ st', Hold st st' → Q (.tup (natsA (rnd ns 4))) st') : (m_colors_of_coins [.tup (natsA ns)] st).wp Q := by
  simp only [m_colors_of_coins]
  rw [wp_fn]
  refine ⟨rfl, ?_⟩
  simp only [List.map_cons, List.map_nil, List.cons_append, List.nil_append, List.replicate]
  refine seq_cut (CoG ns st 0) ?_ ?_
  · simp
    exact ⟨none, .refl _, rfl⟩
  intro ρ st1 h1
  generalize hF : @mFor = F
  refine seq_cut (CoG ns st 4) ?_ ?_
  · subst hF
    simp only [sp_for, wp_rng, wp_cons, wp_nil, wp_c, w_rng1]
    refine ⟨by decide, ?_⟩
    refine for_rng (n := 4) (CoG ns st) h1 ?_ (fun _ _ h => h)
    rintro i ρ st2 hi ⟨v, hk, rfl⟩
    refine ⟨_, rfl, ?_⟩
    simp
    have hrl := rnd_len ns i
    refine one_round_wpG (rnd_apart ha i) (by omega) fun st3 g => ?_
    exact ⟨_, hk.trans g, rfl⟩
  subst hF
  rintro ρ st2 ⟨v, hk, rfl⟩
  simp
  exact k st2 hk
theorem color_row_wp {f xs : List Nd} {t : Nat} {st : Store} {Q : A → Store → Prop} (hT : Tab f t st) (hR : Row xs) (hm : ∀ n ∈ xs, n ∈ f) (hl : xs.length ≤ 10000) (k : ∀ st', Hold st st' → Q (.tup (natsA (colN xs))) st') : (m_color_row [.ref t, .tup (xs.map (numA f))] st).wp Q := by
  simp only [m_color_row]
  generalize hM : @m_coins_of_codes = M
  generalize hM2 : @m_colors_of_coins = M2
  rw [wp_fn]
  refine ⟨rfl, ?_⟩
  simp only [List.map_cons, List.map_nil, List.cons_append, List.nil_append, List.replicate, Nat.reduceSub, sp_ret, wp_lc, wp_src, wp_call, wp_cons, wp_nil, wp_var, List.getElem?_cons_succ, List.getElem?_cons_zero, Option.some.injEq, ex_eq, w_srcT, wipeA_cons, wipeA_nil, List.set_cons_succ, List.set_cons_zero]
  refine lc_vals (fun i st' acc => st' = st ∧ acc = (xs.take i).map codA) ⟨rfl, by simp⟩ ?_ ?_
  · rintro i x st' acc hx ⟨rfl, rfl⟩
    refine ⟨_, rfl, ?_⟩
    rw [List.getElem?_map, Option.map_eq_some_iff] at hx
    obtain ⟨c, hc, rfl⟩ := hx
    have hi := (List.getElem?_eq_some_iff.mp hc).1
    have hcm := hm c (List.mem_of_getElem? hc)
    have hat := at_idx (g := codA) hcm
    simp only [wp_yes, if_true, wp_bin, wp_fld, wp_var, List.set_cons_succ, List.set_cons_zero, List.getElem?_cons_succ, List.getElem?_cons_zero, Option.some.injEq, ex_eq, insA_of hT.i, tab_cod, numA, w_ixL, hT.k, hat]
    refine ⟨by rw [size_eq, List.length_map, List.length_take]; omega, trivial, ?_⟩
    rw [List.take_add_one, hc]
    simp
  · rintro st' acc ⟨rfl, rfl⟩
    rw [List.length_map, List.take_length]
    subst hM
    refine codes_wp hR hl (by rw [stL_new]; rfl) fun st2 g2 => ?_
    rw [coinsT_eq hR]
    subst hM2
    refine colors_of_coins_wpG (coinsT_apart hR) (by rw [coinsT_len]; exact hl) fun st3 h3 => ?_
    exact k st3 ((Hold.grown ((Grown.one _ _).trans g2)).trans h3)
end Law
namespace Law
open PySem L2 ML
noncomputable def m_grow : MF := mFn 8 2 (mSeq (mSet 2 (mLst mNil))
    (mSeq (mSet 3 (mCall m_leaf_row (mCons (mVar 0) (mCons (mVar 1) mNil))))
    (mSeq (mWhile (mTru (mVar 3)) (mSeq (mSet 4 (mCall m_item_row (mCons (mVar 0) (mCons (mVar 3) mNil))))
    (mSeq (mSet 5 (mCall m_color_row (mCons (mVar 0) (mCons (mVar 4) mNil))))
    (mSeq (mSet 6 (mCall m_starts_of (mCons (mVar 5) mNil)))
    (mSeq (mExpr (mBm appendA (mVar 2) (mCons (mTup (mCons (mVar 3) (mCons (mVar 4) (mCons (mVar 5) (mCons (mVar 6) mNil))))) mNil)))
    (mSeq (mSet 3 (mLst mNil))
    (mIfS (mGB (mBin gtA (mCa lenA (mCons (mVar 4) mNil)) (mC (.int 1)))) (mSet 3 (mLc (mSrc (mCall m_cut (mCons (mVar 4) (mCons (mVar 6) mNil)))) (.one 7) [7] mYes (mMeth "NodeTable" "number_of" m_NodeTable_number_of (mVar 0) (mCons (mTup (mCons (mC (.str "block")) (mCons (mVar 7) mNil))) mNil)))) mNext)))))))
    (mRet (mVar 2)))))
noncomputable def m_add_tree : MF := mFn 3 2 (mSeq (mSet 2 (mCall m_grow (mCons (mVar 0) (mCons (mVar 1) mNil))))
    (mSeq (mIfS (mNot (mTru (mVar 2))) (mRet (mC .non)) mNext)
    (mRet (mBin ixA (mBin ixA (mBin ixA (mVar 2) (mUn negA (mC (.int 1)))) (mC (.int 1))) (mC (.int 0))))))
open Classical
noncomputable def grp : List Nd → List Gp
  | [] => []
  | n :: r => match grp r with
    | [] => [(n, 1)]
    | g :: gs => if g.1 = n then (n, g.2 + 1) :: gs else (n, 1) :: g :: gs
theorem grp_exp : ∀ ns : List Nd, expG (grp ns) = ns
  | [] => rfl
  | n :: r => by
    have ih := grp_exp r
    simp only [grp]
    cases e : grp r with
    | nil =>
      rw [e] at ih
      rw [expG_nil] at ih
      subst ih
      simp [expG]
    | cons g gs =>
      rw [e] at ih
      simp only
      split
      · rename_i h
        subst h
        simp only [expG, List.map_cons, List.flatten_cons] at ih ⊢
        rw [List.replicate_succ, List.cons_append, ih]
      · simp only [expG, List.map_cons, List.flatten_cons] at ih ⊢
        rw [← ih]
        simp
theorem grp_mem : ∀ {ns : List Nd} {g : Gp}, g ∈ grp ns → g.1 ∈ ns ∧ 1 ≤ g.2
  | [], g, h => by simp [grp] at h
  | n :: r, g, h => by
    simp only [grp] at h
    cases e : grp r with
    | nil =>
      rw [e] at h
      simp at h
      subst h
      exact ⟨by simp, by simp⟩
    | cons g0 gs =>
      rw [e] at h
      simp only at h
      have ih : ∀ g ∈ g0 :: gs, g.1 ∈ r ∧ 1 ≤ g.2 := fun g hg => grp_mem (by rw [e]; exact hg)
      split at h
      · rcases List.mem_cons.mp h with rfl | h
        · exact ⟨by simp, by simp⟩
        · have := ih g (by simp [h])
          exact ⟨by simp [this.1], this.2⟩
      · rcases List.mem_cons.mp h with rfl | h
        · exact ⟨by simp, by simp⟩
        · have := ih g h
          exact ⟨by simp [this.1], this.2⟩
theorem grp_ap : ∀ {ns : List Nd} (i : Nat) (a b : Gp), (grp ns)[i]? = some a → (grp ns)[i + 1]? = some b → a.1 ≠ b.1
  | [], i, a, b, h, _ => by simp [grp] at h
  | n :: r, i, a, b, h1, h2 => by
    have ih := @grp_ap r
    simp only [grp] at h1 h2
    cases e : grp r with
    | nil =>
      rw [e] at h2
      simp at h2
    | cons g0 gs =>
      rw [e] at h1 h2 ih
      simp only at h1 h2
      split at h1
      · rename_i c
        rw [if_pos c] at h2
        cases i with
        | zero =>
          simp only [List.getElem?_cons_zero, Option.some.injEq] at h1
          simp only [List.getElem?_cons_succ] at h2
          have := ih 0 g0 b (by simp) (by simpa using h2)
          rw [← h1]
          simp only
          rw [← c]
          exact this
        | succ i =>
          simp only [List.getElem?_cons_succ] at h1 h2
          exact ih (i + 1) a b (by simpa using h1) (by simpa using h2)
      · rename_i c
        rw [if_neg c] at h2
        cases i with
        | zero =>
          simp only [List.getElem?_cons_zero, Option.some.injEq] at h1
          simp only [List.getElem?_cons_succ, List.getElem?_cons_zero, Option.some.injEq] at h2
          rw [← h1, ← h2]
          exact fun z => c z.symm
        | succ i =>
          simp only [List.getElem?_cons_succ] at h1 h2
          exact ih i a b h1 h2
theorem grp_len : ∀ ns : List Nd, (grp ns).length ≤ ns.length
  | [] => by simp [grp]
  | n :: r => by
    have ih := grp_len r
    simp only [grp]
    cases e : grp r with
    | nil => simp
    | cons g gs =>
      rw [e] at ih
      simp only [List.length_cons] at ih
      simp only
      split <;> simp <;> omega
theorem grp_ne {ns : List Nd} (h : ns ≠ []) : grp ns ≠ [] := fun e => by
  have := grp_exp ns
  rw [e, expG_nil] at this
  exact h this.symm
theorem exp_len : ∀ gs : List Gp, (expG gs).length = (gs.map (·.2)).sum
  | [] => rfl
  | g :: gs => by
    have e : expG (g :: gs) = List.replicate g.2 g.1 ++ expG gs := by simp [expG]
    rw [e, List.length_append, exp_len gs]
    simp
theorem sum_mem : ∀ {l : List Nat} {n : Nat}, n ∈ l → n ≤ l.sum
  | m :: l, n, h => by
    simp only [List.sum_cons]
    rcases List.mem_cons.mp h with rfl | h
    · omega
    · have := sum_mem h
      omega
theorem grp_le {ns : List Nd} {g : Gp} (h : g ∈ grp ns) : g.2 ≤ ns.length := by
  have e := exp_len (grp ns)
  rw [grp_exp] at e
  rw [e]
  exact sum_mem (List.mem_map_of_mem (f := fun g : Gp => g.2) h)
theorem szNs_app : ∀ xs ys : List Nd, szNs (xs ++ ys) = szNs xs + szNs ys
  | [], ys => by simp [szNs]
  | x :: xs, ys => by
    simp only [List.cons_append, szNs, szNs_app xs ys]
    omega
theorem szNs_rep (n : Nd) : ∀ k : Nat, szNs (List.replicate k n) = szN n * k
  | 0 => by simp [szNs]
  | k + 1 => by
    rw [List.replicate_succ]
    simp only [szNs, szNs_rep n k]
    rw [Nat.mul_succ]
    omega
theorem szN_itm (g : Gp) : szN (itmN g) = szN g.1 * g.2 := by
  unfold itmN
  split
  · rename_i h
    rw [h, Nat.mul_one]
  · simp only [szN]
theorem szNs_itms : ∀ gs : List Gp, szNs (gs.map itmN) = szNs (expG gs)
  | [] => rfl
  | g :: gs => by
    have e : expG (g :: gs) = List.replicate g.2 g.1 ++ expG gs := by simp [expG]
    rw [e, szNs_app, szNs_rep, List.map_cons]
    simp only [szNs, szN_itm, szNs_itms gs]
theorem szNs_mem {ns : List Nd} {n : Nd} (h : n ∈ ns) : szN n ≤ szNs ns := by
  induction ns with
  | nil => simp at h
  | cons m r ih =>
    simp only [szNs]
    rcases List.mem_cons.mp h with rfl | h
    · omega
    · have := ih h
      omega
theorem szNs_blks : ∀ ps : List (List Nd), szNs (ps.map Nd.blk) = szNs ps.flatten
  | [] => rfl
  | p :: ps => by
    rw [List.map_cons, List.flatten_cons, szNs_app]
    simp only [szNs, szN, szNs_blks ps]
theorem cuts_flat {α : Type} {ss : List Nat} {xs : List α} (h0 : ss.getD 0 xs.length = 0) (hm : ∀ i, i < ss.length → ss.getD i 0 ≤ ss.getD (i + 1) xs.length) (he : ∀ i, i < ss.length → ss.getD i xs.length = ss.getD i 0) : ∀ i, i ≤ ss.length → ((cutsN ss xs).take i).flatten = xs.take (ss.getD i xs.length)
  | 0, _ => by rw [h0]; simp
  | i + 1, hi => by
    rw [cutsN_take (by omega), List.flatten_append, cuts_flat h0 hm he i (by omega), he i (by omega)]
    have := hm i (by omega)
    simp only [List.flatten_cons, List.flatten_nil, List.append_nil]
    calc xs.take (ss.getD i 0) ++ (xs.take (ss.getD (i + 1) xs.length)).drop (ss.getD i 0) = (xs.take (ss.getD (i + 1) xs.length)).take (ss.getD i 0) ++ (xs.take (ss.getD (i + 1) xs.length)).drop (ss.getD i 0) := by
          rw [List.take_take, Nat.min_eq_left this]
      _ = _ := List.take_append_drop _ _
noncomputable def prts (xs : List Nd) : List (List Nd) := cutsN (startsL (colsZ xs)) xs
theorem prts_flat {xs : List Nd} (h : Row xs) : (prts xs).flatten = xs := by
  have := cuts_flat (xs := xs) (ss := startsL (colsZ xs)) (starts_zero xs) (fun i hi => Nat.le_of_lt (parts_ok h hi).1) (fun i hi => (parts_ok h hi).2.2.2.2) _ (Nat.le_refl _)
  unfold prts
  rw [List.take_of_length_le (by rw [cutsN_len]; exact Nat.le_refl _)] at this
  rw [this, List.getD_eq_getElem?_getD, List.getElem?_eq_none (Nat.le_refl _)]
  simp
theorem prts_len {xs : List Nd} (h : Row xs) {p : List Nd} (hp : p ∈ prts xs) : min 2 xs.length ≤ p.length ∧ p.length ≤ 12 ∧ 1 ≤ p.length := by
  have hP : ∀ i, i < (startsL (colsZ xs)).length → _ := fun i hi => @parts_ok xs h i hi
  unfold prts at hp
  generalize startsL (colsZ xs) = ss at hp hP
  obtain ⟨i, hi⟩ := List.mem_iff_getElem?.mp hp
  have hi' : i < ss.length := by
    have := (List.getElem?_eq_some_iff.mp hi).1
    rwa [cutsN_len] at this
  rw [cutsN_get hi'] at hi
  obtain ⟨a1, a2, a3, a4, a5⟩ := hP i hi'
  have e := (Option.some.inj hi).symm
  rw [e, List.length_drop, List.length_take]
  omega
theorem flat_len {α : Type} (k : Nat) : ∀ {ps : List (List α)}, (∀ p ∈ ps, k ≤ p.length) → k * ps.length ≤ ps.flatten.length
  | [], _ => by simp
  | p :: ps, h => by
    have h1 := h p (by simp)
    have h2 := flat_len k (ps := ps) fun q hq => h q (by simp [hq])
    simp only [List.flatten_cons, List.length_append, List.length_cons, Nat.mul_succ]
    omega
theorem prts_half {xs : List Nd} (h : Row xs) (hl : 2 ≤ xs.length) : 2 * (prts xs).length ≤ xs.length := by
  have := flat_len 2 (ps := prts xs) fun p hp => by have := (prts_len h hp).1; omega
  rwa [prts_flat h] at this
noncomputable def itms (ns : List Nd) : List Nd := (grp ns).map itmN
noncomputable def upN (xs : List Nd) : List Nd := (prts xs).map Nd.blk
noncomputable def nxt (ns : List Nd) : List Nd := if 1 < (itms ns).length then upN (itms ns) else []
noncomputable def lv (ns : List Nd) : Nat → List Nd
  | 0 => ns
  | j + 1 => nxt (lv ns j)
structure LvOk (m j : Nat) (ns : List Nd) : Prop where
  ok : ∀ n ∈ ns, okN n ∧ isRun n = false ∧ dpN n ≤ 2 * j + 1
  sz : szNs ns ≤ m
  len : ns.length * 2 ^ j ≤ m
theorem szs_len : ∀ {ns : List Nd}, (∀ n ∈ ns, okN n) → ns.length ≤ szNs ns := fun {ns} h => szNs_pos ns ((okNs_iff ns).mpr h)
theorem LvOk.small {m j : Nat} {ns : List Nd} (h : LvOk m j ns) : ns.length ≤ m := Nat.le_trans (szs_len fun n hn => (h.ok n hn).1) h.sz
theorem LvOk.okt {m j : Nat} {ns : List Nd} (h : LvOk m j ns) (hm : m ≤ 2000) (hj : j ≤ 11) : ∀ n ∈ ns, Okt n := fun n hn => by
  obtain ⟨a, _, b⟩ := h.ok n hn
  have := szNs_mem hn
  exact ⟨a, by omega, by have := h.sz; omega⟩
theorem itms_len (ns : List Nd) : (itms ns).length ≤ ns.length := by
  unfold itms
  rw [List.length_map]
  exact grp_len ns
theorem sz_itms (ns : List Nd) : szNs (itms ns) = szNs ns := by
  unfold itms
  rw [szNs_itms, grp_exp]
theorem itm_base {m j : Nat} {ns : List Nd} (h : LvOk m j ns) (hm : m ≤ 2000) {g : Gp} (hg : g ∈ grp ns) : okN (itmN g) ∧ dpN (itmN g) ≤ 2 * j + 2 ∧ szN (itmN g) ≤ m := by
  obtain ⟨m1, m2⟩ := grp_mem hg
  obtain ⟨a1, a2, a3⟩ := h.ok _ m1
  have hs : szN (itmN g) ≤ m := by
    have : itmN g ∈ itms ns := List.mem_map_of_mem hg
    have := szNs_mem this
    rw [sz_itms] at this
    exact Nat.le_trans this h.sz
  have hl := grp_le hg
  have := h.small
  refine ⟨?_, ?_, hs⟩
  · unfold itmN
    split
    · exact a1
    · simp only [okN]
      exact ⟨a1, by omega, by omega⟩
  · unfold itmN
    split
    · omega
    · simp only [dpN]
      omega
theorem itm_inj {g g' : Gp} (h : isRun g.1 = false) (h' : isRun g'.1 = false) (e : itmN g = itmN g') : g.1 = g'.1 := by
  unfold itmN at e
  split at e <;> split at e
  · exact e
  · rw [e] at h
    simp [isRun] at h
  · rw [← e] at h'
    simp [isRun] at h'
  · injection e
theorem LvOk.row {m j : Nat} {ns : List Nd} (h : LvOk m j ns) (hm : m ≤ 2000) (hj : j ≤ 11) : Row (itms ns) := by
  refine ⟨fun c hc => ?_, fun i a b ha hb => ?_⟩
  · obtain ⟨g, hg, rfl⟩ := List.mem_map.mp hc
    obtain ⟨a1, a2, a3⟩ := itm_base h hm hg
    exact ⟨a1, by omega, by omega⟩
  · unfold itms at ha hb
    rw [List.getElem?_map, Option.map_eq_some_iff] at ha hb
    obtain ⟨g, hg, rfl⟩ := ha
    obtain ⟨g', hg', rfl⟩ := hb
    exact fun e => grp_ap i g g' hg hg' (itm_inj (h.ok _ (grp_mem (List.mem_of_getElem? hg)).1).2.1 (h.ok _ (grp_mem (List.mem_of_getElem? hg')).1).2.1 e)
theorem LvOk.itmsOkt {m j : Nat} {ns : List Nd} (h : LvOk m j ns) (hm : m ≤ 2000) (hj : j ≤ 11) : ∀ c ∈ itms ns, Okt c := fun c hc => by
  obtain ⟨g, hg, rfl⟩ := List.mem_map.mp hc
  obtain ⟨a1, a2, a3⟩ := itm_base h hm hg
  exact ⟨a1, by omega, by omega⟩
theorem LvOk.next {m j : Nat} {ns : List Nd} (h : LvOk m j ns) (hm : m ≤ 2000) (hj : j ≤ 11) : LvOk m (j + 1) (nxt ns) := by
  unfold nxt
  split
  · rename_i hl
    have hR := h.row hm hj
    refine ⟨fun n hn => ?_, ?_, ?_⟩
    · obtain ⟨p, hp, rfl⟩ := List.mem_map.mp hn
      obtain ⟨p1, p2, p3⟩ := prts_len hR hp
      have hsub : ∀ c ∈ p, c ∈ itms ns := fun c hc => by
        rw [← prts_flat hR]
        exact List.mem_flatten.mpr ⟨p, hp, hc⟩
      refine ⟨?_, rfl, ?_⟩
      · simp only [okN]
        refine ⟨p3, by omega, (okNs_iff p).mpr fun c hc => ?_⟩
        obtain ⟨g, hg, rfl⟩ := List.mem_map.mp (hsub c hc)
        exact (itm_base h hm hg).1
      · simp only [dpN]
        have : dpNs p ≤ 2 * j + 2 := dpNs_le fun c hc => by
          obtain ⟨g, hg, rfl⟩ := List.mem_map.mp (hsub c hc)
          exact (itm_base h hm hg).2.1
        omega
    · unfold upN
      rw [szNs_blks, prts_flat hR, sz_itms]
      exact h.sz
    · unfold upN
      rw [List.length_map]
      have h1 := prts_half hR (by omega)
      have h2 := itms_len ns
      have h3 := h.len
      have h4 : 2 * (prts (itms ns)).length * 2 ^ j ≤ ns.length * 2 ^ j := Nat.mul_le_mul_right _ (by omega)
      rw [Nat.pow_succ]
      calc (prts (itms ns)).length * (2 ^ j * 2) = 2 * (prts (itms ns)).length * 2 ^ j := by
            rw [Nat.mul_comm (2 ^ j) 2, ← Nat.mul_assoc, Nat.mul_comm (prts (itms ns)).length 2]
        _ ≤ _ := Nat.le_trans h4 h3
  · exact ⟨by simp, by simp [szNs], by simp⟩
theorem leaves_ok {xs : List A} (hx : ∀ x ∈ xs, El x) : LvOk xs.length 0 (xs.map .leaf) := by
  refine ⟨fun n hn => ?_, ?_, by simp⟩
  · obtain ⟨x, hx', rfl⟩ := List.mem_map.mp hn
    exact ⟨by simpa only [okN] using hx x hx', rfl, by simp only [dpN]; omega⟩
  · induction xs with
    | nil => simp [szNs]
    | cons x xs ih =>
      have := ih fun y hy => hx y (by simp [hy])
      simp only [List.map_cons, szNs, szN, List.length_cons]
      omega
theorem itms_nil : itms [] = [] := rfl
theorem nxt_nil : nxt [] = [] := by unfold nxt; rw [itms_nil]; simp
theorem lv_nil {ns : List Nd} {j : Nat} (h : lv ns j = []) : ∀ i, lv ns (j + i) = []
  | 0 => h
  | i + 1 => by
    show nxt (lv ns (j + i)) = []
    rw [lv_nil h i, nxt_nil]
theorem few_levels {m j : Nat} {ns : List Nd} (h : LvOk m j ns) (hm : m ≤ 2000) (hn : ns ≠ []) : j ≤ 10 := by
  rcases Nat.lt_or_ge 10 j with q | q
  · exfalso
    have h1 : 1 ≤ ns.length := List.length_pos_iff.mpr hn
    have h2 := h.len
    have h3 : 2 ^ 11 ≤ 2 ^ j := Nat.pow_le_pow_right (by decide) q
    have h4 : 1 * 2 ^ j ≤ ns.length * 2 ^ j := Nat.mul_le_mul_right _ h1
    have : (2 : Nat) ^ 11 = 2048 := rfl
    omega
  · exact q
theorem lv_ok {xs : List A} (hx : ∀ x ∈ xs, El x) (hl : xs.length ≤ 2000) : ∀ j, LvOk xs.length j (lv (xs.map .leaf) j)
  | 0 => leaves_ok hx
  | j + 1 => by
    have ih := lv_ok hx hl j
    by_cases e : lv (xs.map .leaf) j = []
    · show LvOk _ _ (nxt (lv (xs.map .leaf) j))
      rw [e, nxt_nil]
      exact ⟨by simp, by simp [szNs], by simp⟩
    · have := few_levels ih hl e
      exact ih.next hl (by omega)
noncomputable def tabF (f0 ns : List Nd) : Nat → List Nd
  | 0 => addL f0 ns
  | j + 1 => addL (addL (tabF f0 ns j) (itms (lv ns j))) (lv ns (j + 1))
theorem tabF_succ (f0 ns : List Nd) (j : Nat) : ∃ g, tabF f0 ns (j + 1) = tabF f0 ns j ++ g := by
  obtain ⟨g1, e1, _⟩ := addL_pre (itms (lv ns j)) (tabF f0 ns j)
  obtain ⟨g2, e2, _⟩ := addL_pre (lv ns (j + 1)) (addL (tabF f0 ns j) (itms (lv ns j)))
  exact ⟨g1 ++ g2, by simp only [tabF]; rw [e2, e1, List.append_assoc]⟩
theorem tabF_add (f0 ns : List Nd) (j : Nat) : ∀ i, ∃ g, tabF f0 ns (j + i) = tabF f0 ns j ++ g
  | 0 => ⟨[], by simp⟩
  | i + 1 => by
    obtain ⟨g, e⟩ := tabF_add f0 ns j i
    obtain ⟨g2, e2⟩ := tabF_succ f0 ns (j + i)
    exact ⟨g ++ g2, by rw [← Nat.add_assoc, e2, e, List.append_assoc]⟩
theorem tabF_le {f0 ns : List Nd} {i j : Nat} (h : i ≤ j) : ∃ g, tabF f0 ns j = tabF f0 ns i ++ g := by
  have := tabF_add f0 ns i (j - i)
  rwa [show i + (j - i) = j by omega] at this
theorem lv_in0 {f0 ns : List Nd} : ∀ {j : Nat} {n : Nd}, n ∈ lv ns j → n ∈ tabF f0 ns j
  | 0, n, h => addL_mem h
  | j + 1, n, h => addL_mem h
theorem lv_in {f0 ns : List Nd} {i j : Nat} (h : i ≤ j) {n : Nd} (hn : n ∈ lv ns i) : n ∈ tabF f0 ns j := by
  obtain ⟨g, e⟩ := tabF_le (f0 := f0) (ns := ns) h
  rw [e]
  exact List.mem_append_left _ (lv_in0 hn)
theorem its_in {f0 ns : List Nd} {i j : Nat} (h : i < j) {n : Nd} (hn : n ∈ itms (lv ns i)) : n ∈ tabF f0 ns j := by
  obtain ⟨g, e⟩ := tabF_le (f0 := f0) (ns := ns) (show i + 1 ≤ j from h)
  rw [e]
  exact List.mem_append_left _ (addL_old (addL_mem hn))
theorem num_app' {f g : List Nd} {n : Nd} (h : n ∈ f) : numA (f ++ g) n = numA f n := by
  unfold numA
  rw [idx_app h]
theorem num_le {f0 ns : List Nd} {i j : Nat} (h : i ≤ j) {n : Nd} (hn : n ∈ tabF f0 ns i) : numA (tabF f0 ns j) n = numA (tabF f0 ns i) n := by
  obtain ⟨g, e⟩ := tabF_le (f0 := f0) (ns := ns) h
  rw [e, num_app' hn]
noncomputable def colS (xs : List Nd) : A := .tup (natsA (colN xs))
noncomputable def staS (xs : List Nd) : A := .tup (natsA (startsL (colsZ xs)))
noncomputable def LvA (f ns : List Nd) (r i : Nat) : A := .tup [.ref r, .tup ((itms (lv ns i)).map (numA f)), colS (itms (lv ns i)), staS (itms (lv ns i))]
theorem LvA_congr {f g ns : List Nd} {r i : Nat} (h : ∀ n ∈ itms (lv ns i), numA f n = numA g n) : LvA f ns r i = LvA g ns r i := by
  unfold LvA
  rw [List.map_congr_left h]
theorem tabF_len {f0 ns : List Nd} {m : Nat} (h : ∀ j, (lv ns j).length ≤ m) : ∀ j, (tabF f0 ns j).length ≤ f0.length + m + j * (2 * m)
  | 0 => by
    obtain ⟨g, e, hg⟩ := addL_pre ns f0
    have := h 0
    simp only [lv] at this
    simp only [tabF]
    rw [e, List.length_append]
    omega
  | j + 1 => by
    obtain ⟨g1, e1, h1⟩ := addL_pre (itms (lv ns j)) (tabF f0 ns j)
    obtain ⟨g2, e2, h2⟩ := addL_pre (lv ns (j + 1)) (addL (tabF f0 ns j) (itms (lv ns j)))
    have := tabF_len h (f0 := f0) j
    have h3 := h (j + 1)
    have h4 := itms_len (lv ns j)
    have h5 := h j
    simp only [tabF]
    rw [e2, e1, List.length_append, List.length_append, Nat.add_mul]
    omega
theorem FrT.setNew {t r : Nat} {a b : Store} {o : Ob} (h : FrT t a b) (hr : a.length ≤ r) : FrT t a (b.set r o) := ⟨by rw [List.length_set]; exact h.len, fun i hi hi2 => by rw [List.getElem?_set_ne (by omega)]; exact h.get i hi hi2⟩
theorem cutsN_map {α β : Type} (g : α → β) (ss : List Nat) (xs : List α) : cutsN ss (xs.map g) = (cutsN ss xs).map fun p => p.map g := by
  unfold cutsN
  rw [List.map_map]
  refine List.map_congr_left fun i _ => ?_
  simp only [Function.comp, List.length_map, List.map_drop, List.map_take]
theorem cut_wpG {as : List A} {ss : List Nat} {st : Store} {Q : A → Store → Prop} (hl : ss.length ≤ 100000) (k : Q (.ref st.length) (st ++ [.lst ((cutsN ss as).map A.tup)])) : (m_cut [.tup as, .tup (natsA ss)] st).wp Q := by
  simp only [m_cut]
  rw [wp_fn]
  refine ⟨rfl, ?_⟩
  simp only [List.map_cons, List.map_nil, List.cons_append, List.nil_append, List.replicate]
  refine seq_cut (fun ρ st1 => st1 = st ∧ ρ = [some (.tup as), some (.tup (natsA ss)), some (.tup (natsA (ss.drop 1 ++ [as.length]))), none, none]) ?_ ?_
  · simp [sizeLine]
    omega
  rintro ρ st1 ⟨rfl, rfl⟩
  by_cases h0 : ss = []
  · subst h0
    simp only [sp_ret, wp_lc, wp_zip, wp_cons, wp_nil, wp_var, List.getElem?_cons_succ, List.getElem?_cons_zero, Option.some.injEq, ex_eq, w_zipT]
    simp [natsA, Src.size, loopC, Src.at]
    simpa [cutsN] using k
  have hp := List.length_pos_iff.mpr h0
  simp only [sp_ret, wp_lc, wp_zip, wp_cons, wp_nil, wp_var, List.getElem?_cons_succ, List.getElem?_cons_zero, Option.some.injEq, ex_eq, w_zipT]
  refine lc_zipv (fun i st' acc => st' = st1 ∧ acc = ((cutsN ss as).take i).map A.tup) (by simp; omega) ⟨rfl, rfl⟩ ?_ ?_
  · rintro i x y st' acc hx hy ⟨rfl, rfl⟩
    obtain ⟨h1, rfl⟩ := natsA_some hx
    obtain ⟨h2, rfl⟩ := natsA_some hy
    refine ⟨_, rfl, ?_⟩
    have e1 : (ss.drop 1 ++ [as.length]).getD i 0 = ss.getD (i + 1) as.length := by
      simp only [List.getD_eq_getElem?_getD]
      by_cases c : i + 1 < ss.length
      · rw [List.getElem?_append_left (by simp; omega), List.getElem?_drop, Nat.add_comm 1 i, List.getElem?_eq_getElem c]
        rfl
      · have e : i = (ss.drop 1).length := by simp; omega
        rw [List.getElem?_append_right (by omega), List.getElem?_eq_none (l := ss) (by omega), e]
        simp
    rw [e1]
    simp only [wp_yes, if_true, wp_sl, wp_var, wp_part, wipeA_cons, wipeA_nil, setsA, List.set_cons_succ, List.set_cons_zero, List.getElem?_cons_succ, List.getElem?_cons_zero, Option.some.injEq, ex_eq, w_getI, w_slT]
    rw [cut_mid (by omega) (by omega), Int.toNat_natCast, Int.toNat_natCast, cutsN_take h1]
    refine ⟨by simp [sizeLine]; omega, trivial, by simp⟩
  · rintro st' acc ⟨rfl, rfl⟩
    rw [List.take_of_length_le (by rw [cutsN_len]; simp)]
    exact k
theorem cut_prts {xs f : List Nd} {st6 : Store} {Q1 : A → Store → Prop} (hl : xs.length ≤ 5000) (h : Q1 (.ref st6.length) (st6 ++ [.lst ((prts xs).map fun p => A.tup (p.map (numA f)))])) : (m_cut [A.tup (xs.map (numA f)), staS xs] st6).wp Q1 := by
  have hss : (startsL (colsZ xs)).length ≤ 100000 := by
    have := starts_few xs
    omega
  unfold staS
  unfold prts at h
  generalize startsL (colsZ xs) = ss at *
  refine cut_wpG hss ?_
  rw [cutsN_map, List.map_map]
  exact h
theorem blk_row_wp {f xs : List Nd} {t r : Nat} {ρ0 : ML.Env} {st : Store} {QL : List A → Store → Prop} (hT : Tab f t st) (hR : Row xs) (hm : ∀ n ∈ xs, n ∈ f) (hok : ∀ p ∈ prts xs, Okt (.blk p)) (hl : f.length + xs.length ≤ 900000) (hr : stL st r = some ((prts xs).map fun p => A.tup (p.map (numA f)))) (hrt : t + 4 < r) (h0 : ρ0[0]? = some (some (.ref t))) (h7 : 7 < ρ0.length)
    (k : ∀ st', FrT t st st' → Tab (addL f (upN xs)) t st' → QL ((upN xs).map (numA (addL f (upN xs)))) st') :
    (loopC (.lst r) (.one 7) [7] mYes (mMeth "NodeTable" "number_of" m_NodeTable_number_of (mVar 0) (mCons (mTup (mCons (mC (.str "block")) (mCons (mVar 7) mNil))) mNil)) (wipeA ρ0 [7]) ((Src.lst r).size st + 1) 0 st []).wp QL := by
  generalize hM : @m_NodeTable_number_of = M
  have hlt := stL_lt hr
  refine lc_lst (fun i st' acc => FrT t st st' ∧ Tab (addL f ((upN xs).take i)) t st' ∧ acc = ((upN xs).take i).map (numA (addL f ((upN xs).take i)))) hr ⟨.refl _ _, by simpa [addL] using hT, by simp⟩ ?_ ?_ ?_
  · rintro i st' acc ⟨f', T', rfl⟩
    exact f'.stL (by omega) hr
  · rintro i x st' acc hx ⟨f', T', rfl⟩
    refine ⟨_, rfl, ?_⟩
    rw [List.getElem?_map] at hx
    obtain ⟨p, hp, rfl⟩ := Option.map_eq_some_iff.mp hx
    have hi := (List.getElem?_eq_some_iff.mp hp).1
    have hpm := List.mem_of_getElem? hp
    have hn : (upN xs)[i]? = some (.blk p) := by unfold upN; rw [List.getElem?_map, hp]; rfl
    have hll := addL_take_len (f := f) (ns := upN xs) (i := i)
    have hul : (upN xs).length = (prts xs).length := by unfold upN; rw [List.length_map]
    have hpl : (prts xs).length ≤ xs.length := by
      have := flat_len 1 (ps := prts xs) fun p hp => (prts_len hR hp).2.2
      rw [prts_flat hR] at this
      omega
    have hrow := row_grow (f := f) hn
    have en : addL f ((upN xs).take (i + 1)) = addN (addL f ((upN xs).take i)) (.blk p) := by
      rw [List.take_add_one, hn]
      simp [addL]
    have hkm : ∀ c ∈ p, c ∈ f := fun c hc => hm c (by rw [← prts_flat hR]; exact List.mem_flatten.mpr ⟨p, hpm, hc⟩)
    have hsz : (List.map (numA (addL f ((upN xs).take i))) ((upN xs).take i)).length < sizeLine := by rw [size_eq, List.length_map, List.length_take]; omega
    have hkF : ∀ c ∈ p, c ∈ addL f ((upN xs).take i) := fun c hc => addL_old (hkm c hc)
    have e2 : p.map (numA f) = p.map (numA (addL f ((upN xs).take i))) := List.map_congr_left fun c hc => (num_stay (hkm c hc)).symm
    generalize hF : addL f ((upN xs).take i) = F at *
    generalize hF2 : addL f ((upN xs).take (i + 1)) = F2 at *
    generalize hU : upN xs = us at *
    have ee : A.tup [.str "block", .tup (p.map (numA f))] = entA F (.blk p) := by
      rw [e2]
      rfl
    generalize A.tup (p.map (numA f)) = vp at *
    have h0' : ((ρ0.set 7 none).set 7 (some vp))[0]? = some (some (.ref t)) := by
      rw [List.getElem?_set_ne (by decide), List.getElem?_set_ne (by decide)]
      exact h0
    have h7' : ((ρ0.set 7 none).set 7 (some vp))[7]? = some (some vp) := by
      rw [List.getElem?_set_self (by simpa using h7)]
    simp only [wipeA_cons, wipeA_nil, wp_yes, if_true, wp_meth, wp_cons, wp_nil, wp_var, wp_tup, wp_c, h0', h7', Option.some.injEq, ex_eq, insA_of T'.i, tab_m2, true_and]
    refine ⟨by rw [size_eq]; simp, ?_⟩
    rw [ee]
    subst hM
    have hOk : Okt (.blk p) := hok p hpm
    have hK : ∀ c ∈ kids (.blk p), c ∈ F := hkF
    have hfl : F.length < 1000000 := by omega
    refine number_of_wp (n := .blk p) T' hOk hK hfl fun st2 f2 T2 => ?_
    refine ⟨hsz, f'.trans f2, ?_, ?_⟩
    · rw [en]
      exact T2
    · rw [← hrow]
  · intro st' acc hI
    have e : (upN xs).take ((prts xs).map fun p => A.tup (p.map (numA f))).length = upN xs := List.take_of_length_le (by simp [upN])
    rw [e] at hI
    obtain ⟨f', T', ea⟩ := hI
    rw [ea]
    exact k st' f' T'
def muL (i : Nat) (ρ : ML.Env) (st : Store) : Nat := match ρ[i]? with
  | some (some (.ref r)) => ((stL st r).getD []).length
  | _ => 0
structure GrSt (f0 ns : List Nd) (t q : Nat) (st0 : Store) (j : Nat) (rs : List Nat) (r : Nat) (st : Store) : Prop where
  fr : FrT t st0 st
  tb : Tab (tabF f0 ns j) t st
  ne : ∀ i, i < j → lv ns i ≠ []
  ql : st0.length ≤ q
  hq : stL st q = some ((List.range j).map fun i => LvA (tabF f0 ns j) ns (rs.getD i 0) i)
  rl : rs.length = j
  hrs : ∀ i, i < j → st0.length ≤ rs.getD i 0 ∧ rs.getD i 0 ≠ q ∧ stL st (rs.getD i 0) = some ((lv ns i).map (numA (tabF f0 ns j)))
  r0 : st0.length ≤ r
  rq : r ≠ q
  hr : stL st r = some ((lv ns j).map (numA (tabF f0 ns j)))
def GwI (f0 ns : List Nd) (xs : List A) (t q : Nat) (st0 : Store) (ρ : ML.Env) (st : Store) : Prop := ∃ (j : Nat) (rs : List Nat) (r : Nat) (v4 v5 v6 : Option A), GrSt f0 ns t q st0 j rs r st ∧ ρ = [some (.ref t), some (.tup xs), some (.ref q), some (.ref r), v4, v5, v6, none]
theorem grow_wp {f0 : List Nd} {xs : List A} {t : Nat} {st : Store} {Q : A → Store → Prop} (hT : Tab f0 t st) (hx : ∀ x ∈ xs, El x) (hl : xs.length ≤ 2000) (hf : f0.length ≤ 500000)
    (k : ∀ q rs r j st', GrSt f0 (xs.map .leaf) t q st j rs r st' → lv (xs.map .leaf) j = [] → Q (.ref q) st') : (m_grow [.ref t, .tup xs] st).wp Q := by
  simp only [m_grow]
  have hlv := lv_ok hx hl
  have h4 := stL_lt hT.z
  generalize hW : @mWhile = W
  have CP := @cut_prts
  generalize hC : @m_cut = C at CP ⊢
  generalize hI : @m_item_row = I
  generalize hK : @m_color_row = K
  generalize hS : @m_starts_of = S
  generalize hN : @m_NodeTable_number_of = N
  rw [wp_fn]
  refine ⟨rfl, ?_⟩
  simp only [List.map_cons, List.map_nil, List.cons_append, List.nil_append, List.replicate, Nat.reduceSub]
  refine seq_cut (fun ρ st' => st' = st ++ [.lst []] ∧ ρ = [some (.ref t), some (.tup xs), some (.ref st.length), none, none, none, none, none]) ?_ ?_
  · simp [sizeLine]
  rintro ρ st1 ⟨rfl, rfl⟩
  have T1 := hT.grown (.one st (.lst []))
  refine seq_cut (GwI f0 (xs.map .leaf) xs t st.length st) ?_ ?_
  · simp only [sp_set, wp_call, wp_cons, wp_nil, wp_var, List.getElem?_cons_succ, List.getElem?_cons_zero, Option.some.injEq, ex_eq, List.set_cons_succ, List.set_cons_zero]
    refine leaf_row_wp T1 hx (by omega) fun st2 f2 T2 => ?_
    have hq : stL (st ++ [Ob.lst []]) st.length = some [] := stL_new
    have hlt := stL_lt hq
    have hq2 := f2.stL (by omega) hq
    have hlen := f2.len
    have hlt2 := stL_lt hq2
    refine ⟨0, [], st2.length, none, none, none, ⟨((FrT.grown (.one _ _)).trans f2).trans (.grown (.one _ _)), T2.grown (.one _ _), by simp, Nat.le_refl _, Grown.stL (.one _ _) hq2, rfl, by simp, ?_, by omega, stL_new⟩, rfl⟩
    omega
  rintro ρ st2 h2
  refine seq_cut (fun ρ st3 => ∃ (j : Nat) (rs : List Nat) (r : Nat) (v4 v5 v6 : Option A), GrSt f0 (xs.map .leaf) t st.length st j rs r st3 ∧ lv (xs.map .leaf) j = [] ∧ ρ = [some (.ref t), some (.tup xs), some (.ref st.length), some (.ref r), v4, v5, v6, none]) ?_ ?_
  · subst hW
    refine while_wp (GwI f0 (xs.map .leaf) xs t st.length st) (muL 3) ?_ h2
    rintro ρ st3 ⟨j, rs, r, v4, v5, v6, G, rfl⟩
    generalize hns : xs.map Nd.leaf = ns at *
    have hjk := hlv j
    simp only [wp_tru, wp_var, List.getElem?_cons_succ, List.getElem?_cons_zero, Option.some.injEq, ex_eq, w_truL, G.hr, List.isEmpty_map]
    by_cases hne : lv ns j = []
    · rw [hne]
      simp only [List.isEmpty_nil, Bool.not_true, Bool.false_eq_true, if_false]
      exact ⟨j, rs, r, v4, v5, v6, G, hne, rfl⟩
    have hem : (lv ns j).isEmpty = false := by cases h : lv ns j <;> simp_all
    rw [hem]
    simp only [Bool.not_false, if_true]
    have hj := few_levels hjk hl hne
    have hR := hjk.row hl (by omega)
    have hsm := hjk.small
    have hil := itms_len (lv ns j)
    have htl := tabF_len (f0 := f0) (ns := ns) (m := xs.length) (fun j => (hlv j).small) j
    have htl1 := tabF_len (f0 := f0) (ns := ns) (m := xs.length) (fun j => (hlv j).small) (j + 1)
    have b1 : j * (2 * xs.length) ≤ 10 * 4000 := Nat.mul_le_mul hj (by omega)
    have b2 : (j + 1) * (2 * xs.length) ≤ 11 * 4000 := Nat.mul_le_mul (by omega) (by omega)
    have hokI := hjk.itmsOkt hl (by omega)
    have hrn : t + 4 < r := by have := G.r0; omega
    have mu0 : muL 3 [some (A.ref t), some (.tup xs), some (.ref st.length), some (.ref r), v4, v5, v6, none] st3 = (lv ns j).length := by
      simp only [muL, List.getElem?_cons_succ, List.getElem?_cons_zero, G.hr, Option.getD_some, List.length_map]
    rw [mu0]
    have hpos : 1 ≤ (lv ns j).length := List.length_pos_iff.mpr hne
    -- items
    refine seq_cut (fun ρ st4 => FrT t st3 st4 ∧ Tab (addL (tabF f0 ns j) (itms (lv ns j))) t st4 ∧ ρ = [some (.ref t), some (.tup xs), some (.ref st.length), some (.ref r), some (.tup ((itms (lv ns j)).map (numA (addL (tabF f0 ns j) (itms (lv ns j)))))), v5, v6, none]) ?_ ?_
    · simp only [sp_set, wp_call, wp_cons, wp_nil, wp_var, List.getElem?_cons_succ, List.getElem?_cons_zero, Option.some.injEq, ex_eq, List.set_cons_succ, List.set_cons_zero]
      subst hI
      refine item_row_wp (gs := grp (lv ns j)) G.tb (fun g hg => ⟨lv_in0 (grp_mem hg).1, (grp_mem hg).2, hokI _ (List.mem_map_of_mem hg)⟩) grp_ap (by rw [grp_exp]; omega) (by have := grp_len (lv ns j); omega) (by have := grp_len (lv ns j); omega) (by rw [grp_exp]; exact G.hr) hrn fun st4 f4 T4 => ?_
      exact ⟨f4, T4, rfl⟩
    rintro ρ st4 ⟨f4, T4, rfl⟩
    have hmI : ∀ n ∈ itms (lv ns j), n ∈ addL (tabF f0 ns j) (itms (lv ns j)) := fun n hn => addL_mem hn
    have hil2 : (itms (lv ns j)).length ≤ 2000 := by omega
    have hfl : (addL (tabF f0 ns j) (itms (lv ns j))).length ≤ 600000 := by
      obtain ⟨g1, e1, h1⟩ := addL_pre (itms (lv ns j)) (tabF f0 ns j)
      rw [e1, List.length_append]
      omega
    -- colors
    refine seq_cut (fun ρ st5 => FrT t st3 st5 ∧ Tab (addL (tabF f0 ns j) (itms (lv ns j))) t st5 ∧ ρ = [some (.ref t), some (.tup xs), some (.ref st.length), some (.ref r), some (.tup ((itms (lv ns j)).map (numA (addL (tabF f0 ns j) (itms (lv ns j)))))), some (colS (itms (lv ns j))), v6, none]) ?_ ?_
    · simp only [sp_set, wp_call, wp_cons, wp_nil, wp_var, List.getElem?_cons_succ, List.getElem?_cons_zero, Option.some.injEq, ex_eq, List.set_cons_succ, List.set_cons_zero]
      subst hK
      refine color_row_wp T4 hR hmI (by omega) fun st5 h5 => ?_
      exact ⟨f4.trans (h5.fr t), T4.hold h5, rfl⟩
    clear f4 T4 st4
    rintro ρ st4 ⟨f4, T4, rfl⟩
    -- starts
    refine seq_cut (fun ρ st5 => FrT t st3 st5 ∧ Tab (addL (tabF f0 ns j) (itms (lv ns j))) t st5 ∧ ρ = [some (.ref t), some (.tup xs), some (.ref st.length), some (.ref r), some (.tup ((itms (lv ns j)).map (numA (addL (tabF f0 ns j) (itms (lv ns j)))))), some (colS (itms (lv ns j))), some (staS (itms (lv ns j))), none]) ?_ ?_
    · simp only [sp_set, wp_call, wp_cons, wp_nil, wp_var, List.getElem?_cons_succ, List.getElem?_cons_zero, Option.some.injEq, ex_eq, List.set_cons_succ, List.set_cons_zero, colS]
      have hcz : natsA (colN (itms (lv ns j))) = (colsZ (itms (lv ns j))).map A.int := natsA_ints _
      rw [hcz]
      subst hS
      refine starts_wp (by rw [colsZ_len]; omega) fun st5 g5 => ?_
      exact ⟨f4.trans (.grown g5), T4.grown g5, rfl⟩
    clear f4 T4 st4
    rintro ρ st4 ⟨f4, T4, rfl⟩
    have hq4 : stL st4 st.length = some ((List.range j).map fun i => LvA (tabF f0 ns j) ns (rs.getD i 0) i) := f4.stL (by omega) G.hq
    have hr4 : stL st4 r = some ((lv ns j).map (numA (tabF f0 ns j))) := f4.stL (by omega) G.hr
    -- append
    have estay : ∀ n ∈ tabF f0 ns j, numA (addL (tabF f0 ns j) (itms (lv ns j))) n = numA (tabF f0 ns j) n := fun n hn => num_stay hn
    have ebig : ∀ n ∈ addL (tabF f0 ns j) (itms (lv ns j)), numA (tabF f0 ns (j + 1)) n = numA (addL (tabF f0 ns j) (itms (lv ns j))) n := fun n hn => num_stay hn
    have erow : ∀ n ∈ tabF f0 ns j, numA (tabF f0 ns (j + 1)) n = numA (tabF f0 ns j) n := fun n hn => num_le (Nat.le_succ j) hn
    have elist : ((List.range j).map fun i => LvA (tabF f0 ns j) ns (rs.getD i 0) i) ++ [LvA (addL (tabF f0 ns j) (itms (lv ns j))) ns r j] = (List.range (j + 1)).map fun i => LvA (tabF f0 ns (j + 1)) ns ((rs ++ [r]).getD i 0) i := by
      rw [List.range_succ, List.map_append]
      congr 1
      · refine List.map_congr_left fun i hi => ?_
        have hi' : i < j := by simpa using hi
        have er : (rs ++ [r]).getD i 0 = rs.getD i 0 := by
          rw [List.getD_eq_getElem?_getD, List.getD_eq_getElem?_getD, List.getElem?_append_left (by rw [G.rl]; exact hi')]
        rw [er]
        exact LvA_congr fun n hn => (erow n (its_in hi' hn)).symm
      · have er : (rs ++ [r]).getD j 0 = r := by
          rw [List.getD_eq_getElem?_getD, List.getElem?_append_right (by rw [G.rl]; exact Nat.le_refl _), G.rl, Nat.sub_self]
          rfl
        simp only [List.map_cons, List.map_nil]
        rw [er]
        congr 1
        exact LvA_congr fun n hn => (ebig n (addL_mem hn)).symm
    have hl4 := f4.len
    have hlq4 := stL_lt hq4
    have hfr4 : FrT t st st4 := G.fr.trans f4
    have hrs4 : ∀ i, i < j → stL st4 (rs.getD i 0) = some ((lv ns i).map (numA (tabF f0 ns j))) := fun i hi => f4.stL (by have := (G.hrs i hi).1; omega) (G.hrs i hi).2.2
    generalize hL0 : ((List.range j).map fun i => LvA (tabF f0 ns j) ns (rs.getD i 0) i) = L0 at *
    generalize hL1 : ((List.range (j + 1)).map fun i => LvA (tabF f0 ns (j + 1)) ns ((rs ++ [r]).getD i 0) i) = L1 at *
    have hL0l : L0.length = j := by rw [← hL0, List.length_map, List.length_range]
    have hval : A.tup [.ref r, .tup ((itms (lv ns j)).map (numA (addL (tabF f0 ns j) (itms (lv ns j))))), colS (itms (lv ns j)), staS (itms (lv ns j))] = LvA (addL (tabF f0 ns j) (itms (lv ns j))) ns r j := rfl
    refine seq_cut (fun ρ st5 => FrT t st st5 ∧ Tab (addL (tabF f0 ns j) (itms (lv ns j))) t st5 ∧ stL st5 st.length = some L1 ∧ (∀ i, i < j → stL st5 (rs.getD i 0) = some ((lv ns i).map (numA (tabF f0 ns j)))) ∧ stL st5 r = some ((lv ns j).map (numA (tabF f0 ns j))) ∧ ρ = [some (.ref t), some (.tup xs), some (.ref st.length), some (.ref r), some (.tup ((itms (lv ns j)).map (numA (addL (tabF f0 ns j) (itms (lv ns j)))))), some (colS (itms (lv ns j))), some (staS (itms (lv ns j))), none]) ?_ ?_
    · simp only [sp_expr, wp_bm, wp_tup, wp_cons, wp_nil, wp_var, List.getElem?_cons_succ, List.getElem?_cons_zero, Option.some.injEq, ex_eq, isL_ref, hq4, Option.isSome_some, true_and, w_append]
      refine ⟨by rw [size_eq]; simp, by rw [size_eq, hL0l]; omega, hfr4.setNew (Nat.le_refl _), T4.set (by omega), ?_, ?_, ?_, trivial⟩
      · rw [stL_set_self hq4, hval, elist]
      · intro i hi
        rw [stL_set_ne' (fun z => (G.hrs i hi).2.1 z.symm)]
        exact hrs4 i hi
      · rw [stL_set_ne' (fun z => G.rq z.symm)]
        exact hr4
    clear f4 T4 hq4 hr4 hrs4 hlq4 hfr4 hl4
    rintro ρ st5 ⟨f5, T5, hq5, hrs5, hr5, rfl⟩
    have hlq5 := stL_lt hq5
    refine seq_cut (fun ρ st6 => st6 = st5 ++ [.lst []] ∧ ρ = [some (.ref t), some (.tup xs), some (.ref st.length), some (.ref st5.length), some (.tup ((itms (lv ns j)).map (numA (addL (tabF f0 ns j) (itms (lv ns j)))))), some (colS (itms (lv ns j))), some (staS (itms (lv ns j))), none]) ?_ ?_
    · simp only [sp_set, wp_lst, wp_nil, List.set_cons_zero, List.set_cons_succ]
      exact ⟨by simp [sizeLine], trivial, trivial⟩
    rintro ρ st6 ⟨rfl, rfl⟩
    have g6 : Grown st5 (st5 ++ [Ob.lst []]) := .one _ _
    have hz6 : stL (st5 ++ [Ob.lst []]) st5.length = some [] := stL_new
    have l65 : st5.length < (st5 ++ [Ob.lst []]).length := stL_lt hz6
    have f6 : FrT t st5 (st5 ++ [Ob.lst []]) := .grown g6
    have T6 := T5.grown g6
    generalize hs6 : st5 ++ [Ob.lst []] = st6 at *
    have ht5 : t + 4 < st5.length := by omega
    have fin : ∀ (st7 : Store) (r' : Nat), FrT t st6 st7 → Tab (tabF f0 ns (j + 1)) t st7 → st5.length ≤ r' → stL st7 r' = some ((lv ns (j + 1)).map (numA (tabF f0 ns (j + 1)))) → GwI f0 ns xs t st.length st [some (.ref t), some (.tup xs), some (.ref st.length), some (.ref r'), some (.tup ((itms (lv ns j)).map (numA (addL (tabF f0 ns j) (itms (lv ns j)))))), some (colS (itms (lv ns j))), some (staS (itms (lv ns j))), none] st7 ∧ muL 3 [some (.ref t), some (.tup xs), some (.ref st.length), some (.ref r'), some (.tup ((itms (lv ns j)).map (numA (addL (tabF f0 ns j) (itms (lv ns j)))))), some (colS (itms (lv ns j))), some (staS (itms (lv ns j))), none] st7 < (lv ns j).length := by
      intro st7 r' f7 T7 hr' z7
      have f57 := f6.trans f7
      refine ⟨⟨j + 1, rs ++ [r], r', _, _, _, ⟨f5.trans f57, T7, ?_, Nat.le_refl _, ?_, by rw [List.length_append, G.rl]; rfl, ?_, by omega, by omega, z7⟩, rfl⟩, ?_⟩
      · intro i hi
        by_cases e : i = j
        · rw [e]
          exact hne
        · exact G.ne i (by omega)
      · rw [hL1]
        exact f57.stL (by omega) hq5
      · intro i hi
        by_cases e : i = j
        · have er : (rs ++ [r]).getD i 0 = r := by
            rw [List.getD_eq_getElem?_getD, List.getElem?_append_right (by rw [G.rl]; omega), G.rl, e, Nat.sub_self]
            rfl
          rw [er, e]
          refine ⟨G.r0, G.rq, ?_⟩
          rw [f57.stL (by omega) hr5]
          congr 1
          exact List.map_congr_left fun n hn => (erow n (lv_in0 hn)).symm
        · have hi' : i < j := by omega
          have er : (rs ++ [r]).getD i 0 = rs.getD i 0 := by
            rw [List.getD_eq_getElem?_getD, List.getD_eq_getElem?_getD, List.getElem?_append_left (by rw [G.rl]; exact hi')]
          rw [er]
          have g := G.hrs i hi'
          refine ⟨g.1, g.2.1, ?_⟩
          rw [f57.stL (by omega) (hrs5 i hi')]
          congr 1
          exact List.map_congr_left fun n hn => (erow n (lv_in (by omega) hn)).symm
      · simp only [muL, List.getElem?_cons_succ, List.getElem?_cons_zero, z7, Option.getD_some, List.length_map]
        show (nxt (lv ns j)).length < _
        unfold nxt
        split
        · rename_i h1
          have := prts_half hR (by omega)
          unfold upN
          rw [List.length_map]
          omega
        · exact hpos
    simp only [sp_ifs, wp_gb, wp_bin, wp_ca, wp_cons, wp_nil, wp_var, wp_c, List.getElem?_cons_succ, List.getElem?_cons_zero, Option.some.injEq, ex_eq, w_lenT, List.length_map, w_gt, w_getB, decide_eq_true_eq]
    by_cases hc : 1 < (itms (lv ns j)).length
    · have hc' : (1 : Int) < ((itms (lv ns j)).length : Nat) := by omega
      have elv : lv ns (j + 1) = upN (itms (lv ns j)) := by
        show nxt (lv ns j) = _
        unfold nxt
        rw [if_pos hc]
      rw [if_pos hc']
      simp only [sp_set, wp_lc, wp_src, wp_call, wp_cons, wp_nil, wp_var, List.getElem?_cons_succ, List.getElem?_cons_zero, Option.some.injEq, ex_eq]
      refine CP (by omega) ?_
      have g7 : Grown st6 (st6 ++ [Ob.lst ((prts (itms (lv ns j))).map fun p => A.tup (p.map (numA (addL (tabF f0 ns j) (itms (lv ns j))))))]) := .one _ _
      have h7 : stL (st6 ++ [Ob.lst ((prts (itms (lv ns j))).map fun p => A.tup (p.map (numA (addL (tabF f0 ns j) (itms (lv ns j))))))]) st6.length = some ((prts (itms (lv ns j))).map fun p => A.tup (p.map (numA (addL (tabF f0 ns j) (itms (lv ns j)))))) := stL_new
      generalize st6 ++ [Ob.lst ((prts (itms (lv ns j))).map fun p => A.tup (p.map (numA (addL (tabF f0 ns j) (itms (lv ns j))))))] = st7 at *
      rw [w_srcL, h7]
      refine ⟨rfl, ?_⟩
      subst hN
      have hokB : ∀ p ∈ prts (itms (lv ns j)), Okt (.blk p) := fun p hp => (hlv (j + 1)).okt hl (by omega) _ (by rw [elv]; exact List.mem_map_of_mem hp)
      generalize hρ : [some (A.ref t), some (A.tup xs), some (A.ref st.length), some (A.ref st5.length), some (A.tup ((itms (lv ns j)).map (numA (addL (tabF f0 ns j) (itms (lv ns j)))))), some (colS (itms (lv ns j))), some (staS (itms (lv ns j))), none] = ρ1
      refine blk_row_wp (T6.grown g7) hR hmI hokB (by omega) h7 (by omega) (by rw [← hρ]; rfl) (by rw [← hρ]; simp) fun st8 f8 T8 => ?_
      rw [← hρ]
      have hlen8 := f8.len
      have hlen7 := g7
      simp only [List.set_cons_zero, List.set_cons_succ]
      refine fin _ _ (((FrT.grown g7).trans f8).trans (.grown (.one _ _))) ?_ ?_ ?_
      · have : tabF f0 ns (j + 1) = addL (addL (tabF f0 ns j) (itms (lv ns j))) (upN (itms (lv ns j))) := by simp only [tabF]; rw [elv]
        rw [this]
        exact T8.grown (.one _ _)
      · have := (FrT.grown (t := t) g7).len
        omega
      · have : tabF f0 ns (j + 1) = addL (addL (tabF f0 ns j) (itms (lv ns j))) (upN (itms (lv ns j))) := by simp only [tabF]; rw [elv]
        rw [this, elv]
        exact stL_new
    · have hc' : ¬ (1 : Int) < ((itms (lv ns j)).length : Nat) := by omega
      have elv : lv ns (j + 1) = [] := by
        show nxt (lv ns j) = _
        unfold nxt
        rw [if_neg hc]
      rw [if_neg hc', sp_next]
      refine fin st6 st5.length (.refl _ _) ?_ (Nat.le_refl _) ?_
      · have : tabF f0 ns (j + 1) = addL (tabF f0 ns j) (itms (lv ns j)) := by simp only [tabF]; rw [elv]; rfl
        rw [this]
        exact T6
      · rw [elv]
        exact hz6
  rintro ρ st3 ⟨j, rs, r, v4, v5, v6, G, hj, rfl⟩
  simp only [sp_ret, wp_var, List.getElem?_cons_succ, List.getElem?_cons_zero, Option.some.injEq, ex_eq]
  exact k _ rs r j st3 G hj
end Law
namespace Law
open PySem L2 ML
open Classical
theorem setIA_eq {cls f : Str} {v : A} {r : Nat} {fs : List (Str × A)} {st : Store} (h : st[r]? = some (.oth (.ins cls fs))) (hl : fs.length < 1000) : setIA cls f v (.ref r) st = some (st.set r (.oth (.ins cls (putFA f v fs)))) := by
  unfold setIA
  simp only [insA_of h, if_pos hl]
theorem init_wp {st : Store} {Q : A → Store → Prop} (k : ∀ st', Hold st st' → Tab [] st.length st' → Q .non st') : (m_NodeTable___init__ [.ref st.length] (st ++ [.oth (.ins "NodeTable" [])])).wp Q := by
  simp only [m_NodeTable___init__]
  rw [wp_fn]
  refine ⟨rfl, ?_⟩
  have e : ∀ (a : Ob) (l : List Ob), (st ++ a :: l)[st.length]? = some a := fun a l => by rw [List.getElem?_append_right (Nat.le_refl _), Nat.sub_self]; rfl
  have es : ∀ (a b : Ob) (l : List Ob), (st ++ a :: l).set st.length b = st ++ b :: l := fun a b l => by rw [List.set_append_right _ _ (Nat.le_refl _), Nat.sub_self]; rfl
  have el : ∀ (a : Ob) (l : List Ob), (st ++ a :: l).length = st.length + 1 + l.length := fun a l => by rw [List.length_append, List.length_cons]; omega
  have h0 : ∀ (v : A) (l : List Ob), setIA "NodeTable" "numbers" v (.ref st.length) (st ++ (.oth (.ins "NodeTable" [])) :: l) = some (st ++ (.oth (.ins "NodeTable" [("numbers", v)])) :: l) := fun v l => by
    rw [setIA_eq (e _ _) (by simp), es]
    rfl
  have h1 : ∀ (v w : A) (l : List Ob), setIA "NodeTable" "entries" v (.ref st.length) (st ++ (.oth (.ins "NodeTable" [("numbers", w)])) :: l) = some (st ++ (.oth (.ins "NodeTable" [("numbers", w), ("entries", v)])) :: l) := fun v w l => by
    rw [setIA_eq (e _ _) (by simp), es]
    rfl
  have h2 : ∀ (v w u : A) (l : List Ob), setIA "NodeTable" "codes" v (.ref st.length) (st ++ (.oth (.ins "NodeTable" [("numbers", w), ("entries", u)])) :: l) = some (st ++ (.oth (.ins "NodeTable" [("numbers", w), ("entries", u), ("codes", v)])) :: l) := fun v w u l => by
    rw [setIA_eq (e _ _) (by simp), es]
    rfl
  have h3 : ∀ (v w u x : A) (l : List Ob), setIA "NodeTable" "sizes" v (.ref st.length) (st ++ (.oth (.ins "NodeTable" [("numbers", w), ("entries", u), ("codes", x)])) :: l) = some (st ++ (.oth (.ins "NodeTable" [("numbers", w), ("entries", u), ("codes", x), ("sizes", v)])) :: l) := fun v w u x l => by
    rw [setIA_eq (e _ _) (by simp), es]
    rfl
  simp only [List.map_cons, List.map_nil, List.cons_append, List.nil_append, List.replicate, Nat.reduceSub, sp_seq, sp_putf, wp_dnew, wp_lst, wp_nil, wp_var, List.getElem?_cons_zero, Option.some.injEq, ex_eq, List.append_assoc, h0, h1, h2, h3, List.length_nil, Nat.zero_le, true_and, el, List.length_cons]
  refine k _ (.grown ⟨_, rfl⟩) ⟨⟨List.nodup_nil, by simp⟩, by intro i n h; simp at h, by simp, e _ _, ?_, ?_, ?_, ?_⟩
  · unfold ML.stD
    rw [List.getElem?_append_right (by omega), show st.length + 1 - st.length = 1 by omega]
    rfl
  · refine stL_of ?_
    rw [List.getElem?_append_right (by omega), show st.length + 2 - st.length = 2 by omega]
    rfl
  · refine stL_of ?_
    rw [List.getElem?_append_right (by omega), show st.length + 3 - st.length = 3 by omega]
    rfl
  · refine stL_of ?_
    rw [List.getElem?_append_right (by omega), show st.length + 4 - st.length = 4 by omega]
    rfl
structure IsTop (ns : List Nd) (j : Nat) (root : Nd) : Prop where
  ne : ∀ i, i ≤ j → lv ns i ≠ []
  nil : lv ns (j + 1) = []
  it : itms (lv ns j) = [root]
theorem itms_ne {ns : List Nd} (h : ns ≠ []) : itms ns ≠ [] := fun e => by
  unfold itms at e
  exact grp_ne h (List.map_eq_nil_iff.mp e)
theorem upN_ne {xs : List Nd} (h : Row xs) (hx : xs ≠ []) : upN xs ≠ [] := fun e => by
  unfold upN at e
  have e2 := List.map_eq_nil_iff.mp e
  have := prts_flat h
  rw [e2] at this
  exact hx this.symm
theorem top_of {xs : List A} (hx : ∀ x ∈ xs, El x) (hl : xs.length ≤ 2000) {j : Nat} (hne : ∀ i, i ≤ j → lv (xs.map .leaf) i ≠ []) (hj : lv (xs.map .leaf) (j + 1) = []) : ∃ root, IsTop (xs.map .leaf) j root := by
  have hk := lv_ok hx hl j
  have h0 := hne j (Nat.le_refl _)
  have h10 := few_levels hk hl h0
  have hR := hk.row hl (by omega)
  have hi := itms_ne h0
  have hj' : nxt (lv (xs.map .leaf) j) = [] := hj
  unfold nxt at hj'
  split at hj'
  · exact absurd hj' (upN_ne hR hi)
  · rename_i h1
    cases e : itms (lv (xs.map .leaf) j) with
    | nil => exact absurd e hi
    | cons r rest =>
      rw [e] at h1
      cases rest with
      | nil => exact ⟨r, hne, hj, e⟩
      | cons a b => simp at h1
theorem IsTop.uniq {ns : List Nd} {i j : Nat} {a b : Nd} (h : IsTop ns i a) (k : IsTop ns j b) : i = j ∧ a = b := by
  have e : i = j := by
    rcases Nat.lt_trichotomy i j with q | q | q
    · exact absurd h.nil (k.ne (i + 1) (by omega))
    · exact q
    · exact absurd k.nil (h.ne (j + 1) (by omega))
  subst e
  have := h.it
  rw [k.it] at this
  exact ⟨rfl, (List.cons.inj this).1.symm⟩
theorem add_tree_wp {f0 : List Nd} {xs : List A} {t : Nat} {st : Store} {Q : A → Store → Prop} (hT : Tab f0 t st) (hx : ∀ x ∈ xs, El x) (hl : xs.length ≤ 2000) (hf : f0.length ≤ 500000)
    (k0 : xs = [] → ∀ st', FrT t st st' → Tab f0 t st' → Q .non st') (k : ∀ j root st', IsTop (xs.map .leaf) j root → FrT t st st' → Tab (tabF f0 (xs.map .leaf) (j + 1)) t st' → Q (numA (tabF f0 (xs.map .leaf) (j + 1)) root) st') : (m_add_tree [.ref t, .tup xs] st).wp Q := by
  simp only [m_add_tree]
  have GW := @grow_wp
  generalize hG : @m_grow = G at GW ⊢
  rw [wp_fn]
  refine ⟨rfl, ?_⟩
  simp only [List.map_cons, List.map_nil, List.cons_append, List.nil_append, List.replicate, Nat.reduceSub]
  refine seq_cut (fun ρ st1 => ∃ q rs r j, GrSt f0 (xs.map .leaf) t q st j rs r st1 ∧ lv (xs.map .leaf) j = [] ∧ ρ = [some (.ref t), some (.tup xs), some (.ref q)]) ?_ ?_
  · simp only [sp_set, wp_call, wp_cons, wp_nil, wp_var, List.getElem?_cons_succ, List.getElem?_cons_zero, Option.some.injEq, ex_eq, List.set_cons_succ, List.set_cons_zero]
    exact GW hT hx hl hf fun q rs r j st1 S hj => ⟨q, rs, r, j, S, hj, rfl⟩
  rintro ρ st1 ⟨q, rs, r, j, S, hj, rfl⟩
  simp only [sp_seq, sp_ifs, wp_not, wp_tru, wp_var, List.getElem?_cons_succ, List.getElem?_cons_zero, Option.some.injEq, ex_eq, w_truL, S.hq, List.isEmpty_map]
  cases j with
  | zero =>
    have hx0 : xs = [] := List.map_eq_nil_iff.mp (show xs.map Nd.leaf = [] from hj)
    simp only [List.range_zero, List.isEmpty_nil, Bool.not_true, Bool.not_false, if_true, sp_ret, wp_c]
    refine k0 hx0 st1 S.fr ?_
    have := S.tb
    simp only [tabF] at this
    rw [hx0] at this
    exact this
  | succ j =>
    obtain ⟨root, hroot⟩ := top_of hx hl (fun i hi => S.ne i (by omega)) hj
    have e : (List.range (j + 1)).isEmpty = false := by rw [List.range_succ]; simp
    have elast : atI ((List.range (j + 1)).map fun i => LvA (tabF f0 (xs.map .leaf) (j + 1)) (xs.map .leaf) (rs.getD i 0) i) (-1) = some (LvA (tabF f0 (xs.map .leaf) (j + 1)) (xs.map .leaf) (rs.getD j 0) j) := by
      unfold atI
      have : ixN ((List.range (j + 1)).map fun i => LvA (tabF f0 (xs.map .leaf) (j + 1)) (xs.map .leaf) (rs.getD i 0) i).length (-1) = some j := by
        unfold ixN
        rw [if_neg (by decide), List.length_map, List.length_range, if_pos (by omega)]
        congr 1
        omega
      rw [this]
      show ((List.range (j + 1)).map _)[j]? = _
      rw [List.getElem?_map, List.getElem?_range (by omega)]
      rfl
    have i1 : ∀ a b c d : A, atI [a, b, c, d] 1 = some b := fun _ _ _ _ => rfl
    have i0 : ∀ a : A, atI [a] 0 = some a := fun _ => rfl
    simp only [e, Bool.not_true, Bool.not_false, Bool.false_eq_true, if_false, sp_next, sp_ret, wp_bin, wp_un, wp_var, wp_c, w_neg, List.getElem?_cons_succ, List.getElem?_cons_zero, Option.some.injEq, ex_eq, w_ixL, S.hq, elast]
    unfold LvA
    rw [hroot.it]
    simp only [w_ixT, i1, i0, List.map_cons, List.map_nil, Option.some.injEq, ex_eq]
    exact k j root st1 hroot S.fr S.tb
end Law
namespace Law
open PySem L2 ML
def m_law_contents : MF := mFn 9 2 (mSeq (mSet 2 (mLc (mRng (mCons (mBin addA (mC (.int 1)) (mCall m_law_draw (mCons (mVar 0) (mCons (mC (.int 5)) mNil)))) mNil)) (.one 4) [4] mYes (mCall m_law_element (mCons (mVar 0) mNil))))
    (mSeq (mSet 3 (mLst mNil))
    (mSeq (mFor (mRng (mCons (mCall m_law_draw (mCons (mVar 0) (mCons (mC (.int 10)) mNil))) mNil)) (.one 4) (mSeq (mSet 5 (mCall m_law_draw (mCons (mVar 0) (mCons (mC (.int 5)) mNil))))
    (mIfS (mGB (mBin eqA (mVar 5) (mC (.int 0)))) (mSet 3 (mBin addA (mVar 3) (mBin mulA (mLst (mCons (mBin ixA (mVar 2) (mCall m_law_draw (mCons (mVar 0) (mCons (mCa lenA (mCons (mVar 2) mNil)) mNil)))) mNil)) (mBin addA (mC (.int 1)) (mCall m_law_draw (mCons (mVar 0) (mCons (mC (.int 9)) mNil))))))) (mIfS (mGB (mBin eqA (mVar 5) (mC (.int 1)))) (mSeq (mSet 6 (mCall m_law_draw (mCons (mVar 0) (mCons (mC (.int 30)) mNil))))
    (mSet 3 (mBin addA (mVar 3) (mLc (mRng (mCons (mBin addA (mC (.int 1)) (mCall m_law_draw (mCons (mVar 0) (mCons (mC (.int 14)) mNil)))) mNil)) (.one 8) [8] mYes (mBin addA (mVar 6) (mVar 8)))))) (mIfS (mGB (mBin eqA (mVar 5) (mC (.int 2)))) (mSeq (mSet 7 (mCall m_law_draw (mCons (mVar 0) (mCons (mBin addA (mCa lenA (mCons (mVar 3) mNil)) (mC (.int 1))) mNil))))
    (mSet 3 (mBin addA (mVar 3) (mSl (mVar 3) (mPart (mVar 7)) (mPart (mBin addA (mBin addA (mVar 7) (mC (.int 1))) (mCall m_law_draw (mCons (mVar 0) (mCons (mC (.int 20)) mNil))))))))) (mIfS (mGB (mBin eqA (mVar 5) (mC (.int 3)))) (mSet 3 (mBin addA (mVar 3) (mBin mulA (mBin addA (mSl (mVar 3) (mPart (mUn negA (mC (.int 2)))) mNoPart) (mLst (mCons (mBin ixA (mVar 2) (mCall m_law_draw (mCons (mVar 0) (mCons (mCa lenA (mCons (mVar 2) mNil)) mNil)))) mNil))) (mBin addA (mC (.int 1)) (mCall m_law_draw (mCons (mVar 0) (mCons (mC (.int 6)) mNil))))))) (mSet 3 (mBin addA (mVar 3) (mLc (mRng (mCons (mBin addA (mC (.int 1)) (mCall m_law_draw (mCons (mVar 0) (mCons (mC (.int 6)) mNil)))) mNil)) (.one 8) [8] mYes (mBin ixA (mVar 2) (mCall m_law_draw (mCons (mVar 0) (mCons (mCa lenA (mCons (mVar 2) mNil)) mNil)))))))))))))
    (mRet (mSl (mVar 3) mNoPart (mPart (mVar 1)))))))
theorem pick23_wp {q : Nat} {ps : List A} {st : Store} {Q : A → Store → Prop} (t : TpOk st) (hq : 1 < q) (hp : stL st q = some ps) (he : ∀ x ∈ ps, El x) (h1 : 1 ≤ ps.length) (h2 : ps.length ≤ 1000) (k : ∀ (x : A) st', El x → TpOk st' → Kp st st' → Q x st') :
    (m_law_draw [.ref 1, .int ps.length] st).wp fun a st1 => (ixA (.ref q) a st1).wp Q := by
  refine draw_wp t (by omega) fun n st1 na nb t1 k1 l1 => ?_
  rw [w_ixL]
  have hn : n.toNat < ps.length := by omega
  refine ⟨ps, k1.stL hq hp, ps[n.toNat], ?_, k _ _ (he _ (List.getElem_mem hn)) t1 k1⟩
  rw [atI_nn na]
  exact List.getElem?_eq_getElem hn
def Ct23I (most : Int) (q : Nat) (ps : List A) (st0 : Store) (i : Nat) (ρ : ML.Env) (st : Store) : Prop := ∃ (w : Nat) (xs : List A) (v4 v5 v6 v7 : Option A), TpOk st ∧ Kp st0 st ∧ stL st q = some ps ∧ st0.length ≤ w ∧ stL st w = some xs ∧ (∀ x ∈ xs, El x) ∧ xs.length ≤ 20 * i ∧ ρ = [some (.ref 1), some (.int most), some (.ref q), some (.ref w), v4, v5, v6, v7, none]
theorem mem_rep23 {x : A} {xs : List A} {n : Nat} (h : x ∈ (List.replicate n xs).flatten) : x ∈ xs := by
  rw [List.mem_flatten] at h
  obtain ⟨l, h1, h2⟩ := h
  rw [List.mem_replicate] at h1
  rw [h1.2] at h2
  exact h2
theorem cut_mem23 {x : A} {xs : List A} {lo hi : Option Int} (h : x ∈ cutA xs lo hi) : x ∈ xs := by
  unfold cutA at h
  exact List.mem_of_mem_drop (List.mem_of_mem_take h)
theorem cut_le23 {xs : List A} {lo hi : Option Int} : (cutA xs lo hi).length ≤ xs.length := by
  unfold cutA
  simp
  omega
theorem conts_wp {most : Int} {st : Store} {Q : A → Store → Prop} (t : TpOk st) (h0 : 0 ≤ most) (h1 : most ≤ 100000) (k : ∀ (r : Nat) (xs : List A) st', (∀ x ∈ xs, El x) → xs.length ≤ most.toNat → xs.length ≤ 200 → TpOk st' → Kp st st' → st.length ≤ r → stL st' r = some xs → Q (.ref r) st') : (m_law_contents [.ref 1, .int most] st).wp Q := by
  simp only [m_law_contents]
  rw [wp_fn]
  refine ⟨rfl, ?_⟩
  simp only [List.map_cons, List.map_nil, List.cons_append, List.nil_append, List.replicate, Nat.reduceSub]
  have hlen := t.len
  generalize hF : @mFor = F
  generalize hM : @mulA = M
  generalize hL : @mLc = L
  refine seq_cut (fun ρ st' => ∃ q ps, TpOk st' ∧ Kp st st' ∧ st.length ≤ q ∧ stL st' q = some ps ∧ (∀ x ∈ ps, El x) ∧ 1 ≤ ps.length ∧ ps.length ≤ 6 ∧ ρ = [some (.ref 1), some (.int most), some (.ref q), none, none, none, none, none, none]) ?_ ?_
  · subst hL
    simp only [sp_set, wp_lc, wp_rng, wp_bin, wp_call, wp_cons, wp_nil, wp_var, wp_c, List.getElem?_cons_succ, List.getElem?_cons_zero, Option.some.injEq, ex_eq, List.set_cons_zero, List.set_cons_succ, wipeA_cons, wipeA_nil]
    refine draw_wp t (by decide) fun n st1 na nb t1 k1 l1 => ?_
    rw [w_add, w_rng1]
    refine ⟨by omega, ?_⟩
    refine lc_rng (fun j st' acc => TpOk st' ∧ Kp st st' ∧ acc.length = j ∧ ∀ x ∈ acc, El x) ⟨t1, k1, rfl, by simp⟩ ?_ ?_
    · rintro j st' acc hj ⟨t', k', l', a'⟩
      refine ⟨_, rfl, ?_⟩
      simp only [wp_yes, if_true, wp_call, wp_cons, wp_nil, wp_var, List.set_cons_zero, List.set_cons_succ, List.getElem?_cons_succ, List.getElem?_cons_zero, Option.some.injEq, ex_eq]
      refine element_wp t' fun x st2 hx t2 k2 => ⟨by rw [size_eq]; omega, t2, k'.trans k2, by simp [l'], ?_⟩
      intro y hy
      rcases List.mem_append.mp hy with h | h
      · exact a' y h
      · simp at h
        subst h
        exact hx
    · rintro st' acc ⟨t', k', l', a'⟩
      exact ⟨st'.length, acc, t'.grown (.one _ _), k'.trans (Kp.grown (.one _ _)), k'.len, stL_new, a', by omega, by omega, rfl⟩
  rintro ρ st1 ⟨q, ps, t1, k1, q1, hq, pe, p1, p2, rfl⟩
  refine seq_cut (Ct23I most q ps st 0) ?_ ?_
  · simp only [sp_set, wp_lst, wp_nil, List.set_cons_zero, List.set_cons_succ]
    refine ⟨by simp [sizeLine], st1.length, [], none, none, none, none, t1.grown (.one _ _), k1.trans (Kp.grown (.one _ _)), Grown.stL (.one _ _) hq, k1.len, stL_new, by simp, by simp, rfl⟩
  rintro ρ st2 ⟨w, xs, v4, v5, v6, v7, t2, k2, hq2, w2, hw2, xe, xl, rfl⟩
  have q0 : 1 < q := by omega
  refine seq_cut (Ct23I most q ps st 9) ?_ ?_
  · subst hF
    simp only [sp_for, wp_rng, wp_call, wp_cons, wp_nil, wp_var, wp_c, List.getElem?_cons_succ, List.getElem?_cons_zero, Option.some.injEq, ex_eq]
    refine draw_wp t2 (by decide) fun n st3 na nb t3 k3 l3 => ?_
    rw [w_rng1]
    refine ⟨by omega, ?_⟩
    refine for_rng (Ct23I most q ps st) ⟨w, xs, v4, v5, v6, v7, t3, k2.trans k3, k3.stL q0 hq2, w2, k3.stL (by omega) hw2, xe, by omega, rfl⟩ ?_ ?_
    · rintro i ρ st4 hi ⟨w, xs, v4, v5, v6, v7, t4, k4, hq4, w4, hw4, xe, xl, rfl⟩
      refine ⟨_, rfl, ?_⟩
      simp only [List.set_cons_succ, List.set_cons_zero]
      have w0 : 1 < w := by omega
      have fin : ∀ (ys : List A) (st5 : Store) (v4 v5 v6 v7 : Option A) (w5 : Nat), TpOk st5 → Kp st4 st5 → (∀ y ∈ ys, El y) → ys.length ≤ 20 → Ct23I most q ps st (i + 1) [some (.ref 1), some (.int most), some (.ref q), some (.ref st5.length), v4, v5, v6, v7, none] (st5 ++ [.lst (xs ++ ys)]) := fun ys st5 v4 v5 v6 v7 w5 t5 k5 ye yl => by
        refine ⟨st5.length, xs ++ ys, v4, v5, v6, v7, t5.grown (.one _ _), (k4.trans k5).trans (Kp.grown (.one _ _)), Grown.stL (.one _ _) (k5.stL q0 hq4), (k4.trans k5).len, stL_new, ?_, ?_, rfl⟩
        · intro y hy
          rcases List.mem_append.mp hy with h | h
          · exact xe y h
          · exact ye y h
        · simp
          omega
      refine seq_cut (fun ρ st5 => ∃ c : Int, TpOk st5 ∧ Kp st4 st5 ∧ ρ = [some (.ref 1), some (.int most), some (.ref q), some (.ref w), some (.int (0 + (i : Int))), some (.int c), v6, v7, none]) ?_ ?_
      · simp only [sp_set, wp_call, wp_cons, wp_nil, wp_var, wp_c, List.getElem?_cons_succ, List.getElem?_cons_zero, Option.some.injEq, ex_eq, List.set_cons_zero, List.set_cons_succ]
        exact draw_wp t4 (by decide) fun c st5 ca cb t5 k5 l5 => ⟨c, t5, k5, rfl⟩
      rintro ρ st5 ⟨c, t5, k5, rfl⟩
      have hq5 := k5.stL q0 hq4
      have hw5 := k5.stL w0 hw4
      have hl5 := k5.len
      subst hM
      subst hL
      simp only [sp_ifs, wp_gb, wp_bin, wp_var, wp_c, List.getElem?_cons_succ, List.getElem?_cons_zero, Option.some.injEq, ex_eq, w_eq, w_getB, decide_eq_true_eq]
      by_cases c0 : c = 0
      · rw [if_pos c0]
        simp only [sp_set, wp_bin, wp_lst, wp_call, wp_ca, wp_cons, wp_nil, wp_var, wp_c, List.getElem?_cons_succ, List.getElem?_cons_zero, Option.some.injEq, ex_eq, List.set_cons_zero, List.set_cons_succ, w_lenL, hq5]
        refine pick23_wp t5 q0 hq5 pe p1 (by omega) fun x st6 hx t6 k6 => ?_
        refine ⟨by simp [sizeLine], ?_⟩
        have g7 : Grown st6 (st6 ++ [.lst [x]]) := .one _ _
        refine draw_wp (t6.grown g7) (by decide) fun m st8 ma mb t8 k8 l8 => ?_
        have z8 : stL st8 st6.length = some [x] := k8.stL (by have := t6.len; omega) stL_new
        have hw8 := k8.stL w0 (g7.stL (k6.stL w0 hw5))
        rw [w_add, w_mulL, z8]
        refine ⟨_, rfl, ⟨by omega, by omega, by rw [size_eq]; simp; omega⟩, ?_⟩
        rw [w_addL, stL_new]
        refine ⟨xs, Grown.stL (.one _ _) hw8, _, rfl, by rw [size_eq]; simp; omega, ?_⟩
        refine fin _ _ _ _ _ _ 0 (t8.grown (.one _ _)) (((k5.trans k6).trans (Kp.grown g7)).trans (k8.trans (Kp.grown (.one _ _)))) ?_ (by simp; omega)
        intro y hy
        have := mem_rep23 hy
        simp at this
        subst this
        exact hx
      · rw [if_neg c0]
        by_cases c1 : c = 1
        · rw [if_pos c1]
          simp only [sp_seq, sp_set, wp_bin, wp_lst, wp_call, wp_ca, wp_cons, wp_nil, wp_var, wp_c, wp_lc, wp_rng, List.getElem?_cons_succ, List.getElem?_cons_zero, Option.some.injEq, ex_eq, List.set_cons_zero, List.set_cons_succ, wipeA_cons, wipeA_nil]
          refine draw_wp t5 (by decide) fun s st6 sa sb t6 k6 l6 => ?_
          refine draw_wp t6 (by decide) fun m st7 ma mb t7 k7 l7 => ?_
          rw [w_add, w_rng1]
          refine ⟨by omega, ?_⟩
          refine lc_rng (fun j st' acc => st' = st7 ∧ acc.length = j ∧ ∀ x ∈ acc, El x) ⟨rfl, rfl, by simp⟩ ?_ ?_
          · rintro j st' acc hj ⟨rfl, l', a'⟩
            refine ⟨_, rfl, ?_⟩
            simp only [wp_yes, if_true, wp_bin, wp_var, List.set_cons_zero, List.set_cons_succ, List.getElem?_cons_succ, List.getElem?_cons_zero, Option.some.injEq, ex_eq, w_add]
            refine ⟨by rw [size_eq]; omega, trivial, by simp [l'], ?_⟩
            intro y hy
            rcases List.mem_append.mp hy with h | h
            · exact a' y h
            · simp at h
              subst h
              exact .inl (.inr ⟨_, rfl, by omega, by omega⟩)
          · rintro st' acc ⟨rfl, l', a'⟩
            have hw7 := k7.stL w0 (k6.stL w0 hw5)
            rw [w_addL, stL_new]
            refine ⟨xs, Grown.stL (.one _ _) hw7, _, rfl, by rw [size_eq]; omega, ?_⟩
            exact fin _ _ _ _ _ _ 0 (t7.grown (.one _ _)) (((k5.trans k6).trans k7).trans (Kp.grown (.one _ _))) a' (by omega)
        · rw [if_neg c1]
          by_cases c2 : c = 2
          · rw [if_pos c2]
            simp only [sp_seq, sp_set, wp_bin, wp_sl, wp_part, wp_call, wp_ca, wp_cons, wp_nil, wp_var, wp_c, List.getElem?_cons_succ, List.getElem?_cons_zero, Option.some.injEq, ex_eq, List.set_cons_zero, List.set_cons_succ, w_lenL, hw5, w_add]
            refine draw_wp t5 (by omega) fun s st6 sa sb t6 k6 l6 => ?_
            simp only [w_getI]
            refine draw_wp t6 (by decide) fun m st7 ma mb t7 k7 l7 => ?_
            have hw7 := k7.stL w0 (k6.stL w0 hw5)
            simp only [w_add, w_getI, w_slL, hw7, Option.some.injEq, ex_eq]
            rw [w_addL, stL_new]
            have cl : (cutA xs (some s) (some (s + 1 + m))).length ≤ 20 := by
              have n1 : ¬ s < 0 := by omega
              have n2 : ¬ s + 1 + m < 0 := by omega
              unfold cutA
              simp [HT.sIx, n1, n2]
              omega
            refine ⟨xs, Grown.stL (.one _ _) hw7, _, rfl, by rw [size_eq]; omega, ?_⟩
            exact fin _ _ _ _ _ _ 0 (t7.grown (.one _ _)) (((k5.trans k6).trans k7).trans (Kp.grown (.one _ _))) (fun y hy => xe y (cut_mem23 hy)) cl
          · rw [if_neg c2]
            by_cases c3 : c = 3
            · rw [if_pos c3]
              simp only [sp_set, wp_bin, wp_un, wp_sl, wp_part, wp_noPart, wp_lst, wp_call, wp_ca, wp_cons, wp_nil, wp_var, wp_c, List.getElem?_cons_succ, List.getElem?_cons_zero, Option.some.injEq, ex_eq, List.set_cons_zero, List.set_cons_succ, w_neg, w_getI, w_slL, hw5]
              obtain ⟨s6, e6⟩ : ∃ s : Store, s = st5 ++ [.lst (cutA xs (some (-2)) none)] := ⟨_, rfl⟩
              have g6 : Grown st5 s6 := e6 ▸ .one _ _
              have z6 : stL s6 st5.length = some (cutA xs (some (-2)) none) := e6 ▸ stL_new
              rw [← e6]
              have hq6 := g6.stL hq5
              simp only [w_lenL, hq6, Option.some.injEq, ex_eq]
              have cl : (cutA xs (some (-2)) none).length ≤ 2 := by
                unfold cutA
                simp [HT.sIx]
                omega
              refine pick23_wp (t5.grown g6) q0 hq6 pe p1 (by omega) fun x st7 hx t7 k7 => ?_
              refine ⟨by simp [sizeLine], ?_⟩
              have g8 : Grown st7 (st7 ++ [.lst [x]]) := .one _ _
              have z8 := g8.stL (k7.stL (by have := t5.len; omega) z6)
              rw [w_addL, z8, stL_new]
              refine ⟨_, rfl, _, rfl, by rw [size_eq]; simp; omega, ?_⟩
              obtain ⟨s9, e9⟩ : ∃ s : Store, s = st7 ++ [.lst [x]] ++ [.lst (cutA xs (some (-2)) none ++ [x])] := ⟨_, rfl⟩
              have g9 : Grown (st7 ++ [.lst [x]]) s9 := e9 ▸ .one _ _
              have z9 : stL s9 (st7 ++ [Ob.lst [x]]).length = some (cutA xs (some (-2)) none ++ [x]) := e9 ▸ stL_new
              rw [← e9]
              have n9 : 1 < (st7 ++ [Ob.lst [x]]).length := by have := t7.len; simp; omega
              refine draw_wp ((t7.grown g8).grown g9) (by decide) fun m st10 ma mb t10 k10 l10 => ?_
              have hw10 := k10.stL w0 (g9.stL (g8.stL (k7.stL w0 (g6.stL hw5))))
              rw [w_add, w_mulL, k10.stL n9 z9]
              refine ⟨_, rfl, ⟨by omega, by omega, ?_⟩, ?_⟩
              · rw [size_eq, List.length_append]
                have : (1 + m).toNat ≤ 6 := by omega
                have h3 : (cutA xs (some (-2)) none).length + [x].length ≤ 3 := by simp; omega
                have := Nat.mul_le_mul h3 this
                omega
              rw [w_addL, stL_new]
              have hlen3 : ((List.replicate (1 + m).toNat (cutA xs (some (-2)) none ++ [x])).flatten).length ≤ 18 := by
                have h6 : (1 + m).toNat ≤ 6 := by omega
                have h3 : (cutA xs (some (-2)) none ++ [x]).length ≤ 3 := by simp; omega
                rw [List.length_flatten, List.map_replicate, List.sum_replicate_nat]
                exact Nat.mul_le_mul h6 h3
              refine ⟨xs, Grown.stL (.one _ _) hw10, _, rfl, by rw [size_eq]; omega, ?_⟩
              refine fin _ _ _ _ _ _ 0 (t10.grown (.one _ _)) ((k5.trans (Kp.grown g6)).trans (k7.trans ((Kp.grown g8).trans ((Kp.grown g9).trans (k10.trans (Kp.grown (.one _ _))))))) ?_ (by omega)
              intro y hy
              have := mem_rep23 hy
              rcases List.mem_append.mp this with h | h
              · exact xe y (cut_mem23 h)
              · simp at h
                subst h
                exact hx
            · rw [if_neg c3]
              simp only [sp_set, wp_bin, wp_call, wp_ca, wp_cons, wp_nil, wp_var, wp_c, wp_lc, wp_rng, List.getElem?_cons_succ, List.getElem?_cons_zero, Option.some.injEq, ex_eq, List.set_cons_zero, List.set_cons_succ, wipeA_cons, wipeA_nil]
              refine draw_wp t5 (by decide) fun m st6 ma mb t6 k6 l6 => ?_
              rw [w_add, w_rng1]
              refine ⟨by omega, ?_⟩
              refine lc_rng (fun j st' acc => TpOk st' ∧ Kp st6 st' ∧ acc.length = j ∧ ∀ x ∈ acc, El x) ⟨t6, .refl _, rfl, by simp⟩ ?_ ?_
              · rintro j st' acc hj ⟨t', k', l', a'⟩
                refine ⟨_, rfl, ?_⟩
                have hq' := k'.stL q0 (k6.stL q0 hq5)
                simp only [wp_yes, if_true, wp_bin, wp_call, wp_ca, wp_cons, wp_nil, wp_var, List.set_cons_zero, List.set_cons_succ, List.getElem?_cons_succ, List.getElem?_cons_zero, Option.some.injEq, ex_eq, w_lenL, hq']
                refine pick23_wp t' q0 hq' pe p1 (by omega) fun x st7 hx t7 k7 => ?_
                refine ⟨by rw [size_eq]; omega, t7, k'.trans k7, by simp [l'], ?_⟩
                intro y hy
                rcases List.mem_append.mp hy with h | h
                · exact a' y h
                · simp at h
                  subst h
                  exact hx
              · rintro st' acc ⟨t', k', l', a'⟩
                have hw7 := k'.stL w0 (k6.stL w0 hw5)
                rw [w_addL, stL_new]
                refine ⟨xs, Grown.stL (.one _ _) hw7, _, rfl, by rw [size_eq]; omega, ?_⟩
                exact fin _ _ _ _ _ _ 0 (t'.grown (.one _ _)) (((k5.trans k6).trans k').trans (Kp.grown (.one _ _))) a' (by omega)
    · rintro ρ st4 ⟨w, xs, v4, v5, v6, v7, t4, k4, hq4, w4, hw4, xe, xl, rfl⟩
      exact ⟨w, xs, v4, v5, v6, v7, t4, k4, hq4, w4, hw4, xe, by omega, rfl⟩
  rintro ρ st3 ⟨w, xs, v4, v5, v6, v7, t3, k3, hq3, w3, hw3, xe, xl, rfl⟩
  simp only [sp_ret, wp_sl, wp_part, wp_noPart, wp_var, List.getElem?_cons_succ, List.getElem?_cons_zero, Option.some.injEq, ex_eq, w_getI, w_slL, hw3]
  have cl := cut_le23 (xs := xs) (lo := none) (hi := some most)
  have cm : (cutA xs none (some most)).length ≤ most.toNat := by
    have n1 : ¬ most < 0 := by omega
    unfold cutA
    simp [HT.sIx, n1]
    omega
  exact k _ _ _ (fun y hy => xe y (cut_mem23 hy)) cm (by omega) (t3.grown (.one _ _)) (k3.trans (Kp.grown (.one _ _))) k3.len stL_new
end Law
namespace Law
open PySem L2 ML
def m_law_spread : MF := mFn 3 1 (mSeq (mSet 1 (mCall m_law_contents (mCons (mVar 0) (mCons (mC (.int 60)) mNil))))
    (mSeq (mSet 2 (mCall m_law_draw (mCons (mVar 0) (mCons (mC (.int 8)) mNil))))
    (mSeq (mIfS (mGB (mBin ltA (mVar 2) (mC (.int 4)))) (mSet 1 (mBin addA (mBin addA (mVar 1) (mCall m_law_large (mCons (mVar 0) (mCons (mBin addA (mC (.int 30)) (mCall m_law_draw (mCons (mVar 0) (mCons (mC (.int 60)) mNil)))) mNil)))) (mSl (mVar 1) mNoPart (mPart (mC (.int 20)))))) mNext)
    (mSeq (mIfS (mGB (mBin eqA (mVar 2) (mC (.int 4)))) (mSet 1 (mBin addA (mCall m_law_large (mCons (mVar 0) (mCons (mBin addA (mC (.int 150)) (mCall m_law_draw (mCons (mVar 0) (mCons (mC (.int 250)) mNil)))) mNil))) (mVar 1))) mNext)
    (mSeq (mIfS (mGB (mBin eqA (mVar 2) (mC (.int 5)))) (mSet 1 (mBin addA (mBin addA (mVar 1) (mSl (mVar 1) (mPart (mC (.int 5))) mNoPart)) (mVar 1))) mNext)
    (mSeq (mIfS (mGB (mBin eqA (mVar 2) (mC (.int 6)))) (mSet 1 (mBin addA (mCall m_law_large (mCons (mVar 0) (mCons (mBin addA (mC (.int 400)) (mCall m_law_draw (mCons (mVar 0) (mCons (mC (.int 600)) mNil)))) mNil))) (mVar 1))) mNext)
    (mRet (mVar 1))))))))
theorem ints_el {ns : List Int} (h : ∀ n ∈ ns, 0 ≤ n ∧ n < 1000000) : ∀ x ∈ ns.map A.int, El x := fun x hx => by
  obtain ⟨n, hn, rfl⟩ := List.mem_map.mp hx
  exact el_int (h n hn).1 (h n hn).2
def SpI (m : Nat) (c : Int) (st0 : Store) (ρ : ML.Env) (st : Store) : Prop := ∃ (r : Nat) (xs : List A), TpOk st ∧ Kp st0 st ∧ 1 < r ∧ stL st r = some xs ∧ (∀ x ∈ xs, El x) ∧ xs.length ≤ m ∧ ρ = [some (.ref 1), some (.ref r), some (.int c)]
theorem el_app {xs ys : List A} (hx : ∀ x ∈ xs, El x) (hy : ∀ y ∈ ys, El y) : ∀ z ∈ xs ++ ys, El z := fun z hz => by
  rcases List.mem_append.mp hz with h | h
  · exact hx z h
  · exact hy z h
theorem spread_wp {st : Store} {Q : A → Store → Prop} (t : TpOk st) (k : ∀ (r : Nat) (xs : List A) st', TpOk st' → Kp st st' → 1 < r → stL st' r = some xs → (∀ x ∈ xs, El x) → xs.length ≤ 2000 → Q (.ref r) st') : (m_law_spread [.ref 1] st).wp Q := by
  simp only [m_law_spread]
  have CW := @conts_wp
  have LW := @large_wp
  generalize hC : @m_law_contents = C at CW ⊢
  generalize hL : @m_law_large = L at LW ⊢
  rw [wp_fn]
  refine ⟨rfl, ?_⟩
  simp only [List.map_cons, List.map_nil, List.cons_append, List.nil_append, List.replicate, Nat.reduceSub]
  refine seq_cut (fun ρ st1 => ∃ (r : Nat) (xs : List A), TpOk st1 ∧ Kp st st1 ∧ 1 < r ∧ stL st1 r = some xs ∧ (∀ x ∈ xs, El x) ∧ xs.length ≤ 60 ∧ ρ = [some (.ref 1), some (.ref r), none]) ?_ ?_
  · simp only [sp_set, wp_call, wp_cons, wp_nil, wp_var, wp_c, List.getElem?_cons_succ, List.getElem?_cons_zero, Option.some.injEq, ex_eq, List.set_cons_zero, List.set_cons_succ]
    exact CW t (by decide) (by decide) fun r xs st1 he hl hl2 t1 k1 hr hx => ⟨r, xs, t1, k1, by have := t.len; omega, hx, he, by simpa using hl, rfl⟩
  rintro ρ st1 ⟨r, xs, t1, k1, r1, hr, hx, hl, rfl⟩
  refine seq_cut (fun ρ st2 => ∃ c : Int, 0 ≤ c ∧ c < 8 ∧ SpI 60 c st ρ st2) ?_ ?_
  · simp only [sp_set, wp_call, wp_cons, wp_nil, wp_var, wp_c, List.getElem?_cons_succ, List.getElem?_cons_zero, Option.some.injEq, ex_eq, List.set_cons_zero, List.set_cons_succ]
    exact draw_wp t1 (by decide) fun c st2 ca cb t2 k2 l2 => ⟨c, ca, by omega, r, xs, t2, k1.trans k2, r1, k2.stL r1 hr, hx, hl, rfl⟩
  clear hr hx hl r1 k1 t1 xs r st1
  rintro ρ st1 ⟨c, c0, c1, r, xs, t1, k1, r1, hr, hx, hl, rfl⟩
  refine seq_cut (fun ρ st2 => SpI 180 c st ρ st2 ∧ (4 ≤ c → SpI 60 c st ρ st2)) ?_ ?_
  · simp only [sp_ifs, wp_gb, wp_bin, wp_var, wp_c, List.getElem?_cons_succ, List.getElem?_cons_zero, Option.some.injEq, ex_eq, w_lt, w_getB, decide_eq_true_eq]
    split
    · rename_i hc
      simp only [sp_set, wp_bin, wp_sl, wp_noPart, wp_part, wp_call, wp_cons, wp_nil, wp_var, wp_c, List.getElem?_cons_succ, List.getElem?_cons_zero, Option.some.injEq, ex_eq, List.set_cons_zero, List.set_cons_succ]
      refine draw_wp t1 (by decide) fun n st2 na nb t2 k2 l2 => ?_
      rw [w_add]
      obtain ⟨n', rfl⟩ : ∃ n' : Nat, n = n' := ⟨n.toNat, by omega⟩
      have en : (30 : Int) + (n' : Int) = ((30 + n' : Nat) : Int) := by omega
      rw [en]
      refine LW t2 (by omega) fun q ns st3 n1 n2 t3 k3 hq => ?_
      have hr3 := k3.stL r1 (k2.stL r1 hr)
      rw [w_addL]
      refine ⟨xs, hr3, _, hq, by rw [size_eq, List.length_map]; omega, ?_⟩
      have hr4 : stL (st3 ++ [Ob.lst (xs ++ ns.map A.int)]) r = some xs := Grown.stL (.one _ _) hr3
      have hz4 : stL (st3 ++ [Ob.lst (xs ++ ns.map A.int)]) st3.length = some (xs ++ ns.map A.int) := stL_new
      have t4 := t3.grown (.one st3 (.lst (xs ++ ns.map A.int)))
      have k4 := ((k1.trans k2).trans k3).trans (Kp.grown (.one st3 (.lst (xs ++ ns.map A.int))))
      have l3 := t3.len
      generalize st3 ++ [Ob.lst (xs ++ ns.map A.int)] = st4 at *
      rw [w_getI, w_slL]
      refine ⟨xs, hr4, ?_⟩
      rw [cut_to (by decide)]
      have t5 := t4.grown (.one st4 (.lst (xs.take (Int.toNat 20))))
      have k5 := k4.trans (Kp.grown (.one st4 (.lst (xs.take (Int.toNat 20)))))
      have hz5 : stL (st4 ++ [Ob.lst (xs.take (Int.toNat 20))]) st3.length = some (xs ++ ns.map A.int) := Grown.stL (.one _ _) hz4
      have hw5 : stL (st4 ++ [Ob.lst (xs.take (Int.toNat 20))]) st4.length = some (xs.take (Int.toNat 20)) := stL_new
      generalize st4 ++ [Ob.lst (xs.take (Int.toNat 20))] = st5 at *
      have l5 := t5.len
      rw [w_addL]
      refine ⟨_, hz5, _, hw5, by rw [size_eq, List.length_append, List.length_map, List.length_take]; omega, ?_, ?_⟩
      · refine ⟨_, _, t5.grown (.one _ _), k5.trans (Kp.grown (.one _ _)), by omega, stL_new, el_app (el_app hx (ints_el n2)) fun y hy => hx y (List.mem_of_mem_take hy), ?_, rfl⟩
        rw [List.length_append, List.length_append, List.length_map, List.length_take]
        omega
      · intro h
        omega
    · exact ⟨⟨r, xs, t1, k1, r1, hr, hx, by omega, rfl⟩, fun _ => ⟨r, xs, t1, k1, r1, hr, hx, by omega, rfl⟩⟩
  clear hr hx hl r1 k1 t1 xs r st1
  rintro ρ st1 ⟨hA, hB⟩
  have skip : ∀ (d : Int) (m : Nat), d ≠ c → m ≤ 2000 → SpI m c st ρ st1 → SpI 2000 c st ρ st1 := fun d m hd hm h => by
    obtain ⟨r, xs, a1, a2, a3, a4, a5, a6, a7⟩ := h
    exact ⟨r, xs, a1, a2, a3, a4, a5, by omega, a7⟩
  refine seq_cut (fun ρ st2 => SpI 2000 c st ρ st2 ∧ (5 ≤ c → SpI 60 c st ρ st2)) ?_ ?_
  · obtain ⟨r, xs, t1, k1, r1, hr, hx, hl, rfl⟩ := hA
    simp only [sp_ifs, wp_gb, wp_bin, wp_var, wp_c, List.getElem?_cons_succ, List.getElem?_cons_zero, Option.some.injEq, ex_eq, w_eq, w_getB, decide_eq_true_eq]
    split
    · rename_i hc
      simp only [sp_set, wp_bin, wp_call, wp_cons, wp_nil, wp_var, wp_c, List.getElem?_cons_succ, List.getElem?_cons_zero, Option.some.injEq, ex_eq, List.set_cons_zero, List.set_cons_succ]
      refine draw_wp t1 (by decide) fun n st2 na nb t2 k2 l2 => ?_
      rw [w_add]
      obtain ⟨n', rfl⟩ : ∃ n' : Nat, n = n' := ⟨n.toNat, by omega⟩
      have en : (150 : Int) + (n' : Int) = ((150 + n' : Nat) : Int) := by omega
      rw [en]
      refine LW t2 (by omega) fun q ns st3 n1 n2 t3 k3 hq => ?_
      have hr3 := k3.stL r1 (k2.stL r1 hr)
      have l3 := t3.len
      rw [w_addL]
      refine ⟨_, hq, _, hr3, by rw [size_eq, List.length_map]; omega, ⟨_, _, t3.grown (.one _ _), ((k1.trans k2).trans k3).trans (Kp.grown (.one _ _)), by omega, stL_new, el_app (ints_el n2) hx, by rw [List.length_append, List.length_map]; omega, rfl⟩, fun h => by omega⟩
    · exact ⟨⟨r, xs, t1, k1, r1, hr, hx, by omega, rfl⟩, fun h => hB (by omega)⟩
  clear hA hB skip
  rintro ρ st1 ⟨hA, hB⟩
  refine seq_cut (fun ρ st2 => SpI 2000 c st ρ st2 ∧ (6 ≤ c → SpI 60 c st ρ st2)) ?_ ?_
  · have hA' := hA
    obtain ⟨r0, xs0, _, _, _, _, _, _, e0⟩ := hA
    simp only [sp_ifs, wp_gb, wp_bin, wp_var, wp_c, e0, List.getElem?_cons_succ, List.getElem?_cons_zero, Option.some.injEq, ex_eq, w_eq, w_getB, decide_eq_true_eq]
    split
    · rename_i hc
      obtain ⟨r, xs, t1, k1, r1, hr, hx, hl, e1⟩ := hB (by omega)
      rw [e0] at e1
      simp at e1
      subst e1
      simp only [sp_set, wp_bin, wp_sl, wp_noPart, wp_part, wp_var, wp_c, List.getElem?_cons_succ, List.getElem?_cons_zero, Option.some.injEq, ex_eq, List.set_cons_zero, List.set_cons_succ]
      rw [w_getI, w_slL]
      refine ⟨xs, hr, ?_⟩
      rw [cut_from (by decide)]
      have t5 := t1.grown (.one st1 (.lst (xs.drop (Int.toNat 5))))
      have k5 := k1.trans (Kp.grown (.one st1 (.lst (xs.drop (Int.toNat 5)))))
      have hz5 : stL (st1 ++ [Ob.lst (xs.drop (Int.toNat 5))]) r0 = some xs := Grown.stL (.one _ _) hr
      have hw5 : stL (st1 ++ [Ob.lst (xs.drop (Int.toNat 5))]) st1.length = some (xs.drop (Int.toNat 5)) := stL_new
      generalize st1 ++ [Ob.lst (xs.drop (Int.toNat 5))] = st5 at *
      rw [w_addL]
      refine ⟨_, hz5, _, hw5, by rw [size_eq, List.length_drop]; omega, ?_⟩
      have t6 := t5.grown (.one st5 (.lst (xs ++ xs.drop (Int.toNat 5))))
      have k6 := k5.trans (Kp.grown (.one st5 (.lst (xs ++ xs.drop (Int.toNat 5)))))
      have hz6 : stL (st5 ++ [Ob.lst (xs ++ xs.drop (Int.toNat 5))]) r0 = some xs := Grown.stL (.one _ _) hz5
      have hw6 : stL (st5 ++ [Ob.lst (xs ++ xs.drop (Int.toNat 5))]) st5.length = some (xs ++ xs.drop (Int.toNat 5)) := stL_new
      generalize st5 ++ [Ob.lst (xs ++ xs.drop (Int.toNat 5))] = st6 at *
      have l6 := t6.len
      rw [w_addL]
      refine ⟨_, hw6, _, hz6, by rw [size_eq, List.length_append, List.length_drop]; omega, ⟨_, _, t6.grown (.one _ _), k6.trans (Kp.grown (.one _ _)), by omega, stL_new, el_app (el_app hx fun y hy => hx y (List.mem_of_mem_drop hy)) hx, by rw [List.length_append, List.length_append, List.length_drop]; omega, rfl⟩, fun h => by omega⟩
    · rw [← e0]
      exact ⟨hA', fun h => hB (by omega)⟩
  clear hA hB
  rintro ρ st1 ⟨hA, hB⟩
  refine seq_cut (fun ρ st2 => SpI 2000 c st ρ st2) ?_ ?_
  · have hA' := hA
    obtain ⟨r0, xs0, _, _, _, _, _, _, e0⟩ := hA
    simp only [sp_ifs, wp_gb, wp_bin, wp_var, wp_c, e0, List.getElem?_cons_succ, List.getElem?_cons_zero, Option.some.injEq, ex_eq, w_eq, w_getB, decide_eq_true_eq]
    split
    · rename_i hc
      obtain ⟨r, xs, t1, k1, r1, hr, hx, hl, e1⟩ := hB (by omega)
      rw [e0] at e1
      simp at e1
      subst e1
      simp only [sp_set, wp_bin, wp_call, wp_cons, wp_nil, wp_var, wp_c, List.getElem?_cons_succ, List.getElem?_cons_zero, Option.some.injEq, ex_eq, List.set_cons_zero, List.set_cons_succ]
      refine draw_wp t1 (by decide) fun n st2 na nb t2 k2 l2 => ?_
      rw [w_add]
      obtain ⟨n', rfl⟩ : ∃ n' : Nat, n = n' := ⟨n.toNat, by omega⟩
      have en : (400 : Int) + (n' : Int) = ((400 + n' : Nat) : Int) := by omega
      rw [en]
      refine LW t2 (by omega) fun q ns st3 n1 n2 t3 k3 hq => ?_
      have hr3 := k3.stL r1 (k2.stL r1 hr)
      have l3 := t3.len
      rw [w_addL]
      exact ⟨_, hq, _, hr3, by rw [size_eq, List.length_map]; omega, _, _, t3.grown (.one _ _), ((k1.trans k2).trans k3).trans (Kp.grown (.one _ _)), by omega, stL_new, el_app (ints_el n2) hx, by rw [List.length_append, List.length_map]; omega, rfl⟩
    · rw [← e0]
      exact hA'
  rintro ρ st1 ⟨r, xs, t1, k1, r1, hr, hx, hl, rfl⟩
  simp only [sp_ret, wp_var, List.getElem?_cons_succ, List.getElem?_cons_zero, Option.some.injEq, ex_eq]
  exact k r xs st1 t1 k1 r1 hr hx hl
end Law
namespace Law
open PySem L2 ML
open Classical
def slc {α : Type} : List Nat → List α → List (List α)
  | a :: b :: E, xs => (xs.take b).drop a :: slc (b :: E) xs
  | _, _ => []
theorem slc_len {α : Type} (xs : List α) : ∀ E : List Nat, (slc E xs).length = E.length - 1
  | [] => rfl
  | [a] => rfl
  | a :: b :: E => by simp only [slc, List.length_cons, slc_len xs (b :: E)]; omega
theorem slc_get {α : Type} (xs : List α) : ∀ (E : List Nat) (i : Nat), i + 1 < E.length → (slc E xs)[i]? = some ((xs.take (E.getD (i + 1) 0)).drop (E.getD i 0))
  | [], i, h => by simp at h
  | [a], i, h => by simp at h
  | a :: b :: E, 0, h => by simp [slc]
  | a :: b :: E, i + 1, h => by
    have := slc_get xs (b :: E) i (by simpa using h)
    simp only [slc, List.getElem?_cons_succ, this]
    simp
theorem cuts_slc {α : Type} (ss : List Nat) (xs : List α) : cutsN ss xs = slc (ss ++ [xs.length]) xs := by
  refine List.ext_getElem? fun i => ?_
  by_cases h : i < ss.length
  · rw [cutsN_get h, slc_get _ _ _ (by simp; omega)]
    congr 2
    · rw [List.getD_eq_getElem?_getD, List.getD_eq_getElem?_getD, List.getElem?_append_left h]
    · congr 1
      rw [List.getD_eq_getElem?_getD, List.getD_eq_getElem?_getD]
      by_cases h2 : i + 1 < ss.length
      · rw [List.getElem?_append_left h2, List.getElem?_eq_getElem h2]
        rfl
      · have e : i + 1 = ss.length := by omega
        rw [e, List.getElem?_append_right (Nat.le_refl _), List.getElem?_eq_none (Nat.le_refl _)]
        simp
  · rw [List.getElem?_eq_none (by rw [cutsN_len]; omega), List.getElem?_eq_none (by rw [slc_len]; simp; omega)]
theorem asc_extN : ∀ {xs ys : List Nat}, xs.Pairwise (· < ·) → ys.Pairwise (· < ·) → (∀ z, z ∈ xs ↔ z ∈ ys) → xs = ys
  | [], [], _, _, _ => rfl
  | [], y :: ys, _, _, h => by have := (h y).mpr (by simp); simp at this
  | x :: xs, [], _, _, h => by have := (h x).mp (by simp); simp at this
  | x :: xs, y :: ys, hx, hy, h => by
    obtain ⟨x1, x2⟩ := List.pairwise_cons.mp hx
    obtain ⟨y1, y2⟩ := List.pairwise_cons.mp hy
    have e : x = y := by
      rcases List.mem_cons.mp ((h x).mp (by simp)) with z | z
      · exact z
      · rcases List.mem_cons.mp ((h y).mpr (by simp)) with w | w
        · exact w.symm
        · have := x1 y w
          have := y1 x z
          omega
    subst e
    congr 1
    refine asc_extN x2 y2 fun z => ⟨fun q => ?_, fun q => ?_⟩
    · have := x1 z q
      rcases List.mem_cons.mp ((h z).mp (List.mem_cons_of_mem _ q)) with p | p
      · omega
      · exact p
    · have := y1 z q
      rcases List.mem_cons.mp ((h z).mpr (List.mem_cons_of_mem _ q)) with p | p
      · omega
      · exact p
theorem few_gaps : ∀ (l : List Nat) (lo hi : Nat), (∀ x ∈ l, lo ≤ x ∧ x < hi) → l.Pairwise (fun a b => a + 2 ≤ b) → 2 * l.length ≤ hi - lo + 1
  | [], _, _, _, _ => by simp
  | a :: l, lo, hi, h, hp => by
    obtain ⟨p1, p2⟩ := List.pairwise_cons.mp hp
    have h0 := h a (by simp)
    have ih := few_gaps l (a + 2) hi (fun x hx => ⟨p1 x hx, (h x (by simp [hx])).2⟩) p2
    simp only [List.length_cons]
    cases l with
    | nil => simp; omega
    | cons b l =>
      have := p1 b (by simp)
      have := h b (by simp)
      omega
theorem gap_of {α : Type} (xs : List α) : ∀ E : List Nat, E.Pairwise (· < ·) → (∀ e ∈ E, e ≤ xs.length) → (∀ p ∈ slc E xs, 2 ≤ p.length) → E.Pairwise (fun a b => a + 2 ≤ b)
  | [], _, _, _ => List.Pairwise.nil
  | [a], _, _, _ => by simp
  | a :: b :: E, h, hl, hs => by
    obtain ⟨h1, h2⟩ := List.pairwise_cons.mp h
    have ih := gap_of xs (b :: E) h2 (fun e he => hl e (by simp [he])) (fun p hp => hs p (by simp [slc, hp]))
    have h3 := hs ((xs.take b).drop a) (by simp [slc])
    rw [List.length_drop, List.length_take] at h3
    refine List.pairwise_cons.mpr ⟨fun c hc => ?_, ih⟩
    rcases List.mem_cons.mp hc with z | z
    · rw [z]; omega
    · have := (List.pairwise_cons.mp h2).1 c z
      omega
noncomputable def edg (xs : List Nd) : List Nat := startsL (colsZ xs) ++ [xs.length]
theorem prts_slc (xs : List Nd) : prts xs = slc (edg xs) xs := cuts_slc _ _
theorem edg_asc {xs : List Nd} (h : xs ≠ []) : (edg xs).Pairwise (· < ·) := by
  unfold edg
  refine List.pairwise_append.mpr ⟨starts_asc _, by simp, fun a ha b hb => ?_⟩
  rw [List.mem_singleton.mp hb]
  obtain ⟨i, hi⟩ := List.mem_iff_getElem?.mp ha
  obtain ⟨hl, e⟩ := List.getElem?_eq_some_iff.mp hi
  have := starts_lt hl
  rw [colsZ_len, e] at this
  exact this
theorem edg_le {xs : List Nd} (h : xs ≠ []) : ∀ e ∈ edg xs, e ≤ xs.length := fun e he => by
  unfold edg at he
  rcases List.mem_append.mp he with z | z
  · obtain ⟨i, hi⟩ := List.mem_iff_getElem?.mp z
    obtain ⟨hl, q⟩ := List.getElem?_eq_some_iff.mp hi
    have := starts_lt hl
    rw [colsZ_len, q] at this
    omega
  · rw [List.mem_singleton.mp z]
    exact Nat.le_refl _
theorem edg_zero {xs : List Nd} (h : xs ≠ []) : ∃ E, edg xs = 0 :: E := by
  unfold edg startsL
  rw [if_neg (fun e => h (by have := congrArg List.length e; rw [colsZ_len] at this; exact List.length_eq_zero_iff.mp this))]
  exact ⟨_, rfl⟩
theorem edg_mem {xs : List Nd} {j : Nat} (h2 : 2 ≤ j) (h3 : j + 1 < xs.length) : j ∈ edg xs ↔ isPk (colsZ xs) j := by
  unfold edg
  rw [List.mem_append, List.mem_singleton]
  constructor
  · rintro (z | z)
    · rcases starts_mem z with e | e
      · omega
      · exact e.2.2
    · omega
  · exact fun z => .inl (starts_of_pk h2 (by rw [colsZ_len]; exact h3) z)
structure AgrI (xs ys : List Nd) (L : Nat) : Prop where
  len : L + xs.length ≤ ys.length
  get : ∀ j, 1 ≤ j → j + 1 < xs.length → ys[L + j]? = xs[j]?
theorem AgrI.slc {xs ys : List Nd} {L : Nat} (h : AgrI xs ys L) : ∀ M : List Nat, (∀ m ∈ M, 1 ≤ m ∧ m + 1 ≤ xs.length) → slc (M.map (L + ·)) ys = slc M xs
  | [], _ => rfl
  | [a], _ => rfl
  | a :: b :: M, hm => by
    have ih := h.slc (b :: M) fun m q => hm m (by simp at q ⊢; exact .inr q)
    simp only [List.map_cons] at ih
    simp only [List.map_cons, Law.slc, ih]
    congr 1
    have h1 := hm a (by simp)
    have h2 := hm b (by simp)
    refine List.ext_getElem? fun i => ?_
    rw [List.getElem?_drop, List.getElem?_drop, List.getElem?_take, List.getElem?_take]
    by_cases c : a + i < b
    · rw [if_pos (by omega), if_pos c, show L + a + i = L + (a + i) by omega]
      exact h.get _ (by omega) (by omega)
    · rw [if_neg (by omega), if_neg c]
end Law
namespace Law
open PySem L2 ML
open Classical
def RsOk (N : Nat) : Nat → List (Nat × Nat) → Prop
  | _, [] => True
  | p, r :: rs => p ≤ r.1 ∧ r.1 ≤ r.2 + 1 ∧ r.2 ≤ N ∧ RsOk N (r.2 + 1) rs
theorem RsOk.lo {N : Nat} : ∀ {rs : List (Nat × Nat)} {p : Nat}, RsOk N p rs → ∀ r ∈ rs, p ≤ r.1
  | [], _, _, _, h => by cases h
  | r :: rs, p, ⟨h1, h2, h3, h4⟩, q, hq => by
    rcases List.mem_cons.mp hq with z | z
    · rw [z]; exact h1
    · have := h4.lo q z
      omega
def Kn (Vs : List (List Nd)) (s : List Nd) : Prop := ∃ V ∈ Vs, ∃ P Q, V = P ++ (s ++ Q)
end Law
namespace Law
open PySem L2 ML
def m_list_nodes : Nat → MF
  | 0 => fun _ _ => .bad
  | n + 1 => mFn 5 3 (mSeq (mIfS (mGB (mBin inD (mVar 1) (mVar 2))) mRetN mNext)
    (mSeq (mSet 3 (mBin ixA (mFld "NodeTable" "entries" (mVar 0)) (mVar 1)))
    (mSeq (mIfS (mGB (mBin eqA (mBin ixA (mVar 3) (mC (.int 0))) (mC (.str "run")))) (mExpr (mCall (m_list_nodes n) (mCons (mVar 0) (mCons (mBin ixA (mVar 3) (mC (.int 1))) (mCons (mVar 2) mNil))))) (mIfS (mGB (mBin eqA (mBin ixA (mVar 3) (mC (.int 0))) (mC (.str "block")))) (mFor (mSrc (mBin ixA (mVar 3) (mC (.int 1)))) (.one 4) (mExpr (mCall (m_list_nodes n) (mCons (mVar 0) (mCons (mVar 4) (mCons (mVar 2) mNil)))))) mNext))
    (mDPut (mVar 2) (mVar 1) (mCa lenD (mCons (mVar 2) mNil))))))
def m_placed : MF := mFn 3 2 (mSeq (mIfS (mGB (mBin eqA (mBin ixA (mVar 0) (mC (.int 0))) (mC (.str "run")))) (mRet (mTup (mCons (mC (.str "run")) (mCons (mBin getD' (mVar 1) (mBin ixA (mVar 0) (mC (.int 1)))) (mCons (mBin ixA (mVar 0) (mC (.int 2))) mNil))))) mNext)
    (mSeq (mIfS (mGB (mBin eqA (mBin ixA (mVar 0) (mC (.int 0))) (mC (.str "block")))) (mRet (mTup (mCons (mC (.str "block")) (mCons (mCa tupleA (mCons (mLc (mSrc (mBin ixA (mVar 0) (mC (.int 1)))) (.one 2) [2] mYes (mBin getD' (mVar 1) (mVar 2))) mNil)) mNil)))) mNext)
    (mRet (mVar 0))))
noncomputable def m_table_of : MF := mFn 5 1 (mSeq (mSet 1 (mMake "NodeTable" m_NodeTable___init__ mNil))
    (mSeq (mSet 2 (mCall m_add_tree (mCons (mVar 1) (mCons (mVar 0) mNil))))
    (mSeq (mSet 3 mDNew)
    (mSeq (mIfS (mGB (mBin notNA (mVar 2) (mC .non))) (mExpr (mCall (m_list_nodes 40) (mCons (mVar 1) (mCons (mVar 2) (mCons (mVar 3) mNil))))) mNext)
    (mRet (mCa tupleA (mCons (mLcD 3 (.one 4) [4] mYes (mCall m_placed (mCons (mBin ixA (mFld "NodeTable" "entries" (mVar 1)) (mVar 4)) (mCons (mVar 3) mNil)))) mNil)))))))
section
variable {st : Store} {r : Nat} {kvs : List (NestedKey × A)} {k : NestedKey} {y v : A} {Q : A → Store → Prop} {ρ : ML.Env}
theorem w_dgetF (hs : stF st r = some kvs) (hk : keyOf y = some k) (hf : fitD kvs k = true) (ht : tupK k = false) (hv : atD kvs k = some v) (h : Q v st) : (getD' (.ref r) y st).wp Q := by
  have hd : stD st r = none := by
    unfold ML.stD
    rw [stF_eq hs]
  have e : askD (.ref r) y st = some (some v) := by
    unfold askD
    simp only [hk, hd, hs, hf, ht, true_or, and_self, if_true, hv]
  unfold getD'
  rw [e]
  exact h
@[simp] theorem wp_lcD {i : Nat} {tg : Tg} {own : List Nat} {tt : MT} {me : MX} : (mLcD i tg own tt me ρ st).wp Q ↔ ∃ r, ρ[i]? = some (some (.ref r)) ∧ ∃ kvs, ML.stD st r = some kvs ∧ flatD kvs = true ∧ (mLc (mKeysF i) tg own tt me ρ (st.set r (.oth (.frd kvs)))).wp fun a st1 => ∃ st2, unF r st1 = some st2 ∧ Q a st2 := by
  unfold mLcD
  cases q : ρ[i]? with
  | none => simp
  | some o =>
    cases o with
    | none => simp
    | some a =>
      cases a with
      | ref r =>
        simp only [Option.some.injEq, A.ref.injEq, ex_eq]
        cases e : ML.stD st r with
        | none => simp
        | some kvs =>
          simp only [Option.some.injEq, ex_eq]
          by_cases hf : flatD kvs = true
          · simp only [hf, if_true, true_and]
            cases q2 : mLc (mKeysF i) tg own tt me ρ (st.set r (.oth (.frd kvs))) with
            | ok a st1 =>
              unfold unlockX
              simp only [wp_ok]
              cases unF r st1 with
              | none => simp
              | some st2 => simp
            | er x st1 => simp [unlockX, R.wp]
            | bad => simp [unlockX, R.wp]
          · simp [hf]
      | _ => simp
end
open Classical
noncomputable def numK (f : List Nd) (n : Nd) : NestedKey := .num (idx f n : Nat)
theorem numK_inj {f : List Nd} {m n : Nd} (hm : m ∈ f) (hn : n ∈ f) (h : numK f m = numK f n) : m = n := by
  unfold numK at h
  simp only [NestedKey.num.injEq, Int.ofNat_inj] at h
  exact idx_inj hm hn h
theorem atK {f P : List Nd} {n : Nd} (hP : ∀ m ∈ P, m ∈ f) (hn : n ∈ f) : atD (numG (numK f) 0 P) (numK f n) = if n ∈ P then some (.int (idx P n : Nat)) else none := by
  rw [atD_num fun m hm e => numK_inj (hP m hm) hn e]
  simp
theorem fitK {f P : List Nd} {n : Nd} : fitD (numG (numK f) 0 P) (numK f n) = true := by
  unfold fitD
  rw [Bool.and_eq_true, Bool.and_eq_true]
  refine ⟨by simp [numK, NestedKey.depth], by simp [numK], ?_⟩
  rw [List.all_eq_true]
  intro kv hkv
  obtain ⟨m, _, e⟩ := numG_key hkv
  rw [e]
  rfl
theorem keyK (f : List Nd) (n : Nd) : keyOf (numA f n) = some (numK f n) := rfl
theorem flatK {f P : List Nd} : flatD (numG (numK f) 0 P) = true := by
  unfold flatD
  rw [List.all_eq_true]
  intro kv hkv
  obtain ⟨m, _, e⟩ := numG_key hkv
  rw [e]
  rfl
theorem numG_keys (g : Nd → NestedKey) : ∀ (i : Nat) (P : List Nd), (numG g i P).map (fun kv => aOf kv.1) = P.map fun n => aOf (g n)
  | _, [] => rfl
  | i, n :: r => by simp only [numG, List.map_cons, numG_keys g (i + 1) r]
theorem visL_clo (cs : List Nd) {P : List Nd} (h : Clo P) : Clo (visL cs P) ∧ (∃ g, visL cs P = P ++ g) ∧ ∀ c ∈ cs, c ∈ visL cs P := by
  rw [visL_lis cs h]
  exact lisL_ok cs h
theorem visL_snoc (c : Nd) : ∀ (as : List Nd) (f : List Nd), visL (as ++ [c]) f = vis c (visL as f)
  | [], f => by simp [visL]
  | a :: as, f => by simp only [List.cons_append, visL, visL_snoc c as]
structure Plc (f P : List Nd) (t rp : Nat) (st : Store) : Prop where
  tb : Tab f t st
  c : Clo P
  s : ∀ m ∈ P, m ∈ f
  d : ML.stD st rp = some (numG (numK f) 0 P)
  r : rp < t ∨ t + 4 < rp
theorem Plc.hold {f P : List Nd} {t rp : Nat} {st st' : Store} (h : Plc f P t rp st) (k : Hold st st') : Plc f P t rp st' := ⟨h.tb.hold k, h.c, h.s, by
  have := h.d
  have hl := stD_lt h.d
  unfold ML.stD at this ⊢
  rw [k.get rp hl]
  exact this, h.r⟩
def LnGoal (m : MF) (n : Nat) : Prop := ∀ (nd : Nd) (f P : List Nd) (t rp : Nat) (st : Store) (Q : A → Store → Prop), dpN nd ≤ n → nd ∈ f → Plc f P t rp st → (vis nd P).length ≤ 1000000 → (∀ st', Fr2 rp rp st st' → Plc f (vis nd P) t rp st' → Q .non st') → (m [.ref t, numA f nd, .ref rp] st).wp Q
theorem visL_take_len {cs : List Nd} {P : List Nd} (h : Clo P) (i : Nat) : (visL (cs.take i) P).length ≤ (visL cs P).length := by
  rw [visL_lis _ h, visL_lis _ h]
  have e : lisL cs P = lisL (cs.drop i) (lisL (cs.take i) P) := by
    have key : ∀ (as bs : List Nd) (f : List Nd), lisL (as ++ bs) f = lisL bs (lisL as f) := by
      intro as
      induction as with
      | nil => intro bs f; simp [lisL]
      | cons a as ih => intro bs f; simp only [List.cons_append, lisL, ih]
    rw [← key, List.take_append_drop]
  obtain ⟨c, _, _⟩ := lisL_ok (cs.take i) h
  obtain ⟨_, ⟨g, eg⟩, _⟩ := lisL_ok (cs.drop i) c
  rw [e, eg, List.length_append]
  omega
theorem not_in_kids {nd : Nd} {P : List Nd} (hc : Clo P) (hn : nd ∉ P) : nd ∉ visL (kids nd) P := by
  rw [visL_lis _ hc]
  intro z
  rcases lisL_dp (kids nd) z with z | z
  · exact hn z
  · cases nd with
    | leaf e => simp [kids, dpNs, dpN] at z
    | run b t => simp only [kids, dpNs, dpN] at z; omega
    | blk cs => simp only [kids, dpN] at z; omega
theorem vis_new {nd : Nd} {P : List Nd} (hn : nd ∉ P) : vis nd P = visL (kids nd) P ++ [nd] := by
  cases nd with
  | leaf e => simp only [vis, if_neg hn, kids, visL]
  | run b t => simp only [vis, if_neg hn, kids, visL]
  | blk cs => simp only [vis, if_neg hn, kids]
theorem vis_old {nd : Nd} {P : List Nd} (h : nd ∈ P) : vis nd P = P := by cases nd <;> simp only [vis, if_pos h]
theorem Plc.put {f P : List Nd} {t rp : Nat} {st : Store} {nd : Nd} (h : Plc f P t rp st) (hn : nd ∈ f) (hp : nd ∉ P) (hk : ∀ c ∈ kids nd, c ∈ P) (hl : P.length < 1000000) :
    ∃ st', putS (.ref rp) (numA f nd) (.int (P.length : Nat)) st = some st' ∧ Fr2 rp rp st st' ∧ Plc f (P ++ [nd]) t rp st' := by
  have hat := atK h.s hn
  rw [if_neg hp] at hat
  have e := put_eq (v := .int (P.length : Nat)) h.d (keyK f nd) fitK (by rw [numG_len, size_eq]; omega)
  have e2 : putD (numG (numK f) 0 P) (numK f nd) (.int (P.length : Nat)) = numG (numK f) 0 (P ++ [nd]) := by
    unfold putD
    rw [hat, numG_app]
    simp
  rw [e2] at e
  have hlt := stD_lt h.d
  refine ⟨_, e, .set1, h.tb.set h.r, ?_, ?_, stD_set_self hlt, h.r⟩
  · have := addN_clo h.c hk
    unfold addN at this
    rwa [if_neg hp] at this
  · intro m hm
    rcases List.mem_append.mp hm with z | z
    · exact h.s m z
    · simp at z
      subst z
      exact hn
theorem list_nodes_wp : ∀ (n : Nat), LnGoal (m_list_nodes n) n
  | 0 => by
    intro nd f P t rp st Q hd
    cases nd <;> simp [dpN] at hd
  | n + 1 => by
    intro nd f P t rp st Q hd hn hP hl k
    have IH := list_nodes_wp n
    simp only [m_list_nodes]
    generalize m_list_nodes n = mf at IH ⊢
    generalize hF : @mFor = F
    rw [wp_fn]
    refine ⟨rfl, ?_⟩
    simp only [List.map_cons, List.map_nil, List.cons_append, List.nil_append, List.replicate, Nat.reduceSub]
    have hat := atK hP.s hn
    by_cases hm : nd ∈ P
    · rw [if_pos hm] at hat
      simp only [sp_seq, sp_ifs, wp_gb, wp_bin, wp_var, List.getElem?_cons_succ, List.getElem?_cons_zero, Option.some.injEq, ex_eq]
      refine w_din hP.d (keyK f nd) fitK ?_
      rw [hat]
      simp only [Option.isSome_some, w_getB, if_true, sp_retN]
      have := vis_old hm
      rw [this] at k
      exact k st (.refl _ _ _) hP
    rw [if_neg hm] at hat
    rw [vis_new hm] at hl k
    have hclo : Clo f := hP.tb.c
    obtain ⟨vc, vp, vm⟩ := visL_clo (kids nd) hP.c
    have hni := not_in_kids hP.c hm
    have hl1 : (visL (kids nd) P).length < 1000000 := by
      rw [List.length_append] at hl
      simp at hl
      omega
    refine seq_cut (fun ρ st' => st' = st ∧ ρ = [some (.ref t), some (numA f nd), some (.ref rp), none, none]) ?_ ?_
    · simp only [sp_ifs, wp_gb, wp_bin, wp_var, List.getElem?_cons_succ, List.getElem?_cons_zero, Option.some.injEq, ex_eq]
      refine w_din hP.d (keyK f nd) fitK ?_
      rw [hat]
      simp only [Option.isSome_none, w_getB, Bool.false_eq_true, if_false, sp_next]
      exact ⟨by first | exact rfl | exact trivial, by first | exact rfl | exact trivial⟩
    rintro ρ st1 ⟨rfl, rfl⟩
    refine seq_cut (fun ρ st' => st' = st1 ∧ ρ = [some (.ref t), some (numA f nd), some (.ref rp), some (entA f nd), none]) ?_ ?_
    · have hat2 := at_idx (g := entA f) hn
      simp only [numA, sp_set, wp_bin, wp_fld, wp_var, List.getElem?_cons_succ, List.getElem?_cons_zero, Option.some.injEq, ex_eq, insA_of hP.tb.i, tab_ent, w_ixL, hP.tb.e, hat2, List.set_cons_succ, List.set_cons_zero]
      exact ⟨by first | exact rfl | exact trivial, by first | exact rfl | exact trivial⟩
    rintro ρ st2 ⟨rfl, rfl⟩
    refine seq_cut (fun ρ st' => ∃ v4 : Option A, Fr2 rp rp st2 st' ∧ Plc f (visL (kids nd) P) t rp st' ∧ ρ = [some (.ref t), some (numA f nd), some (.ref rp), some (entA f nd), v4]) ?_ ?_
    · cases nd with
      | leaf e =>
        have i0 : ∀ x : A, atI [A.str "leaf", x] 0 = some (.str "leaf") := fun _ => rfl
        simp only [entA, sp_ifs, wp_gb, wp_bin, wp_var, wp_c, List.getElem?_cons_succ, List.getElem?_cons_zero, Option.some.injEq, ex_eq, w_ixT, i0, w_eqS, leaf_run, leaf_block, decide_false, w_getB, Bool.false_eq_true, if_false, sp_next, kids, visL]
        exact ⟨_, .refl _ _ _, hP, rfl⟩
      | run b tm =>
        have i0 : ∀ x y : A, atI [A.str "run", x, y] 0 = some (.str "run") := fun _ _ => rfl
        have i1 : ∀ x y : A, atI [A.str "run", x, y] 1 = some x := fun _ _ => rfl
        have hb : b ∈ f := hclo.2 _ hn b (by simp [kids])
        simp only [dpN] at hd
        have hlen : (vis b P).length ≤ 1000000 := by
          simp only [kids, visL] at hl1
          omega
        simp only [entA, sp_ifs, sp_expr, wp_call, wp_cons, wp_nil, wp_gb, wp_bin, wp_var, wp_c, List.getElem?_cons_succ, List.getElem?_cons_zero, Option.some.injEq, ex_eq, w_ixT, i0, i1, w_eqS, decide_true, w_getB, if_true, kids, visL]
        refine IH b f P t rp st2 _ (by omega) hb hP hlen fun st3 f3 P3 => ?_
        exact ⟨none, f3, P3, rfl⟩
      | blk cs =>
        have i0 : ∀ x : A, atI [A.str "block", x] 0 = some (.str "block") := fun _ => rfl
        have i1 : ∀ x : A, atI [A.str "block", x] 1 = some x := fun _ => rfl
        simp only [dpN] at hd
        simp only [entA, sp_ifs, wp_gb, wp_bin, wp_var, wp_c, List.getElem?_cons_succ, List.getElem?_cons_zero, Option.some.injEq, ex_eq, w_ixT, i0, w_eqS, block_run, decide_true, decide_false, w_getB, Bool.false_eq_true, if_true, if_false, kids]
        rw [← hF]
        simp only [sp_for, wp_src, wp_bin, wp_var, wp_c, List.getElem?_cons_succ, List.getElem?_cons_zero, Option.some.injEq, ex_eq, w_ixT, i1, w_srcT]
        refine for_vals (fun i ρ st' => ∃ v4 : Option A, Fr2 rp rp st2 st' ∧ Plc f (visL (cs.take i) P) t rp st' ∧ ρ = [some (.ref t), some (numA f (.blk cs)), some (.ref rp), some (.tup [.str "block", .tup (cs.map fun c => .int (idx f c : Nat))]), v4]) ⟨none, .refl _ _ _, by simpa [visL] using hP, rfl⟩ ?_ ?_
        · rintro i x ρ st3 hx ⟨v4, f3, P3, rfl⟩
          rw [List.getElem?_map, Option.map_eq_some_iff] at hx
          obtain ⟨c, hc, rfl⟩ := hx
          have hcm := List.mem_of_getElem? hc
          have hdm := dp_mem hcm
          have hcf : c ∈ f := hclo.2 _ hn c (by simpa [kids] using hcm)
          have ek : cs.take (i + 1) = cs.take i ++ [c] := by rw [List.take_add_one, hc]; rfl
          have el : visL (cs.take (i + 1)) P = vis c (visL (cs.take i) P) := by rw [ek, visL_snoc]
          have hll := visL_take_len (cs := cs) hP.c (i + 1)
          rw [el] at hll
          simp only [kids] at hl1
          refine ⟨_, rfl, ?_⟩
          simp only [List.set_cons_succ, List.set_cons_zero, sp_expr, wp_call, wp_cons, wp_nil, wp_var, List.getElem?_cons_succ, List.getElem?_cons_zero, Option.some.injEq, ex_eq]
          refine IH c f _ t rp st3 _ (by omega) hcf P3 (by omega) fun st4 f4 P4 => ?_
          exact ⟨_, f3.trans f4, by rw [el]; exact P4, rfl⟩
        · rintro ρ st3 ⟨v4, f3, P3, rfl⟩
          rw [List.length_map, List.take_length] at P3
          exact ⟨_, f3, P3, rfl⟩
    rintro ρ st3 ⟨v4, f3, P3, rfl⟩
    obtain ⟨st4, e4, f4, P4⟩ := P3.put hn hni vm hl1
    simp only [sp_dput, wp_ca, wp_cons, wp_nil, wp_var, List.getElem?_cons_succ, List.getElem?_cons_zero, Option.some.injEq, ex_eq]
    refine w_lenD P3.d (by rw [numG_len, size_eq]; omega) ?_
    simp only [numG_len, List.getElem?_cons_succ, List.getElem?_cons_zero, Option.some.injEq, ex_eq]
    exact ⟨st4, e4, k st4 (f3.trans f4) P4⟩
theorem placed_wp {f P : List Nd} {rp : Nat} {nd : Nd} {st : Store} {Q : A → Store → Prop} (hs : stF st rp = some (numG (numK f) 0 P)) (hP : ∀ m ∈ P, m ∈ f) (hk : ∀ c ∈ kids nd, c ∈ P) (hn : okN nd) (k : ∀ st', Grown st st' → Q (entA P nd) st') : (m_placed [entA f nd, .ref rp] st).wp Q := by
  simp only [m_placed]
  rw [wp_fn]
  refine ⟨rfl, ?_⟩
  simp only [List.map_cons, List.map_nil, List.cons_append, List.nil_append, List.replicate, Nat.reduceSub]
  have get : ∀ (st1 : Store) (c : Nd) (Q1 : A → Store → Prop), Grown st st1 → c ∈ P → Q1 (numA P c) st1 → (getD' (.ref rp) (numA f c) st1).wp Q1 := fun st1 c Q1 g hc h => by
    have hs1 : stF st1 rp = some (numG (numK f) 0 P) := by
      unfold stF
      rw [g.get (stF_eq hs)]
    refine w_dgetF hs1 (keyK f c) fitK rfl ?_ h
    rw [atK hP (hP c hc), if_pos hc]
    rfl
  cases nd with
  | leaf e =>
    have i0 : ∀ x : A, atI [A.str "leaf", x] 0 = some (.str "leaf") := fun _ => rfl
    simp only [entA, sp_seq, sp_ifs, sp_ret, wp_gb, wp_bin, wp_var, wp_c, List.getElem?_cons_succ, List.getElem?_cons_zero, Option.some.injEq, ex_eq, w_ixT, i0, w_eqS, leaf_run, leaf_block, decide_false, w_getB, Bool.false_eq_true, if_false, sp_next]
    exact k st (.refl _)
  | run b tm =>
    have i0 : ∀ x y : A, atI [A.str "run", x, y] 0 = some (.str "run") := fun _ _ => rfl
    have i1 : ∀ x y : A, atI [A.str "run", x, y] 1 = some x := fun _ _ => rfl
    have i2 : ∀ x y : A, atI [A.str "run", x, y] 2 = some y := fun _ _ => rfl
    simp only [entA, sp_seq, sp_ifs, sp_ret, wp_gb, wp_bin, wp_tup, wp_cons, wp_nil, wp_var, wp_c, List.getElem?_cons_succ, List.getElem?_cons_zero, Option.some.injEq, ex_eq, w_ixT, i0, i1, i2, w_eqS, decide_true, w_getB, if_true]
    refine get st b _ (.refl _) (hk b (by simp [kids])) ?_
    exact ⟨by rw [size_eq]; simp, k st (.refl _)⟩
  | blk cs =>
    have i0 : ∀ x : A, atI [A.str "block", x] 0 = some (.str "block") := fun _ => rfl
    have i1 : ∀ x : A, atI [A.str "block", x] 1 = some x := fun _ => rfl
    simp only [okN] at hn
    simp only [entA, sp_seq, sp_ifs, sp_ret, wp_gb, wp_bin, wp_tup, wp_ca, wp_cons, wp_nil, wp_lc, wp_src, wp_var, wp_c, List.getElem?_cons_succ, List.getElem?_cons_zero, Option.some.injEq, ex_eq, w_ixT, i0, i1, w_eqS, block_run, decide_true, decide_false, w_getB, Bool.false_eq_true, if_true, if_false, sp_next, w_srcT, wipeA_cons, wipeA_nil, List.set_cons_succ, List.set_cons_zero]
    refine lc_vals (fun q st4 acc => st4 = st ∧ acc = (cs.take q).map (numA P)) ⟨rfl, by simp⟩ ?_ ?_
    · rintro q x st4 acc hx ⟨rfl, rfl⟩
      rw [List.getElem?_map, Option.map_eq_some_iff] at hx
      obtain ⟨c, hc, rfl⟩ := hx
      have hcl := (List.getElem?_eq_some_iff.mp hc).1
      refine ⟨_, rfl, ?_⟩
      simp only [wp_yes, if_true, wp_bin, wp_var, List.set_cons_succ, List.set_cons_zero, List.getElem?_cons_succ, List.getElem?_cons_zero, Option.some.injEq, ex_eq]
      refine get st4 c _ (.refl _) (hk c (by simpa [kids] using List.mem_of_getElem? hc)) ?_
      refine ⟨by rw [size_eq, List.length_map, List.length_take]; omega, by first | exact rfl | exact trivial, ?_⟩
      rw [List.take_add_one, hc]
      simp
    · rintro st4 acc ⟨rfl, rfl⟩
      rw [List.length_map, List.take_length, w_tupL]
      refine ⟨_, stL_new, by rw [size_eq]; simp, ?_⟩
      exact k _ (.one _ _)
noncomputable def tblN (root : Nd) : List Nd := lis root []
theorem okt_lis {root : Nd} (h : Okt root) : (lis root []).length ≤ 60000 ∧ ∀ m ∈ lis root [], okN m ∧ dpN m ≤ 29 := by
  have h1 := (lis_len root (f := []) h.ok).1
  have h2 : dpN root * szN root ≤ 29 * 2000 := Nat.mul_le_mul h.dp h.sz
  simp at h1
  refine ⟨by omega, fun m hm => ⟨lis_okN root h.ok (by simp) m hm, ?_⟩⟩
  rcases lis_dp root hm with z | z
  · simp at z
  · have := h.dp
    omega
theorem clo_nil' : Clo [] := ⟨List.nodup_nil, by simp⟩
theorem table_of_wp {xs : List A} {st : Store} {Q : A → Store → Prop} (hx : ∀ x ∈ xs, El x) (hl : xs.length ≤ 2000) (k0 : xs = [] → ∀ st', Hold st st' → Q (.tup []) st') (k : ∀ j root st', IsTop (xs.map .leaf) j root → Hold st st' → Q (.tup ((tblN root).map (entA (tblN root)))) st') : (m_table_of [.tup xs] st).wp Q := by
  simp only [m_table_of]
  have IN := @init_wp
  have AT := @add_tree_wp
  have LN := list_nodes_wp 40
  have PW := @placed_wp
  generalize hI : @m_NodeTable___init__ = I at IN ⊢
  generalize hG : @m_add_tree = G at AT ⊢
  generalize hN : @m_list_nodes 40 = N at LN ⊢
  generalize hW : @m_placed = W at PW ⊢
  rw [wp_fn]
  refine ⟨rfl, ?_⟩
  simp only [List.map_cons, List.map_nil, List.cons_append, List.nil_append, List.replicate, Nat.reduceSub]
  refine seq_cut (fun ρ st1 => Hold st st1 ∧ Tab [] st.length st1 ∧ ρ = [some (.tup xs), some (.ref st.length), none, none, none]) ?_ ?_
  · simp only [sp_set, wp_make, wp_nil, List.set_cons_succ, List.set_cons_zero]
    refine IN fun st1 h1 T1 => ?_
    exact ⟨by first | exact rfl | exact trivial, h1, T1, by first | exact rfl | exact trivial⟩
  rintro ρ st1 ⟨h1, T1, rfl⟩
  have l1 := h1.len
  have hol : ∀ st2, FrT st.length st1 st2 → Hold st st2 := fun st2 f2 => ⟨Nat.le_trans h1.len f2.len, fun i hi => by rw [f2.get i (by omega) (.inl (by omega)), h1.get i hi]⟩
  -- one text for both cases
  have rest : ∀ (f P : List Nd) (st2 : Store) (v2 : A), Hold st st2 → Plc f P st.length st2.length (st2 ++ [.oth (.dct [])]) → True := fun _ _ _ _ _ _ => trivial
  refine seq_cut (fun ρ st2 => (xs = [] ∧ Hold st st2 ∧ Tab [] st.length st2 ∧ ρ = [some (.tup xs), some (.ref st.length), some .non, none, none]) ∨ ∃ j root, IsTop (xs.map .leaf) j root ∧ Hold st st2 ∧ Tab (tabF [] (xs.map .leaf) (j + 1)) st.length st2 ∧ ρ = [some (.tup xs), some (.ref st.length), some (numA (tabF [] (xs.map .leaf) (j + 1)) root), none, none]) ?_ ?_
  · simp only [sp_set, wp_call, wp_cons, wp_nil, wp_var, List.getElem?_cons_succ, List.getElem?_cons_zero, Option.some.injEq, ex_eq, List.set_cons_succ, List.set_cons_zero]
    refine AT T1 hx hl (by simp) (fun e st2 f2 T2 => .inl ⟨e, hol _ f2, T2, rfl⟩) fun j root st2 ht f2 T2 => .inr ⟨j, root, ht, hol _ f2, T2, rfl⟩
  have tail : ∀ (f P : List Nd) (rp : Nat) (st3 : Store) (v2 : Option A), Hold st st3 → Plc f P st.length rp st3 → st.length ≤ rp → P.length ≤ 60000 → (∀ m ∈ P, okN m) → (∀ st', Hold st st' → Q (.tup (P.map (entA P))) st') →
      (mRet (mCa tupleA (mCons (mLcD 3 (.one 4) [4] mYes (mCall W (mCons (mBin ixA (mFld "NodeTable" "entries" (mVar 1)) (mVar 4)) (mCons (mVar 3) mNil)))) mNil)) [some (.tup xs), some (.ref st.length), v2, some (.ref rp), none] st3).wp (fun _ st => Q .non st) NoS NoS Q := by
    intro f P rp st3 v2 h3 hP hrp hPl hok hQ
    have hlt := stD_lt hP.d
    simp only [sp_ret, wp_ca, wp_cons, wp_nil, wp_lcD, List.getElem?_cons_succ, List.getElem?_cons_zero, Option.some.injEq, A.ref.injEq, ex_eq]
    refine ⟨_, hP.d, flatK, ?_⟩
    have hF : stF (st3.set rp (.oth (.frd (numG (numK f) 0 P)))) rp = some (numG (numK f) 0 P) := by
      unfold stF
      rw [List.getElem?_set_self hlt]
    have T4 : Tab f st.length (st3.set rp (.oth (.frd (numG (numK f) 0 P)))) := hP.tb.set hP.r
    have l4 : (st3.set rp (.oth (.frd (numG (numK f) 0 P)))).length = st3.length := List.length_set
    generalize hs4 : st3.set rp (.oth (.frd (numG (numK f) 0 P))) = st4 at *
    have hK : mKeysF 3 [some (.tup xs), some (.ref st.length), v2, some (.ref rp), none] st4 = .ok (.vals (P.map (numA f))) st4 := by
      unfold mKeysF
      simp only [List.getElem?_cons_succ, List.getElem?_cons_zero, hF]
      rw [numG_keys]
      rfl
    rw [wp_lc, hK, wp_ok]
    simp only [wipeA_cons, wipeA_nil, List.set_cons_succ, List.set_cons_zero]
    refine lc_vals (fun q st5 acc => Grown st4 st5 ∧ acc = (P.take q).map (entA P)) ⟨.refl _, by simp⟩ ?_ ?_
    · rintro q x st5 acc hx5 ⟨g5, rfl⟩
      rw [List.getElem?_map, Option.map_eq_some_iff] at hx5
      obtain ⟨c, hc, rfl⟩ := hx5
      have hcm := List.mem_of_getElem? hc
      have hcl := (List.getElem?_eq_some_iff.mp hc).1
      have T5 := T4.grown g5
      have hat := at_idx (g := entA f) (hP.s c hcm)
      refine ⟨_, rfl, ?_⟩
      simp only [numA, wp_yes, if_true, wp_call, wp_bin, wp_fld, wp_cons, wp_nil, wp_var, List.set_cons_succ, List.set_cons_zero, List.getElem?_cons_succ, List.getElem?_cons_zero, Option.some.injEq, ex_eq, insA_of T5.i, tab_ent, w_ixL, T5.e, hat]
      have hF5 : stF st5 rp = some (numG (numK f) 0 P) := by
        unfold stF
        rw [g5.get (stF_eq hF)]
      refine PW hF5 hP.s (hP.c.2 c hcm) (hok c hcm) fun st6 g6 => ⟨by rw [size_eq, List.length_map, List.length_take]; omega, g5.trans g6, ?_⟩
      rw [List.take_add_one, hc]
      simp
    · rintro st5 acc ⟨g5, rfl⟩
      rw [List.length_map, List.take_length]
      have g6 := g5.trans (.one st5 (.lst (P.map (entA P))))
      have hz : stL (st5 ++ [Ob.lst (P.map (entA P))]) st5.length = some (P.map (entA P)) := stL_new
      have hF6 : stF (st5 ++ [Ob.lst (P.map (entA P))]) rp = some (numG (numK f) 0 P) := by
        unfold stF
        rw [g6.get (stF_eq hF)]
      have hne : rp ≠ st5.length := by
        have := (Hold.grown g5).len
        omega
      have l5 := (Hold.grown g5).len
      generalize hs6 : st5 ++ [Ob.lst (P.map (entA P))] = st6 at *
      refine ⟨st6.set rp (.oth (.dct (numG (numK f) 0 P))), ?_, ?_⟩
      · unfold unF
        rw [hF6]
      · rw [w_tupL, stL_set_ne' hne]
        refine ⟨_, hz, hQ _ ?_⟩
        have h46 := Hold.grown g6
        rw [← hs4] at h46
        have hl6 := h46.len
        rw [List.length_set] at hl6
        have h3l := h3.len
        refine ⟨by rw [List.length_set]; omega, fun i hi => ?_⟩
        rw [List.getElem?_set_ne (by omega), h46.get i (by rw [List.length_set]; omega), List.getElem?_set_ne (by omega), h3.get i hi]
  have mkP : ∀ (f : List Nd) (st2 : Store), Hold st st2 → Tab f st.length st2 → Plc f [] st.length st2.length (st2 ++ [.oth (.dct [])]) := fun f st2 h2 T2 => by
    have hz := stL_lt T2.z
    refine ⟨T2.grown (.one _ _), clo_nil', by simp, ?_, by omega⟩
    rw [stD_new]
    rfl
  rintro ρ st2 (⟨e, h2, T2, rfl⟩ | ⟨j, root, ht, h2, T2, rfl⟩)
  · have hP := mkP _ _ h2 T2
    have h3 : Hold st (st2 ++ [.oth (.dct [])]) := h2.grow (.one _ _)
    have hl2 := h2.len
    refine seq_cut (fun ρ st3 => st3 = st2 ++ [.oth (.dct [])] ∧ ρ = [some (.tup xs), some (.ref st.length), some .non, some (.ref st2.length), none]) ?_ ?_
    · simp only [sp_set, wp_dnew, List.set_cons_zero, List.set_cons_succ]
      exact ⟨by first | exact rfl | exact trivial, by first | exact rfl | exact trivial⟩
    rintro ρ st3 ⟨rfl, rfl⟩
    refine seq_cut (fun ρ st4 => st4 = st2 ++ [.oth (.dct [])] ∧ ρ = [some (.tup xs), some (.ref st.length), some .non, some (.ref st2.length), none]) ?_ ?_
    · simp only [sp_ifs, wp_gb, wp_bin, wp_var, wp_c, List.getElem?_cons_succ, List.getElem?_cons_zero, Option.some.injEq, ex_eq, w_notN, isNon_non, Bool.not_true, w_getB, Bool.false_eq_true, if_false, sp_next]
      exact ⟨by first | exact rfl | exact trivial, by first | exact rfl | exact trivial⟩
    rintro ρ st4 ⟨rfl, rfl⟩
    exact tail [] [] _ _ _ h3 hP hl2 (by simp) (by simp) (k0 e)
  · have hP := mkP _ _ h2 T2
    have h3 : Hold st (st2 ++ [.oth (.dct [])]) := h2.grow (.one _ _)
    have hl2 := h2.len
    have hroot : root ∈ tabF [] (xs.map .leaf) (j + 1) := its_in (Nat.lt_succ_self j) (by rw [ht.it]; simp)
    have hOk := T2.ok root hroot
    obtain ⟨o1, o2⟩ := okt_lis hOk
    have evl : vis root [] = lis root [] := vis_lis root clo_nil'
    have hnn : isNonA (numA (tabF [] (xs.map .leaf) (j + 1)) root) = false := rfl
    generalize hf : tabF [] (xs.map .leaf) (j + 1) = f at *
    refine seq_cut (fun ρ st3 => st3 = st2 ++ [.oth (.dct [])] ∧ ρ = [some (.tup xs), some (.ref st.length), some (numA f root), some (.ref st2.length), none]) ?_ ?_
    · simp only [sp_set, wp_dnew, List.set_cons_zero, List.set_cons_succ]
      exact ⟨by first | exact rfl | exact trivial, by first | exact rfl | exact trivial⟩
    rintro ρ st3 ⟨rfl, rfl⟩
    refine seq_cut (fun ρ st4 => Hold st st4 ∧ Plc f (lis root []) st.length st2.length st4 ∧ ρ = [some (.tup xs), some (.ref st.length), some (numA f root), some (.ref st2.length), none]) ?_ ?_
    · simp only [sp_ifs, sp_expr, wp_gb, wp_bin, wp_call, wp_cons, wp_nil, wp_var, wp_c, List.getElem?_cons_succ, List.getElem?_cons_zero, Option.some.injEq, ex_eq, w_notN, hnn, Bool.not_false, w_getB, if_true]
      refine LN root f [] st.length st2.length _ _ (by have := hOk.dp; omega) hroot hP (by rw [evl]; omega) fun st4 f4 P4 => ?_
      rw [evl] at P4
      refine ⟨⟨Nat.le_trans h3.len f4.len, fun i hi => ?_⟩, P4, by first | exact rfl | exact trivial⟩
      rw [f4.get i (Nat.lt_of_lt_of_le hi h3.len) (by omega) (by omega), h3.get i hi]
    rintro ρ st4 ⟨h4, P4, rfl⟩
    exact tail f (lis root []) _ _ _ h4 P4 hl2 o1 (fun m hm => (o2 m hm).1) (k j root · ht)
end Law
namespace Law
open PySem L2 ML
open Classical
structure Num (f : List Nd) (rn rf : Nat) (st : Store) : Prop where
  c : Clo f
  ok : ∀ m ∈ f, okN m
  d : stD st rn = some (numF f)
  l : stL st rf = some (f.map ndA)
  ne : rn ≠ rf
theorem Num.grown {f : List Nd} {rn rf : Nat} {st st' : Store} (h : Num f rn rf st) (g : Grown st st') : Num f rn rf st' := ⟨h.c, h.ok, Grown.stD g h.d, g.stL h.l, h.ne⟩
end Law
namespace Law
open PySem L2 ML
open Classical
mutual
theorem lis_ord : ∀ (nd : Nd) {f : List Nd}, Clo f → Ord f → Ord (lis nd f)
  | .leaf e, f, h, o => by
    simp only [lis]
    exact addN_ord o h (by simp [kids])
  | .run b t, f, h, o => by
    simp only [lis]
    obtain ⟨c1, _, m1⟩ := lis_ok b h
    exact addN_ord (lis_ord b h o) c1 (by simpa [kids] using m1)
  | .blk cs, f, h, o => by
    simp only [lis]
    obtain ⟨c1, _, m1⟩ := lisL_ok cs h
    exact addN_ord (lisL_ord cs h o) c1 (by simpa [kids] using m1)
theorem lisL_ord : ∀ (cs : List Nd) {f : List Nd}, Clo f → Ord f → Ord (lisL cs f)
  | [], f, h, o => by simpa [lisL] using o
  | c :: cs, f, h, o => by
    simp only [lisL]
    exact lisL_ord cs (lis_ok c h).1 (lis_ord c h o)
end
theorem ord_nil : Ord [] := fun i n h => by simp at h
theorem tbl_clo (root : Nd) : Clo (tblN root) := (lis_ok root clo_nil').1
theorem tbl_root (root : Nd) : root ∈ tblN root := (lis_ok root clo_nil').2.2
theorem top_okt {xs : List A} (hx : ∀ x ∈ xs, El x) (hl : xs.length ≤ 2000) {j : Nat} {root : Nd} (h : IsTop (xs.map .leaf) j root) : Okt root := by
  have hj := few_levels (lv_ok hx hl j) hl (h.ne j (Nat.le_refl _))
  exact (lv_ok hx hl j).itmsOkt hl (by omega) root (by rw [h.it]; simp)
theorem top_ne {xs : List A} {j : Nat} {root : Nd} (h : IsTop (xs.map .leaf) j root) : xs ≠ [] := fun e => h.ne 0 (Nat.zero_le _) (by rw [e]; rfl)
end Law
namespace Law
open PySem L2 ML
open Classical
theorem lis_all {p : Nd → Prop} (hp : ∀ n, p n → ∀ c ∈ kids n, p c) : ∀ (nd : Nd) {f : List Nd}, p nd → (∀ x ∈ f, p x) → ∀ x ∈ lis nd f, p x := by
  intro nd
  induction nd using Nd.rec (motive_2 := fun cs => ∀ {f : List Nd}, (∀ c ∈ cs, p c) → (∀ x ∈ f, p x) → ∀ x ∈ lisL cs f, p x) with
  | leaf e =>
    intro f h hf x hx
    simp only [lis, addN] at hx
    split at hx
    · exact hf x hx
    · rcases List.mem_append.mp hx with z | z
      · exact hf x z
      · simp at z
        subst z
        exact h
  | run b t ih =>
    intro f h hf x hx
    have := ih (hp _ h b (by simp [kids])) hf
    simp only [lis, addN] at hx
    split at hx
    · exact this x hx
    · rcases List.mem_append.mp hx with z | z
      · exact this x z
      · simp at z
        subst z
        exact h
  | blk cs ih =>
    intro f h hf x hx
    have := ih (fun c hc => hp _ h c (by simpa [kids] using hc)) hf
    simp only [lis, addN] at hx
    split at hx
    · exact this x hx
    · rcases List.mem_append.mp hx with z | z
      · exact this x z
      · simp at z
        subst z
        exact h
  | nil =>
    rename_i f _ hf x hx
    simp only [lisL] at hx
    exact hf x hx
  | cons c cs ih1 ih2 =>
    rename_i f h hf x hx
    simp only [lisL] at hx
    exact ih2 (fun d hd => h d (by simp [hd])) (ih1 (h c (by simp)) hf) x hx
def hgtN : Nd → Nat
  | .leaf _ => 0
  | .run b _ => hgtN b
  | .blk [] => 1
  | .blk (c :: _) => 1 + hgtN c
end Law
namespace Law
open PySem L2 ML
open Classical
noncomputable def preG (x : Nd) : List Gp → List Gp
  | [] => [(x, 1)]
  | g :: gs => if g.1 = x then (x, g.2 + 1) :: gs else (x, 1) :: g :: gs
theorem grp_pre (x : Nd) (Z : List Nd) : grp (x :: Z) = preG x (grp Z) := by
  simp only [grp]
  cases grp Z <;> rfl
theorem grp_meet {h : Gp} {hs : List Gp} {Z : List Nd} (hZ : grp Z = h :: hs) : ∀ (X : List Nd) {init : List Gp} {g : Gp}, grp X = init ++ [g] → grp (X ++ Z) = if g.1 = h.1 then init ++ (g.1, g.2 + h.2) :: hs else init ++ g :: h :: hs
  | [], init, g, e => by
    have := congrArg List.length e
    simp [grp] at this
  | x :: X, init, g, e => by
    rw [List.cons_append, grp_pre]
    rw [grp_pre] at e
    cases eX : grp X with
    | nil =>
      have hx : X = [] := by rw [← grp_exp X, eX]; rfl
      subst hx
      rw [eX] at e
      simp only [preG] at e
      have h1 : init = [] ∧ g = (x, 1) := by
        cases init with
        | nil => exact ⟨rfl, by simpa using e.symm⟩
        | cons a i2 => simp at e
      obtain ⟨rfl, rfl⟩ := h1
      rw [List.nil_append, hZ]
      simp only [preG]
      by_cases c : h.1 = x
      · rw [if_pos c, if_pos c.symm, Nat.add_comm 1]
        rfl
      · rw [if_neg c, if_neg (fun z => c z.symm)]
        rfl
    | cons a i2 =>
      obtain ⟨ini, gl, eg⟩ : ∃ ini gl, a :: i2 = ini ++ [gl] := ⟨(a :: i2).dropLast, (a :: i2).getLast (by simp), (List.dropLast_concat_getLast _).symm⟩
      have ih := grp_meet hZ X (by rw [eX, eg])
      rw [ih]
      rw [eX, eg] at e
      cases ini with
      | nil =>
        simp only [List.nil_append, preG] at e ⊢
        by_cases cx : gl.1 = x
        · rw [if_pos cx] at e
          have h1 : init = [] ∧ g = (x, gl.2 + 1) := by
            cases init with
            | nil => exact ⟨rfl, by simpa using e.symm⟩
            | cons a i2 => simp at e
          obtain ⟨rfl, rfl⟩ := h1
          simp only
          by_cases c : gl.1 = h.1
          · rw [if_pos c, if_pos (by rw [← cx]; exact c)]
            simp only [preG, if_pos cx, List.nil_append]
            rw [Nat.add_right_comm]
          · rw [if_neg c, if_neg (by rw [← cx]; exact c)]
            simp only [preG, if_pos cx, List.nil_append]
        · rw [if_neg cx] at e
          have h1 : init = [(x, 1)] ∧ g = gl := by
            cases init with
            | nil => simp at e
            | cons a i2 =>
              simp only [List.cons_append, List.cons.injEq] at e
              cases i2 with
              | nil => exact ⟨by rw [← e.1], by simpa using e.2.symm⟩
              | cons b i3 => have := congrArg List.length e.2; simp at this
          obtain ⟨rfl, rfl⟩ := h1
          by_cases c : g.1 = h.1
          · rw [if_pos c, if_pos c]
            simp only [preG, if_neg cx]
            rfl
          · rw [if_neg c, if_neg c]
            simp only [preG, if_neg cx]
            rfl
      | cons b i3 =>
        have e' : init ++ [g] = (if b.1 = x then (x, b.2 + 1) :: i3 else (x, 1) :: b :: i3) ++ [gl] := by
          rw [← e]
          simp only [List.cons_append, preG]
          split <;> rfl
        obtain ⟨q1, q2⟩ := List.append_inj' e' rfl
        cases q2
        rw [q1]
        by_cases c : g.1 = h.1
        · rw [if_pos c, if_pos c]
          simp only [List.cons_append, preG]
          split <;> rfl
        · rw [if_neg c, if_neg c]
          simp only [List.cons_append, preG]
          split <;> rfl
theorem tree_lev {xs : List A} (hx : ∀ x ∈ xs, El x) (hl : xs.length ≤ 2000) {h : Nat} {root : Nd} (ht : IsTop (xs.map .leaf) h root) : ∀ n ∈ tblN root, ∃ j, j ≤ h ∧ (n ∈ lv (xs.map .leaf) j ∨ n ∈ itms (lv (xs.map .leaf) j)) := by
  refine lis_all (p := fun n => ∃ j, j ≤ h ∧ (n ∈ lv (xs.map .leaf) j ∨ n ∈ itms (lv (xs.map .leaf) j))) ?_ root ⟨h, Nat.le_refl _, .inr (by rw [ht.it]; simp)⟩ (by simp)
  have row : ∀ (j : Nat) (n : Nd), j ≤ h → n ∈ lv (xs.map .leaf) j → ∀ c ∈ kids n, ∃ j, j ≤ h ∧ (c ∈ lv (xs.map .leaf) j ∨ c ∈ itms (lv (xs.map .leaf) j)) := fun j n hj hn c hc => by
    cases j with
    | zero =>
      obtain ⟨x, _, rfl⟩ := List.mem_map.mp (show n ∈ xs.map Nd.leaf from hn)
      simp [kids] at hc
    | succ j =>
      have hn' : n ∈ nxt (lv (xs.map .leaf) j) := hn
      unfold nxt at hn'
      split at hn'
      · obtain ⟨p, hp, rfl⟩ := List.mem_map.mp hn'
        have hR := (lv_ok hx hl j).row hl (by
          have := few_levels (lv_ok hx hl j) hl (ht.ne j (by omega))
          omega)
        exact ⟨j, by omega, .inr (by rw [← prts_flat hR]; exact List.mem_flatten.mpr ⟨p, hp, by simpa [kids] using hc⟩)⟩
      · cases hn'
  rintro n ⟨j, hj, hn | hn⟩ c hc
  · exact row j n hj hn c hc
  · unfold itms at hn
    obtain ⟨g, hg, rfl⟩ := List.mem_map.mp hn
    unfold itmN at hc
    split at hc
    · exact row j g.1 hj (grp_mem hg).1 c hc
    · simp [kids] at hc
      rw [hc]
      exact ⟨j, hj, .inl (grp_mem hg).1⟩
theorem lev_tree {xs : List A} (hx : ∀ x ∈ xs, El x) (hl : xs.length ≤ 2000) {h : Nat} {root : Nd} (ht : IsTop (xs.map .leaf) h root) (d : Nat) : ∀ j, j + d = h → (∀ n ∈ itms (lv (xs.map .leaf) j), n ∈ tblN root) ∧ ∀ n ∈ lv (xs.map .leaf) j, n ∈ tblN root := by
  have dn : ∀ j, (∀ n ∈ itms (lv (xs.map .leaf) j), n ∈ tblN root) → ∀ n ∈ lv (xs.map .leaf) j, n ∈ tblN root := fun j hi n hn => by
    have hn' : n ∈ expG (grp (lv (xs.map .leaf) j)) := by rw [grp_exp]; exact hn
    unfold expG at hn'
    obtain ⟨l, hl', hnl⟩ := List.mem_flatten.mp hn'
    obtain ⟨g, hg, rfl⟩ := List.mem_map.mp hl'
    have en := (List.mem_replicate.mp hnl).2
    have hit := hi (itmN g) (List.mem_map_of_mem hg)
    rw [en]
    unfold itmN at hit
    split at hit
    · exact hit
    · exact (tbl_clo root).2 _ hit g.1 (by simp [kids])
  induction d with
  | zero =>
    intro j hj
    have hi : ∀ n ∈ itms (lv (xs.map .leaf) j), n ∈ tblN root := fun n hn => by
      rw [show j = h by omega, ht.it] at hn
      rw [List.mem_singleton.mp hn]
      exact tbl_root root
    exact ⟨hi, dn j hi⟩
  | succ d ih =>
    intro j hj
    obtain ⟨_, i2⟩ := ih (j + 1) (by omega)
    have hi : ∀ n ∈ itms (lv (xs.map .leaf) j), n ∈ tblN root := fun n hn => by
      have hne := ht.ne (j + 1) (by omega)
      have hR := (lv_ok hx hl j).row hl (by
          have := few_levels (lv_ok hx hl j) hl (ht.ne j (by omega))
          omega)
      rw [← prts_flat hR] at hn
      obtain ⟨p, hp, hnp⟩ := List.mem_flatten.mp hn
      have hb : Nd.blk p ∈ lv (xs.map .leaf) (j + 1) := by
        have e : lv (xs.map .leaf) (j + 1) = nxt (lv (xs.map .leaf) j) := rfl
        rw [e] at hne ⊢
        unfold nxt at hne ⊢
        split
        · exact List.mem_map_of_mem hp
        · rename_i q
          rw [if_neg q] at hne
          exact absurd rfl hne
      exact (tbl_clo root).2 _ (i2 _ hb) n (by simpa [kids] using hnp)
    exact ⟨hi, dn j hi⟩
theorem top_ex {xs : List A} (hx : ∀ x ∈ xs, El x) (hl : xs.length ≤ 2000) (hn : xs ≠ []) : ∃ h root, IsTop (xs.map .leaf) h root := by
  have key : ∀ d j, (∀ i, i ≤ j → lv (xs.map .leaf) i ≠ []) → j + d = 11 → ∃ h root, IsTop (xs.map .leaf) h root := fun d => by
    induction d with
    | zero =>
      intro j hne hj
      have := few_levels (lv_ok hx hl j) hl (hne j (Nat.le_refl _))
      omega
    | succ d ih =>
      intro j hne hj
      by_cases c : lv (xs.map .leaf) (j + 1) = []
      · obtain ⟨root, hr⟩ := top_of hx hl hne c
        exact ⟨j, root, hr⟩
      · refine ih (j + 1) (fun i hi => ?_) (by omega)
        by_cases q : i = j + 1
        · rw [q]; exact c
        · exact hne i (by omega)
  refine key 11 0 (fun i hi => ?_) rfl
  rw [show i = 0 by omega]
  show xs.map Nd.leaf ≠ []
  exact fun e => hn (List.map_eq_nil_iff.mp e)
theorem nodup_sub : ∀ {L N : List Nd}, L.Nodup → (∀ x ∈ L, x ∈ N) → L.length ≤ N.length
  | [], _, _, _ => Nat.zero_le _
  | x :: L, N, h, hs => by
    obtain ⟨h1, h2⟩ := List.nodup_cons.mp h
    have hx := hs x (by simp)
    obtain ⟨a, b, rfl⟩ := List.append_of_mem hx
    have ih := nodup_sub (N := a ++ b) h2 fun y hy => by
      have hy' := hs y (by simp [hy])
      have hyx : y ≠ x := fun e => h1 (e ▸ hy)
      simp only [List.mem_append, List.mem_cons] at hy' ⊢
      rcases hy' with z | z | z
      · exact .inl z
      · exact absurd z hyx
      · exact .inr z
    simp only [List.length_append, List.length_cons] at ih ⊢
    omega
end Law
namespace Law
open PySem L2 ML
open Classical
theorem col_tk {xs ys : List Nd} {k j : Nat} (h : xs.take k = ys.take k) (hx : k ≤ xs.length) (hy : k ≤ ys.length) (hj : j < k) : (colsZ xs).getD j 0 = (colsZ ys).getD j 0 := by
  have e1 : (colN xs).getD j 0 = (colN (xs.take k)).getD j 0 := by
    have := col_pre (xs := xs.take k) (ys := xs.drop k) (i := j) (by rw [List.length_take]; omega)
    rwa [List.take_append_drop] at this
  have e2 : (colN ys).getD j 0 = (colN (ys.take k)).getD j 0 := by
    have := col_pre (xs := ys.take k) (ys := ys.drop k) (i := j) (by rw [List.length_take]; omega)
    rwa [List.take_append_drop] at this
  unfold colsZ
  rw [intsN_get, intsN_get, e1, e2, h]
theorem pk_tk {xs ys : List Nd} {k e : Nat} (h : xs.take k = ys.take k) (hx : k ≤ xs.length) (hy : k ≤ ys.length) (he : e + 1 < k) : isPk (colsZ xs) e ↔ isPk (colsZ ys) e := by
  unfold isPk
  rw [col_tk h hx hy (show e - 1 < k by omega), col_tk h hx hy (show e < k by omega), col_tk h hx hy he]
theorem slc_tk {α : Type} {xs ys : List α} {k : Nat} (h : xs.take k = ys.take k) : ∀ E : List Nat, (∀ e ∈ E, e ≤ k) → slc E xs = slc E ys
  | [], _ => rfl
  | [a], _ => rfl
  | a :: b :: E, hE => by
    have ih := slc_tk h (b :: E) fun e he => hE e (by simp at he ⊢; exact .inr he)
    simp only [slc, ih]
    congr 2
    have hb := hE b (by simp)
    have e1 : xs.take b = (xs.take k).take b := by rw [List.take_take, Nat.min_eq_left hb]
    have e2 : ys.take b = (ys.take k).take b := by rw [List.take_take, Nat.min_eq_left hb]
    rw [e1, e2, h]
end Law
namespace Law
open PySem L2 ML
open Classical
theorem slc_r {α : Type} (xs : List α) : ∀ E2 E3 : List Nat, ∃ Mid, slc (E2 ++ E3) xs = Mid ++ slc E3 xs ∧ Mid.length ≤ E2.length
  | [], E3 => ⟨[], rfl, Nat.le_refl _⟩
  | [a], [] => ⟨[], rfl, Nat.zero_le _⟩
  | [a], c :: E3 => ⟨[(xs.take c).drop a], rfl, Nat.le_refl _⟩
  | a :: b :: E2, E3 => by
    obtain ⟨M, e, h⟩ := slc_r xs (b :: E2) E3
    simp only [List.cons_append] at e
    refine ⟨(xs.take b).drop a :: M, ?_, by simp only [List.length_cons] at h ⊢; omega⟩
    simp only [List.cons_append, slc, e]
theorem slc_mid {α : Type} (xs : List α) : ∀ E1 E2 E3 : List Nat, ∃ Mid, slc (E1 ++ (E2 ++ E3)) xs = slc E1 xs ++ (Mid ++ slc E3 xs) ∧ Mid.length ≤ E2.length + 1
  | [], E2, E3 => by
    obtain ⟨M, e, h⟩ := slc_r xs E2 E3
    exact ⟨M, by rw [List.nil_append, e]; rfl, by omega⟩
  | [a], E2, E3 => by
    obtain ⟨M, e, h⟩ := slc_r xs (a :: E2) E3
    exact ⟨M, by rw [List.singleton_append, ← List.cons_append, e]; rfl, by simpa using h⟩
  | a :: b :: E1, E2, E3 => by
    obtain ⟨M, e, h⟩ := slc_mid xs (b :: E1) E2 E3
    simp only [List.cons_append] at e
    exact ⟨M, by simp only [List.cons_append, slc, e], h⟩
theorem edg_len (xs : List Nd) : xs.length ∈ edg xs := by unfold edg; simp
theorem edg_one {xs : List Nd} (h : 2 ≤ xs.length) : 1 ∉ edg xs := fun q => by
  unfold edg at q
  rcases List.mem_append.mp q with z | z
  · rcases starts_mem z with e | e <;> omega
  · have := List.mem_singleton.mp z
    omega
theorem edg_last {xs : List Nd} {e : Nat} (h : e + 1 = xs.length) (h2 : 1 ≤ e) : e ∉ edg xs := fun q => by
  unfold edg at q
  rcases List.mem_append.mp q with z | z
  · rcases starts_mem z with e' | e'
    · omega
    · rw [colsZ_len] at e'
      omega
  · have := List.mem_singleton.mp z
    omega
theorem edge_l {I Z X : List Nd} {e : Nat} (he : e + 2 ≤ I.length) : e ∈ edg (I ++ Z) ↔ e ∈ edg (I ++ X) := by
  have n1 : I ++ Z ≠ [] := fun q => by have := congrArg List.length q; simp at this; rw [this.1] at he; simp at he
  have n2 : I ++ X ≠ [] := fun q => by have := congrArg List.length q; simp at this; rw [this.1] at he; simp at he
  by_cases c : e = 0
  · subst c
    obtain ⟨E, h1⟩ := edg_zero n1
    obtain ⟨E', h2⟩ := edg_zero n2
    rw [h1, h2]
    simp
  by_cases c1 : e = 1
  · subst c1
    exact ⟨fun q => absurd q (edg_one (by simp; omega)), fun q => absurd q (edg_one (by simp; omega))⟩
  rw [edg_mem (by omega) (by simp; omega), edg_mem (by omega) (by simp; omega)]
  exact pk_tk (k := I.length) (by simp) (by simp) (by simp) (by omega)
theorem col_r {Z Y T : List Nd} {i : Nat} (h5 : 5 ≤ i) (hi : i < T.length) : (colsZ (Z ++ T)).getD (Z.length + i) 0 = (colsZ (Y ++ T)).getD (Y.length + i) 0 := by
  unfold colsZ
  rw [intsN_get, intsN_get]
  congr 1
  refine col_loc (by omega) (by omega) (by simp; omega) (by simp; omega) fun t ht => ?_
  rw [List.getElem?_append_right (by omega), List.getElem?_append_right (by omega)]
  congr 1
  omega
theorem edge_r {Z Y T : List Nd} {m : Nat} (h6 : 6 ≤ m) : Z.length + m ∈ edg (Z ++ T) ↔ Y.length + m ∈ edg (Y ++ T) := by
  by_cases c : T.length < m
  · have no : ∀ Z : List Nd, Z.length + m ∉ edg (Z ++ T) := fun Z q => by
      by_cases e : Z ++ T = []
      · rw [e] at q
        unfold edg at q
        rcases List.mem_append.mp q with z | z
        · rcases starts_mem z with e' | e'
          · omega
          · rw [colsZ_len] at e'
            simp at e'
        · have := List.mem_singleton.mp z
          simp at this
          omega
      · have := edg_le e _ q
        simp at this
        omega
    exact ⟨fun q => absurd q (no Z), fun q => absurd q (no Y)⟩
  by_cases c1 : m = T.length
  · subst c1
    have yes : ∀ Z : List Nd, Z.length + T.length ∈ edg (Z ++ T) := fun Z => by rw [← List.length_append]; exact edg_len _
    exact ⟨fun _ => yes Y, fun _ => yes Z⟩
  by_cases c2 : m + 1 = T.length
  · exact ⟨fun q => absurd q (edg_last (by simp; omega) (by omega)), fun q => absurd q (edg_last (by simp; omega) (by omega))⟩
  rw [edg_mem (by omega) (by simp; omega), edg_mem (by omega) (by simp; omega)]
  unfold isPk
  rw [show Z.length + m - 1 = Z.length + (m - 1) by omega, show Z.length + m + 1 = Z.length + (m + 1) by omega, show Y.length + m - 1 = Y.length + (m - 1) by omega, show Y.length + m + 1 = Y.length + (m + 1) by omega]
  rw [col_r (Y := Y) (i := m - 1) (by omega) (by omega), col_r (Y := Y) (i := m) (by omega) (by omega), col_r (Y := Y) (i := m + 1) (by omega) (by omega)]
theorem slc_off {α : Type} (Z T : List α) : ∀ E : List Nat, slc (E.map (Z.length + ·)) (Z ++ T) = slc E T
  | [] => rfl
  | [a] => rfl
  | a :: b :: E => by
    have ih := slc_off Z T (b :: E)
    simp only [List.map_cons] at ih
    simp only [List.map_cons, slc, ih]
    congr 1
    rw [List.take_append, List.take_of_length_le (by omega), show Z.length + b - Z.length = b by omega, List.drop_append, List.drop_eq_nil_of_le (by omega), show Z.length + a - Z.length = a by omega]
    rfl
theorem grp_leftS {X : List Nd} {g : Gp} {rest : List Gp} (hX : grp X = g :: rest) : ∀ P : List Nd, ∃ (A : List Gp) (t : Nat), grp (P ++ X) = A ++ (g.1, t) :: rest ∧ (A.map (·.2)).sum ≤ P.length ∧ ∀ a ∈ A, 1 ≤ a.2
  | [] => ⟨[], g.2, hX, Nat.le_refl _, by simp⟩
  | n :: P => by
    obtain ⟨A, t, e, hl, h1⟩ := grp_leftS hX P
    show ∃ (A : List Gp) (t : Nat), grp (n :: (P ++ X)) = _ ∧ _
    simp only [grp, e]
    cases A with
    | nil =>
      simp only [List.nil_append]
      by_cases c : g.1 = n
      · rw [if_pos c]
        exact ⟨[], t + 1, by rw [← c]; rfl, by simp, by simp⟩
      · rw [if_neg c]
        exact ⟨[(n, 1)], t, rfl, by simp, by simp⟩
    | cons a A =>
      simp only [List.cons_append]
      simp only [List.map_cons, List.sum_cons] at hl
      by_cases c : a.1 = n
      · rw [if_pos c]
        exact ⟨(n, a.2 + 1) :: A, t, rfl, by simp; omega, fun b hb => by
          rcases List.mem_cons.mp hb with z | z
          · rw [z]; simp
          · exact h1 b (by simp [z])⟩
      · rw [if_neg c]
        exact ⟨(n, 1) :: a :: A, t, rfl, by simp; omega, fun b hb => by
          rcases List.mem_cons.mp hb with z | z
          · rw [z]; simp
          · exact h1 b z⟩
theorem grp_rightS : ∀ (Q X : List Nd) {init : List Gp} {g : Gp}, grp X = init ++ [g] → ∃ (t : Nat) (B : List Gp), grp (X ++ Q) = init ++ (g.1, t) :: B ∧ (B.map (·.2)).sum ≤ Q.length ∧ ∀ b ∈ B, 1 ≤ b.2 := fun Q X init g h => by
  cases e : grp Q with
  | nil =>
    have hq : Q = [] := by rw [← grp_exp Q, e]; rfl
    subst hq
    exact ⟨g.2, [], by rw [List.append_nil, h], by simp, by simp⟩
  | cons y ys =>
    have hs : ((y :: ys).map (·.2)).sum = Q.length := by rw [← e, ← exp_len, grp_exp]
    have h1 : ∀ b ∈ y :: ys, 1 ≤ b.2 := fun b hb => (grp_mem (ns := Q) (by rw [e]; exact hb)).2
    rw [grp_meet e X h]
    split
    · exact ⟨_, ys, rfl, by rw [← hs]; simp, fun b hb => h1 b (by simp [hb])⟩
    · exact ⟨g.2, y :: ys, rfl, by rw [hs]; exact Nat.le_refl _, h1⟩
def runC (gs : List Gp) : Nat := (gs.filter fun g => decide (2 ≤ g.2)).length
theorem runC_app (a b : List Gp) : runC (a ++ b) = runC a + runC b := by simp [runC]
theorem runC_sum : ∀ gs : List Gp, 2 * runC gs ≤ (gs.map (·.2)).sum
  | [] => Nat.le_refl _
  | g :: gs => by
    have := runC_sum gs
    unfold runC at this ⊢
    rw [List.filter_cons]
    split
    · rename_i h
      simp at h ⊢
      omega
    · simp only [List.map_cons, List.sum_cons]
      omega
theorem runC_len (gs : List Gp) : runC gs ≤ gs.length := List.length_filter_le _ _
theorem len_sum : ∀ {gs : List Gp}, (∀ g ∈ gs, 1 ≤ g.2) → gs.length ≤ (gs.map (·.2)).sum
  | [], _ => Nat.le_refl _
  | g :: gs, h => by
    have := len_sum (gs := gs) fun g hg => h g (by simp [hg])
    have := h g (by simp)
    simp only [List.length_cons, List.map_cons, List.sum_cons]
    omega
theorem grp_lastE {P : List Nd} (h : P ≠ []) : ∃ init g, grp P = init ++ [g] := ⟨(grp P).dropLast, (grp P).getLast (grp_ne h), (List.dropLast_concat_getLast _).symm⟩
theorem grp_consE {P : List Nd} (h : P ≠ []) : ∃ g rest, grp P = g :: rest := by
  cases e : grp P with
  | nil => exact absurd e (grp_ne h)
  | cons g rest => exact ⟨g, rest, rfl⟩
structure G3 (P M S : List Nd) (I K T : List Gp) : Prop where
  eq : grp (P ++ (M ++ S)) = I ++ (K ++ T)
  len : K.length ≤ M.length + 2
  run : 2 * runC K ≤ M.length + 4
  lft : ∀ U, ∃ X, grp (P ++ U) = I ++ X
  rgt : ∀ V, ∃ Y, grp (V ++ S) = Y ++ T
theorem grp_three (P M S : List Nd) : ∃ I K T, G3 P M S I K T := by
  obtain ⟨A, K0, T, e1, hA, hA1, hK0, rgt⟩ : ∃ (A K0 T : List Gp), grp (M ++ S) = A ++ (K0 ++ T) ∧ (A.map (·.2)).sum ≤ M.length ∧ (∀ a ∈ A, 1 ≤ a.2) ∧ K0.length ≤ 1 ∧ ∀ V, ∃ Y, grp (V ++ S) = Y ++ T := by
    by_cases hS : S = []
    · subst hS
      refine ⟨grp M, [], [], by simp, ?_, fun a ha => (grp_mem ha).2, by simp, fun V => ⟨grp V, by simp⟩⟩
      rw [← exp_len, grp_exp]
      exact Nat.le_refl _
    · obtain ⟨g, rest, e⟩ := grp_consE hS
      obtain ⟨A, t, e2, hA, hA1⟩ := grp_leftS e M
      refine ⟨A, [(g.1, t)], rest, by rw [e2]; rfl, hA, hA1, by simp, fun V => ?_⟩
      obtain ⟨B, t', e3, _, _⟩ := grp_leftS e V
      exact ⟨B ++ [(g.1, t')], by rw [e3]; simp⟩
  have lA := len_sum hA1
  have rA := runC_sum A
  have rK := runC_len K0
  by_cases hP : P = []
  · subst hP
    refine ⟨[], A ++ K0, T, ?_, ?_, ?_, fun U => ⟨_, rfl⟩, rgt⟩
    · rw [List.nil_append, e1]
      simp
    · rw [List.length_append]; omega
    · rw [runC_app]; omega
  obtain ⟨init, g, e⟩ := grp_lastE hP
  have lft : ∀ U, ∃ X, grp (P ++ U) = init ++ X := fun U => by
    obtain ⟨t, B, e2, _, _⟩ := grp_rightS U P e
    exact ⟨_, e2⟩
  cases e2 : grp (M ++ S) with
  | nil =>
    have hq : M ++ S = [] := by rw [← grp_exp (M ++ S), e2]; rfl
    rw [e2] at e1
    have hT : T = [] := by
      have := congrArg List.length e1
      simp at this
      exact List.length_eq_zero_iff.mp (by omega)
    refine ⟨init, [g], T, ?_, by simp, ?_, lft, rgt⟩
    · rw [hq, List.append_nil, e, hT]; simp
    · have := runC_len [g]
      simp only [List.length_singleton] at this
      omega
  | cons h hs =>
    have em := grp_meet e2 P e
    rw [e2] at e1
    have r1 : ∀ x : Gp, runC [x] ≤ 1 := fun x => runC_len [x]
    cases A with
    | nil =>
      have hh : h :: hs = K0 ++ T := by simpa using e1
      cases K0 with
      | nil =>
        split at em
        · refine ⟨init, [(g.1, g.2 + h.2)], T.drop 1, ?_, by simp, ?_, lft, fun V => ?_⟩
          · rw [em, ← List.nil_append T, ← hh]; simp
          · have := r1 (g.1, g.2 + h.2); omega
          · obtain ⟨Y, q⟩ := rgt V
            exact ⟨Y ++ [h], by rw [q, ← List.nil_append T, ← hh]; simp⟩
        · refine ⟨init, [g], T, ?_, by simp, ?_, lft, rgt⟩
          · rw [em, ← List.nil_append T, ← hh]; simp
          · have := r1 g; omega
      | cons k K1 =>
        have hk : K1 = [] := by simpa using hK0
        subst hk
        obtain ⟨rfl, rfl⟩ := List.cons.inj hh
        split at em
        · refine ⟨init, [(g.1, g.2 + h.2)], hs, ?_, by simp, ?_, lft, rgt⟩
          · rw [em]; simp
          · have := r1 (g.1, g.2 + h.2); omega
        · refine ⟨init, [g] ++ [h], hs, ?_, by simp, ?_, lft, rgt⟩
          · rw [em]; simp
          · rw [runC_app]
            have := r1 g; have := r1 h; omega
    | cons a A1 =>
      obtain ⟨rfl, rfl⟩ := List.cons.inj (show h :: hs = a :: (A1 ++ (K0 ++ T)) from e1)
      have rA1 : runC (h :: A1) = runC [h] + runC A1 := by rw [← runC_app]; rfl
      simp only [List.length_cons] at lA
      split at em
      · refine ⟨init, [(g.1, g.2 + h.2)] ++ (A1 ++ K0), T, ?_, ?_, ?_, lft, rgt⟩
        · rw [em]; simp
        · simp only [List.length_append, List.length_singleton]; omega
        · rw [runC_app, runC_app]
          have := r1 (g.1, g.2 + h.2)
          omega
      · refine ⟨init, [g] ++ ((h :: A1) ++ K0), T, ?_, ?_, ?_, lft, rgt⟩
        · rw [em]; simp
        · simp only [List.length_append, List.length_cons, List.length_nil]; omega
        · rw [runC_app, runC_app]
          have := r1 g
          omega
theorem asc2 (p : Nat → Bool) (hp : ∀ a b, a < b → p a = false → p b = false) : ∀ E : List Nat, E.Pairwise (· < ·) → E = E.filter p ++ E.filter (fun e => !p e)
  | [], _ => rfl
  | e :: E, h => by
    obtain ⟨h1, h2⟩ := List.pairwise_cons.mp h
    have ih := asc2 p hp E h2
    by_cases c : p e = true
    · rw [List.filter_cons_of_pos c, List.filter_cons_of_neg (by simp [c])]
      rw [List.cons_append, ← ih]
    · have c' : p e = false := by simpa using c
      have e1 : E.filter p = [] := List.filter_eq_nil_iff.mpr fun b hb => by rw [hp e b (h1 b hb) c']; simp
      have e2 : E.filter (fun e => !p e) = E := List.filter_eq_self.mpr fun b hb => by simp [hp e b (h1 b hb) c']
      rw [List.filter_cons_of_neg c, e1, List.filter_cons_of_pos (by simp [c']), e2]
      rfl
noncomputable def sfL (k : Nat) (xs : List Nd) : List Nat := (edg xs).filter fun e => decide (e + 2 ≤ k)
noncomputable def sfR (k : Nat) (xs : List Nd) : List Nat := (edg xs).filter fun e => decide (k + 6 ≤ e)
noncomputable def sfM (k l : Nat) (xs : List Nd) : List Nat := (edg xs).filter fun e => decide (k < e + 2 ∧ e < l + 6)
theorem asc3 {k l : Nat} (h : k ≤ l) {E : List Nat} (hE : E.Pairwise (· < ·)) : E = E.filter (fun e => decide (e + 2 ≤ k)) ++ (E.filter (fun e => decide (k < e + 2 ∧ e < l + 6)) ++ E.filter fun e => decide (l + 6 ≤ e)) := by
  have h1 := asc2 (fun e => decide (e + 2 ≤ k)) (fun a b hab ha => by simp at ha ⊢; omega) E hE
  have h2 := asc2 (fun e => decide (e < l + 6)) (fun a b hab ha => by simp at ha ⊢; omega) _ (hE.filter fun e => !decide (e + 2 ≤ k))
  rw [List.filter_filter, List.filter_filter] at h2
  have e1 : E.filter (fun e => decide (k < e + 2 ∧ e < l + 6)) = E.filter (fun a => decide (a < l + 6) && !decide (a + 2 ≤ k)) := List.filter_congr fun e he => by
    by_cases c1 : e + 2 ≤ k
    · by_cases c2 : e < l + 6 <;> simp [c1, c2] <;> omega
    · by_cases c2 : e < l + 6 <;> simp [c1, c2] <;> omega
  have e2 : E.filter (fun e => decide (l + 6 ≤ e)) = E.filter (fun a => (!decide (a < l + 6)) && !decide (a + 2 ≤ k)) := List.filter_congr fun e he => by
    by_cases c1 : e + 2 ≤ k
    · by_cases c2 : e < l + 6 <;> simp [c1, c2] <;> omega
    · by_cases c2 : e < l + 6 <;> simp [c1, c2] <;> omega
  rw [e1, e2, ← h2, ← h1]
theorem sf_split {k l : Nat} (h : k ≤ l) {xs : List Nd} (hx : xs ≠ []) : edg xs = sfL k xs ++ (sfM k l xs ++ sfR l xs) := asc3 h (edg_asc hx)
theorem sfL_mem {k : Nat} {xs : List Nd} {e : Nat} : e ∈ sfL k xs ↔ e ∈ edg xs ∧ e + 2 ≤ k := by unfold sfL; rw [List.mem_filter]; simp
theorem sfR_mem {k : Nat} {xs : List Nd} {e : Nat} : e ∈ sfR k xs ↔ e ∈ edg xs ∧ k + 6 ≤ e := by unfold sfR; rw [List.mem_filter]; simp
theorem sfM_mem {k l : Nat} {xs : List Nd} {e : Nat} : e ∈ sfM k l xs ↔ e ∈ edg xs ∧ (k < e + 2 ∧ e < l + 6) := by unfold sfM; rw [List.mem_filter]; simp
theorem edg_ascA (xs : List Nd) : (edg xs).Pairwise (· < ·) := by
  by_cases h : xs = []
  · subst h
    have : edg [] = [0] := by
      unfold edg startsL
      rw [if_pos (by have := colsZ_len []; exact List.length_eq_zero_iff.mp (by rw [this]; rfl))]
      rfl
    rw [this]
    simp
  · exact edg_asc h
theorem sfL_eq (I X Z : List Nd) : sfL I.length (I ++ X) = sfL I.length (I ++ Z) := by
  refine asc_extN ((edg_ascA _).filter _) ((edg_ascA _).filter _) fun z => ?_
  rw [sfL_mem, sfL_mem]
  exact ⟨fun ⟨a, b⟩ => ⟨(edge_l b).mp a, b⟩, fun ⟨a, b⟩ => ⟨(edge_l b).mp a, b⟩⟩
noncomputable def sfT (Y T : List Nd) : List Nat := (sfR Y.length (Y ++ T)).map (· - Y.length)
theorem sfT_mem {Y T : List Nd} {m : Nat} : m ∈ sfT Y T ↔ Y.length + m ∈ edg (Y ++ T) ∧ 6 ≤ m := by
  unfold sfT
  rw [List.mem_map]
  constructor
  · rintro ⟨e, h, rfl⟩
    obtain ⟨a, b⟩ := sfR_mem.mp h
    exact ⟨by rw [show Y.length + (e - Y.length) = e by omega]; exact a, by omega⟩
  · rintro ⟨a, b⟩
    exact ⟨_, sfR_mem.mpr ⟨a, by omega⟩, by omega⟩
theorem sfT_asc (Y T : List Nd) : (sfT Y T).Pairwise (· < ·) := by
  unfold sfT
  rw [List.pairwise_map]
  refine List.Pairwise.imp_of_mem (fun {a b} ha hb h => ?_) ((edg_ascA (Y ++ T)).filter _)
  have h1 := (sfR_mem.mp ha).2
  have h2 := (sfR_mem.mp hb).2
  omega
theorem sfT_eq (Y Z T : List Nd) : sfT Y T = sfT Z T := by
  refine asc_extN (sfT_asc _ _) (sfT_asc _ _) fun z => ?_
  rw [sfT_mem, sfT_mem]
  exact ⟨fun ⟨a, b⟩ => ⟨(edge_r b).mp a, b⟩, fun ⟨a, b⟩ => ⟨(edge_r b).mp a, b⟩⟩
theorem sfR_map (Y T : List Nd) : sfR Y.length (Y ++ T) = (sfT Y T).map (Y.length + ·) := by
  unfold sfT
  rw [List.map_map]
  conv => lhs; rw [← List.map_id (sfR Y.length (Y ++ T))]
  refine List.map_congr_left fun b hb => ?_
  have := (sfR_mem.mp hb).2
  simp
  omega
theorem slc_sfL (I X : List Nd) : slc (sfL I.length (I ++ X)) (I ++ X) = slc (sfL I.length (I ++ X)) I := slc_tk (k := I.length) (by simp) _ fun e he => by have := (sfL_mem.mp he).2; omega
theorem jn_left (I X : List Nd) : ∃ U, prts (I ++ X) = slc (sfL I.length (I ++ X)) I ++ U := by
  by_cases h : I ++ X = []
  · obtain ⟨rfl, rfl⟩ := List.append_eq_nil_iff.mp h
    have : sfL ([] : List Nd).length ([] ++ []) = [] := List.eq_nil_iff_forall_not_mem.mpr fun e he => by have := (sfL_mem.mp he).2; simp at this
    rw [this]
    exact ⟨_, rfl⟩
  obtain ⟨Mid, e, _⟩ := slc_mid (I ++ X) (sfL I.length (I ++ X)) (sfM I.length I.length (I ++ X)) (sfR I.length (I ++ X))
  rw [← sf_split (Nat.le_refl _) h, ← prts_slc, slc_sfL] at e
  exact ⟨_, e⟩
theorem jn_right (Y T : List Nd) : ∃ V, prts (Y ++ T) = V ++ slc (sfT Y T) T := by
  by_cases h : Y ++ T = []
  · obtain ⟨rfl, rfl⟩ := List.append_eq_nil_iff.mp h
    have : sfT ([] : List Nd) [] = [] := List.eq_nil_iff_forall_not_mem.mpr fun e he => by
      obtain ⟨a, b⟩ := sfT_mem.mp he
      have hc : (edg ([] ++ [] : List Nd)) = [0] := by
        unfold edg startsL
        rw [if_pos (by have := colsZ_len []; exact List.length_eq_zero_iff.mp (by rw [List.nil_append, this]; rfl))]
        rfl
      rw [hc] at a
      simp at a
      omega
    rw [this]
    exact ⟨_, (List.append_nil _).symm⟩
  obtain ⟨Mid, e, _⟩ := slc_mid (Y ++ T) (sfL Y.length (Y ++ T)) (sfM Y.length Y.length (Y ++ T)) (sfR Y.length (Y ++ T))
  rw [← sf_split (Nat.le_refl _) h, ← prts_slc, sfR_map, slc_off] at e
  exact ⟨_, by rw [e, List.append_assoc]⟩
theorem sfM_few {k l : Nat} {zs : List Nd} (hgap : (edg zs).Pairwise (fun a b => a + 2 ≤ b)) : 2 * (sfM k l zs).length ≤ l + 6 - (k - 1) + 1 := by
  refine few_gaps _ (k - 1) (l + 6) (fun x hx => ?_) (hgap.filter _)
  have := (sfM_mem.mp hx).2
  exact ⟨by clear hx hgap; omega, this.2⟩
theorem edg_gap {zs : List Nd} (hR : Row zs) (h2 : 2 ≤ zs.length) : (edg zs).Pairwise (fun a b => a + 2 ≤ b) := by
  have hne : zs ≠ [] := fun q => by rw [q] at h2; simp at h2
  refine gap_of _ _ (edg_asc hne) (edg_le hne) fun p hp => ?_
  rw [← prts_slc] at hp
  exact Nat.le_trans (Nat.le_min.mpr ⟨Nat.le_refl _, h2⟩) (prts_len hR hp).1
theorem jn_mid0 {k l : Nat} {zs : List Nd} (hR : Row zs) (h2 : 2 ≤ zs.length) (hkl : k ≤ l) : ∃ Mid, slc (edg zs) zs = slc (sfL k zs) zs ++ (Mid ++ slc (sfR l zs) zs) ∧ 2 * Mid.length ≤ l - k + 10 := by
  have hne : zs ≠ [] := fun q => by rw [q] at h2; simp at h2
  have c := sfM_few (k := k) (l := l) (edg_gap hR h2)
  obtain ⟨Mid, e, lM⟩ := slc_mid zs (sfL k zs) (sfM k l zs) (sfR l zs)
  rw [← sf_split hkl hne] at e
  refine ⟨Mid, e, ?_⟩
  clear e hne hR
  generalize (sfM k l zs).length = n at *
  omega
theorem jn_mid {I Z T : List Nd} (hR : Row (I ++ (Z ++ T))) (h2 : 2 ≤ (I ++ (Z ++ T)).length) : ∃ Mid, prts (I ++ (Z ++ T)) = slc (sfL I.length (I ++ (Z ++ T))) I ++ (Mid ++ slc (sfT (I ++ Z) T) T) ∧ 2 * Mid.length ≤ Z.length + 10 := by
  have hil : I.length ≤ (I ++ Z).length := by simp
  obtain ⟨Mid, e, lM⟩ := jn_mid0 hR h2 hil
  rw [← prts_slc, slc_sfL] at e
  have q : slc (sfR (I ++ Z).length ((I ++ Z) ++ T)) ((I ++ Z) ++ T) = slc (sfT (I ++ Z) T) T := by rw [sfR_map, slc_off]
  rw [List.append_assoc] at q
  refine ⟨Mid, ?_, ?_⟩
  · rw [e, q]
  · rw [List.length_append, Nat.add_sub_cancel_left] at lM
    exact lM
theorem nxt_if {ns : List Nd} (h : 2 ≤ (itms ns).length) : nxt ns = (prts (itms ns)).map Nd.blk := by
  unfold nxt
  rw [if_pos (by exact h)]
  rfl
theorem nxt_no {ns : List Nd} (h : (itms ns).length < 2) : nxt ns = [] := by
  unfold nxt
  rw [if_neg (by intro q; exact absurd h (Nat.not_lt.mpr q))]
theorem sfL_short {k : Nat} {xs : List Nd} (h : k < 2) : sfL k xs = [] := List.eq_nil_iff_forall_not_mem.mpr fun e he => by
  have := (sfL_mem.mp he).2
  clear he
  omega
theorem sfT_short {Y T : List Nd} (h : T.length < 2) : sfT Y T = [] := List.eq_nil_iff_forall_not_mem.mpr fun e he => by
  rw [sfT_eq Y (.leaf .non :: Y) T] at he
  obtain ⟨a, b⟩ := sfT_mem.mp he
  have := edg_le (by simp) _ a
  simp at this
  clear he a
  omega
def JnI (P M S U V W WX WY : List Nd) : Prop := W = P ++ (M ++ S) ∧ WX = P ++ U ∧ WY = V ++ S ∧ M.length ≤ 11
theorem jn_step {m j : Nat} {P M S U V : List Nd} (hW : LvOk m j (P ++ (M ++ S))) (hm : m ≤ 2000) (hj : j ≤ 11) (hM : M.length ≤ 11) : ∃ P' M' S' U' V', JnI P' M' S' U' V' (nxt (P ++ (M ++ S))) (nxt (P ++ U)) (nxt (V ++ S)) := by
  by_cases hs : (itms (P ++ (M ++ S))).length < 2
  · exact ⟨[], [], [], _, _, nxt_no hs, rfl, (List.append_nil _).symm, Nat.zero_le _⟩
  have hs' := Nat.le_of_not_lt hs
  have hR := hW.row hm hj
  obtain ⟨I, K, T, g⟩ := grp_three P M S
  obtain ⟨X, eX⟩ := g.lft U
  obtain ⟨Y, eY⟩ := g.rgt V
  have iW : itms (P ++ (M ++ S)) = I.map itmN ++ (K.map itmN ++ T.map itmN) := by unfold itms; rw [g.eq, List.map_append, List.map_append]
  have iX : itms (P ++ U) = I.map itmN ++ X.map itmN := by unfold itms; rw [eX, List.map_append]
  have iY : itms (V ++ S) = Y.map itmN ++ T.map itmN := by unfold itms; rw [eY, List.map_append]
  have hK : (K.map itmN).length ≤ M.length + 2 := by rw [List.length_map]; exact g.len
  rw [nxt_if hs']
  rw [iW] at hR hs' ⊢
  clear hW g eX eY hs
  have nX : ∃ U', nxt (P ++ U) = (slc (sfL (I.map itmN).length (I.map itmN ++ (K.map itmN ++ T.map itmN))) (I.map itmN)).map Nd.blk ++ U' := by
    by_cases c : (itms (P ++ U)).length < 2
    · refine ⟨[], ?_⟩
      rw [nxt_no c, sfL_short (by rw [iX, List.length_append] at c; exact Nat.lt_of_le_of_lt (Nat.le_add_right _ _) c)]
      rfl
    · rw [nxt_if (Nat.le_of_not_lt c), iX, ← sfL_eq _ (X.map itmN)]
      obtain ⟨U', e⟩ := jn_left (I.map itmN) (X.map itmN)
      rw [e, List.map_append]
      exact ⟨_, rfl⟩
  have nY : ∃ V', nxt (V ++ S) = V' ++ (slc (sfT (I.map itmN ++ K.map itmN) (T.map itmN)) (T.map itmN)).map Nd.blk := by
    by_cases c : (itms (V ++ S)).length < 2
    · refine ⟨[], ?_⟩
      rw [nxt_no c, sfT_short (by rw [iY, List.length_append] at c; exact Nat.lt_of_le_of_lt (Nat.le_add_left _ _) c)]
      rfl
    · rw [nxt_if (Nat.le_of_not_lt c), iY, sfT_eq _ (Y.map itmN)]
      obtain ⟨V', e⟩ := jn_right (Y.map itmN) (T.map itmN)
      rw [e, List.map_append]
      exact ⟨_, rfl⟩
  obtain ⟨Mid, e, lM⟩ := jn_mid hR hs'
  obtain ⟨U', eU⟩ := nX
  obtain ⟨V', eV⟩ := nY
  refine ⟨_, Mid.map Nd.blk, _, U', V', ?_, eU, eV, ?_⟩
  · rw [e, List.map_append, List.map_append]
  · rw [List.length_map]
    clear e eU eV hR
    omega
theorem jn_levels {m : Nat} {xs ys : List Nd} (hW : ∀ j, LvOk m j (lv (xs ++ ys) j)) (hm : m ≤ 2000) (j : Nat) : j ≤ 12 → ∃ P M S U V, JnI P M S U V (lv (xs ++ ys) j) (lv xs j) (lv ys j) ∧ (j = 0 → M = []) := by
  induction j with
  | zero => exact fun _ => ⟨xs, [], ys, [], [], ⟨rfl, (List.append_nil _).symm, rfl, Nat.zero_le _⟩, fun _ => rfl⟩
  | succ j ih =>
    intro hj
    obtain ⟨P, M, S, U, V, ⟨e1, e2, e3, hM⟩, _⟩ := ih (Nat.le_of_succ_le hj)
    have hk := hW j
    rw [e1] at hk
    obtain ⟨P', M', S', U', V', h⟩ := jn_step (U := U) (V := V) hk hm (Nat.le_of_succ_le_succ hj) hM
    rw [← e1, ← e2, ← e3] at h
    exact ⟨P', M', S', U', V', h, fun z => absurd z (Nat.succ_ne_zero _)⟩
end Law
namespace Law
open PySem L2 ML
open Classical
theorem find_key {α : Type} {f : List Nd} {n : Nd} (hn : n ∈ f) {val : Nd × α → A} : ∀ {F : List (Nd × α)}, (∀ p ∈ F, p.1 ∈ f) → ((F.map fun p => (numK f p.1, val p)).find? fun kv => decide (kv.1 = numK f n)).map (·.2) = (F.find? fun p => decide (p.1 = n)).map val
  | [], _ => rfl
  | p :: F, h => by
    simp only [List.map_cons, List.find?_cons]
    by_cases e : p.1 = n
    · rw [decide_eq_true (show numK f p.1 = numK f n by rw [e]), decide_eq_true e]
      rfl
    · rw [decide_eq_false (fun z => e (numK_inj (h p (by simp)) hn z)), decide_eq_false e]
      exact find_key hn fun q hq => h q (by simp [hq])
theorem atM {α : Type} {f : List Nd} {n : Nd} {F : List (Nd × α)} {val : Nd × α → A} (h : ∀ p ∈ F, p.1 ∈ f) (hn : n ∈ f) : atD (F.map fun p => (numK f p.1, val p)) (numK f n) = (F.find? fun p => decide (p.1 = n)).map val := find_key hn h
theorem fitM {α : Type} {f : List Nd} {n : Nd} {F : List (Nd × α)} {val : Nd × α → A} : fitD (F.map fun p => (numK f p.1, val p)) (numK f n) = true := by
  unfold fitD
  rw [Bool.and_eq_true, Bool.and_eq_true]
  refine ⟨by simp [numK, NestedKey.depth], by simp [numK], ?_⟩
  rw [List.all_eq_true]
  intro kv hkv
  obtain ⟨p, _, e⟩ := List.mem_map.mp hkv
  rw [← e]
  rfl
def keysN {α : Type} (F : List (Nd × α)) : List Nd := F.map (·.1)
theorem find_none {α : Type} {n : Nd} {F : List (Nd × α)} : (F.find? fun p => decide (p.1 = n)) = none ↔ n ∉ keysN F := by
  rw [List.find?_eq_none]
  unfold keysN
  constructor
  · intro h z
    obtain ⟨p, hp, e⟩ := List.mem_map.mp z
    exact h p hp (decide_eq_true e)
  · intro h p hp e
    exact h (List.mem_map.mpr ⟨p, hp, by simpa using e⟩)
theorem putM {α : Type} {f : List Nd} {n : Nd} {F : List (Nd × α)} {val : Nd × α → A} {x : α} (h : ∀ p ∈ F, p.1 ∈ f) (hn : n ∈ f) (hk : n ∉ keysN F) : putD (F.map fun p => (numK f p.1, val p)) (numK f n) (val (n, x)) = (F ++ [(n, x)]).map fun p => (numK f p.1, val p) := by
  unfold putD
  rw [atM h hn, find_none.mpr hk]
  simp
theorem keys_len {α : Type} {F : List (Nd × α)} {f : List Nd} (hn : (keysN F).Nodup) (h : ∀ p ∈ F, p.1 ∈ f) : F.length ≤ f.length := by
  have := List.Nodup.length_le_of_subset (l₁ := keysN F) (l₂ := f) hn (fun n hm => by
    obtain ⟨p, hp, e⟩ := List.mem_map.mp hm
    rw [← e]
    exact h p hp)
  simpa [keysN] using this
theorem take_ixG {f : List Nd} {g : Nd → A} {c : Nd} {i : Nat} (h : c ∈ f) (hi : idx f c < i) : atI ((f.take i).map g) (idx f c : Nat) = some (g c) := by
  rw [atI_nn (by omega), Int.toNat_natCast, List.getElem?_map, List.getElem?_take, if_pos hi, idx_get h]
  rfl
theorem run_blockD : ¬ (Str.ofString "run" = Str.ofString "block") := by decide +kernel
def m_law_numbers : MF := mFn 6 2 (mSeq (mSet 2 (mLst mNil))
    (mSeq (mFor (mSrc (mVar 1)) (.one 3) (mSeq (mSet 4 (mVar 3))
    (mSeq (mIfS (mGB (mBin eqA (mBin ixA (mVar 3) (mC (.int 0))) (mC (.str "run")))) (mSet 4 (mTup (mCons (mC (.str "run")) (mCons (mBin ixA (mVar 2) (mBin ixA (mVar 3) (mC (.int 1)))) (mCons (mBin ixA (mVar 3) (mC (.int 2))) mNil))))) mNext)
    (mSeq (mIfS (mGB (mBin eqA (mBin ixA (mVar 3) (mC (.int 0))) (mC (.str "block")))) (mSet 4 (mTup (mCons (mC (.str "block")) (mCons (mCa tupleA (mCons (mLc (mSrc (mBin ixA (mVar 3) (mC (.int 1)))) (.one 5) [5] mYes (mBin ixA (mVar 2) (mVar 5))) mNil)) mNil)))) mNext)
    (mSeq (mIfS (mGB (mBin notInD (mVar 4) (mVar 0))) (mDPut (mVar 0) (mVar 4) (mCa lenD (mCons (mVar 0) mNil))) mNext)
    (mExpr (mBm appendA (mVar 2) (mCons (mBin getD' (mVar 0) (mVar 4)) mNil))))))))
    (mRet (mVar 2))))
theorem tak_kids {T : List Nd} (oT : Ord T) (cT : Clo T) {i : Nat} {n c : Nd} (hi : T[i]? = some n) (hc : c ∈ kids n) : c ∈ T.take i ∧ idx T c < i ∧ c ∈ T := by
  have h1 := oT i n hi c hc
  have h2 := cT.2 n (List.mem_of_getElem? hi) c hc
  refine ⟨?_, h1, h2⟩
  have := idx_get h2
  exact List.mem_of_getElem? (i := idx T c) (by rw [List.getElem?_take, if_pos h1]; exact this)
theorem addL_clo_tk {f T : List Nd} (hf : Clo f) (oT : Ord T) (cT : Clo T) : ∀ i, i ≤ T.length → Clo (addL f (T.take i))
  | 0, _ => by simpa [addL] using hf
  | i + 1, h => by
    have hi : T[i]? = some T[i] := List.getElem?_eq_getElem (by omega)
    rw [List.take_add_one, hi, Option.toList_some, addL_snoc]
    exact addN_clo (addL_clo_tk hf oT cT i (by omega)) fun c hc => addL_mem (tak_kids oT cT hi hc).1
theorem addL_okN {f T : List Nd} (hf : ∀ m ∈ f, okN m) (hT : ∀ m ∈ T, okN m) : ∀ m ∈ addL f T, okN m := fun m hm => (addL_sub hm).elim (hf m) (hT m)
structure NuS (f T : List Nd) (rk r : Nat) (i : Nat) (st0 st : Store) : Prop where
  d : ML.stD st rk = some (numF (addL f (T.take i)))
  l : stL st r = some ((T.take i).map (numA (addL f (T.take i))))
  fr : Fr2 rk rk st0 st
  ne : r ≠ rk
  hr : st0.length ≤ r
theorem numbers_wp {f T : List Nd} {rk : Nat} {st : Store} {Q : A → Store → Prop} (hf : Clo f) (okf : ∀ m ∈ f, okN m) (cT : Clo T) (oT : Ord T) (okT : ∀ m ∈ T, okN m) (hd : ML.stD st rk = some (numF f)) (hl : f.length + T.length ≤ 1000000)
    (k : ∀ r st', NuS f T rk r T.length st st' → Q (.ref r) st') : (m_law_numbers [.ref rk, .tup (T.map (entA T))] st).wp Q := by
  simp only [m_law_numbers]
  generalize hF : @mFor = F
  generalize hL : @mLc = L
  rw [wp_fn]
  refine ⟨rfl, ?_⟩
  have hs := size_eq
  have hlt := stD_lt hd
  simp only [List.map_cons, List.map_nil, List.cons_append, List.nil_append, List.replicate, Nat.reduceSub]
  generalize hv1 : some (A.tup (T.map (entA T))) = v1
  refine seq_cut (fun ρ st' => NuS f T rk st.length 0 st st' ∧ ρ = [some (.ref rk), v1, some (.ref st.length), none, none, none]) ?_ ?_
  · simp only [sp_set, wp_lst, wp_nil, List.set_cons_zero, List.set_cons_succ]
    exact ⟨by simp [sizeLine], ⟨by simpa [addL] using Grown.stD (.one _ _) hd, by simp, .grown (.one _ _), by omega, Nat.le_refl _⟩, by first | exact rfl | exact trivial⟩
  generalize st.length = r
  rintro ρ st1 ⟨S1, rfl⟩
  refine seq_cut (fun ρ st' => ∃ v3 v4 v5, NuS f T rk r T.length st st' ∧ ρ = [some (.ref rk), v1, some (.ref r), v3, v4, v5]) ?_ ?_
  · rw [← hF, ← hv1]
    simp only [sp_for, wp_src, wp_var, List.getElem?_cons_succ, List.getElem?_cons_zero, Option.some.injEq, ex_eq, w_srcT]
    rw [hv1]
    refine for_vals (fun i ρ st' => ∃ v3 v4 v5, NuS f T rk r i st st' ∧ ρ = [some (.ref rk), v1, some (.ref r), v3, v4, v5]) ⟨none, none, none, S1, rfl⟩ ?_ (fun ρ st' h => by simpa using h)
    rintro i x ρ st2 hx ⟨v3, v4, v5, S2, rfl⟩
    rw [List.getElem?_map, Option.map_eq_some_iff] at hx
    obtain ⟨n, hn, rfl⟩ := hx
    have hnT := List.mem_of_getElem? hn
    have hi := (List.getElem?_eq_some_iff.mp hn).1
    have hkt := fun {c} hc => tak_kids oT cT hn (c := c) hc
    have cf := addL_clo_tk hf oT cT i (by omega)
    have okF : ∀ m ∈ addL f (T.take i), okN m := addL_okN okf fun m hm => okT m (List.mem_of_mem_take hm)
    have hkf : ∀ c ∈ kids n, c ∈ addL f (T.take i) := fun c hc => addL_mem (hkt hc).1
    have hfl : (addL f (T.take i)).length ≤ f.length + i := by
      obtain ⟨g, e, h⟩ := addL_pre (T.take i) f
      rw [e, List.length_append]
      have : (T.take i).length = i := by rw [List.length_take]; omega
      omega
    have hgrow := row_grow (f := f) hn
    have hnx : addL f (T.take (i + 1)) = addN (addL f (T.take i)) n := by rw [List.take_add_one, hn, Option.toList_some, addL_snoc]
    have okn := okT n hnT
    generalize hfi : addL f (T.take i) = fi at *
    refine ⟨[some (.ref rk), v1, some (.ref r), some (entA T n), v4, v5], rfl, ?_⟩
    refine seq_cut (fun ρ st' => st' = st2 ∧ ρ = [some (.ref rk), v1, some (.ref r), some (entA T n), some (entA T n), v5]) ?_ ?_
    · simp only [sp_set, wp_var, List.getElem?_cons_succ, List.getElem?_cons_zero, Option.some.injEq, ex_eq, List.set_cons_zero, List.set_cons_succ]
      exact ⟨by first | exact rfl | exact trivial, by first | exact rfl | exact trivial⟩
    rintro ρ st3 ⟨rfl, rfl⟩
    have i0 : ∀ x y : A, atI [x, y] 0 = some x := fun _ _ => rfl
    have i1 : ∀ x y : A, atI [x, y] 1 = some y := fun _ _ => rfl
    have j0 : ∀ x y z : A, atI [x, y, z] 0 = some x := fun _ _ _ => rfl
    have j1 : ∀ x y z : A, atI [x, y, z] 1 = some y := fun _ _ _ => rfl
    have j2 : ∀ x y z : A, atI [x, y, z] 2 = some z := fun _ _ _ => rfl
    have hget : ∀ c ∈ kids n, atI ((T.take i).map (numA fi)) (idx T c : Nat) = some (numA fi c) := fun c hc => take_ixG (hkt hc).2.2 (hkt hc).2.1
    have hll := S2.l
    rw [hfi] at hll
    refine seq_cut (fun ρ st' => st' = st3 ∧ ∃ kA, (isRun n = true → kA = entA fi n) ∧ (isRun n = false → kA = entA T n) ∧ ρ = [some (.ref rk), v1, some (.ref r), some (entA T n), some kA, v5]) ?_ ?_
    · cases n with
      | leaf e =>
        simp only [entA, sp_ifs, wp_gb, wp_bin, wp_var, wp_c, List.getElem?_cons_succ, List.getElem?_cons_zero, Option.some.injEq, ex_eq, w_ixT, i0, w_eqS, leaf_run, decide_false, w_getB, Bool.false_eq_true, if_false, sp_next]
        exact ⟨by first | exact rfl | exact trivial, _, (fun z => by cases z), (fun _ => rfl), by first | exact rfl | exact trivial⟩
      | run b t =>
        simp only [entA, sp_ifs, sp_set, wp_tup, wp_cons, wp_nil, wp_gb, wp_bin, wp_var, wp_c, List.getElem?_cons_succ, List.getElem?_cons_zero, Option.some.injEq, ex_eq, w_ixT, j0, j1, j2, w_eqS, decide_true, w_getB, if_true, w_ixL, List.set_cons_zero, List.set_cons_succ]
        refine ⟨_, hll, _, hget b (by simp [kids]), by simp [sizeLine], by first | exact rfl | exact trivial, _, (fun _ => rfl), (fun z => by cases z), by first | exact rfl | exact trivial⟩
      | blk cs =>
        simp only [entA, sp_ifs, wp_gb, wp_bin, wp_var, wp_c, List.getElem?_cons_succ, List.getElem?_cons_zero, Option.some.injEq, ex_eq, w_ixT, i0, w_eqS, block_run, decide_false, w_getB, Bool.false_eq_true, if_false, sp_next]
        exact ⟨by first | exact rfl | exact trivial, _, (fun z => by cases z), (fun _ => rfl), by first | exact rfl | exact trivial⟩
    rintro ρ st4 ⟨rfl, kA, hk1, hk2, rfl⟩
    refine seq_cut (fun ρ st' => Grown st4 st' ∧ ∃ v5, ρ = [some (.ref rk), v1, some (.ref r), some (entA T n), some (entA fi n), v5]) ?_ ?_
    · cases n with
      | leaf e =>
        rw [hk2 rfl]
        simp only [entA, sp_ifs, wp_gb, wp_bin, wp_var, wp_c, List.getElem?_cons_succ, List.getElem?_cons_zero, Option.some.injEq, ex_eq, w_ixT, i0, w_eqS, leaf_block, decide_false, w_getB, Bool.false_eq_true, if_false, sp_next]
        exact ⟨.refl _, _, rfl⟩
      | run b t =>
        have hk := hk1 rfl
        simp only [entA, sp_ifs, wp_gb, wp_bin, wp_var, wp_c, List.getElem?_cons_succ, List.getElem?_cons_zero, Option.some.injEq, ex_eq, w_ixT, j0, w_eqS, run_blockD, decide_false, w_getB, Bool.false_eq_true, if_false, sp_next]
        exact ⟨.refl _, _, by rw [hk]; rfl⟩
      | blk cs =>
        have hcl : cs.length ≤ 100 := by
          simp only [okN] at okn
          exact okn.2.1
        rw [← hL]
        simp only [entA, sp_ifs, sp_set, wp_tup, wp_ca, wp_cons, wp_nil, wp_lc, wp_src, wp_gb, wp_bin, wp_var, wp_c, List.getElem?_cons_succ, List.getElem?_cons_zero, Option.some.injEq, ex_eq, w_ixT, i0, i1, w_eqS, decide_true, w_getB, if_true, w_srcT, wipeA_cons, wipeA_nil, List.set_cons_zero, List.set_cons_succ]
        refine lc_vals (fun q st5 acc => st5 = st4 ∧ acc = (cs.take q).map (numA fi)) ⟨rfl, by simp⟩ ?_ ?_
        · rintro q x st5 acc hx5 ⟨rfl, rfl⟩
          rw [List.getElem?_map, Option.map_eq_some_iff] at hx5
          obtain ⟨c, hc, rfl⟩ := hx5
          have hcl2 := (List.getElem?_eq_some_iff.mp hc).1
          refine ⟨_, rfl, ?_⟩
          simp only [wp_yes, if_true, wp_bin, wp_var, List.set_cons_zero, List.set_cons_succ, List.getElem?_cons_succ, List.getElem?_cons_zero, Option.some.injEq, ex_eq, w_ixL]
          refine ⟨_, hll, _, hget c (by simpa [kids] using List.mem_of_getElem? hc), by rw [hs, List.length_map, List.length_take]; omega, by first | exact rfl | exact trivial, ?_⟩
          rw [List.take_add_one, hc]
          simp
        · rintro st5 acc ⟨rfl, rfl⟩
          rw [List.length_map, List.take_length, w_tupL]
          exact ⟨_, stL_new, by simp [sizeLine], .one _ _, _, by first | exact rfl | exact trivial⟩
    rintro ρ st5 ⟨g5, v5', rfl⟩
    have S5d := Grown.stD g5 S2.d
    have S5l := g5.stL hll
    rw [hfi] at S5d
    have hrk : rk < st5.length := stD_lt S5d
    have hkey := key_ent (f := fi) okn
    have hft := fit_num okF okn
    have hat := at_num cf okF okn hkf
    have fr5 : Fr2 rk rk st st5 := S2.fr.trans (.grown g5)
    refine seq_cut (fun ρ st' => ML.stD st' rk = some (numF (addN fi n)) ∧ stL st' r = some ((T.take i).map (numA fi)) ∧ Fr2 rk rk st st' ∧ ρ = [some (.ref rk), v1, some (.ref r), some (entA T n), some (entA fi n), v5']) ?_ ?_
    · simp only [sp_ifs, wp_gb, wp_bin, wp_var, List.getElem?_cons_succ, List.getElem?_cons_zero, Option.some.injEq, ex_eq]
      refine w_dnotin S5d hkey hft ?_
      rw [hat]
      unfold addN
      by_cases c : n ∈ fi
      · simp only [if_pos c, Option.isSome_some, Bool.not_true, w_getB, Bool.false_eq_true, if_false, sp_next]
        exact ⟨S5d, S5l, fr5, by trivial⟩
      · simp only [if_neg c, Option.isSome_none, Bool.not_false, w_getB, if_true]
        rw [if_neg c] at hat
        simp only [sp_dput, wp_ca, wp_cons, wp_nil, wp_var, List.getElem?_cons_succ, List.getElem?_cons_zero, Option.some.injEq, ex_eq]
        have hnl : (numF fi).length = fi.length := numG_len _ _ _
        refine w_lenD S5d (by rw [hnl, hs]; omega) ?_
        simp only [hnl, List.getElem?_cons_succ, List.getElem?_cons_zero, Option.some.injEq, ex_eq]
        refine ⟨_, put_eq S5d hkey hft (by rw [hnl, hs]; omega), ?_, ?_, fr5.trans .set1, by trivial⟩
        · rw [stD_set_self hrk]
          unfold putD
          rw [hat, num_app cf c hkf]
          rfl
        · rw [stL_set_ne' (Ne.symm S2.ne)]
          exact S5l
    rintro ρ st6 ⟨d6, l6, fr6, rfl⟩
    have cf6 : Clo (addN fi n) := addN_clo cf hkf
    have okF6 : ∀ m ∈ addN fi n, okN m := fun m hm => by
      unfold addN at hm
      split at hm
      · exact okF m hm
      · rcases List.mem_append.mp hm with z | z
        · exact okF m z
        · simp at z
          subst z
          exact okn
    obtain ⟨g, eg, hmem, hgl⟩ := addN_pre fi n
    have hkf6 : ∀ c ∈ kids n, c ∈ addN fi n := fun c hc => by rw [eg]; exact List.mem_append_left _ (hkf c hc)
    have hat6 := at_num cf6 okF6 okn hkf6
    rw [if_pos hmem] at hat6
    have hent : entA (addN fi n) n = entA fi n := by rw [eg]; exact entA_app hkf
    have hkey6 := key_ent (f := addN fi n) okn
    rw [hent] at hkey6
    simp only [sp_expr, wp_bm, wp_bin, wp_cons, wp_nil, wp_var, List.getElem?_cons_succ, List.getElem?_cons_zero, Option.some.injEq, ex_eq, isL_ref, l6, Option.isSome_some]
    refine ⟨trivial, w_dget d6 hkey6 (fit_num okF6 okn) hat6 ?_⟩
    rw [w_append]
    refine ⟨_, l6, by rw [List.length_map, List.length_take, hs]; omega, _, _, _, ⟨?_, ?_, ?_, S2.ne, S2.hr⟩, rfl⟩
    · rw [stD_set_ne S2.ne, hnx]
      exact d6
    · rw [stL_set_self l6, ← hgrow]
      rfl
    · have hr2 := S2.hr
      exact ⟨by rw [List.length_set]; exact fr6.len, fun j hj h1 h2 => by rw [List.getElem?_set_ne (by omega)]; exact fr6.get j hj h1 h2⟩
  rintro ρ st2 ⟨v3, v4, v5, S2, rfl⟩
  simp only [sp_ret, wp_var, List.getElem?_cons_succ, List.getElem?_cons_zero, Option.some.injEq, ex_eq]
  exact k r st2 S2
end Law
namespace Law
open PySem L2 ML
open Classical
theorem keys_app {α : Type} {F G : List (Nd × α)} : keysN (F ++ G) = keysN F ++ keysN G := by simp [keysN]
def intV (p : Nd × Nat) : A := .int (p.2 : Nat)
structure PlS (T : List Nd) (P : List (Nd × Nat)) (rs rp : Nat) (st : Store) : Prop where
  d : ML.stD st rp = some (P.map fun p => (numK T p.1, intV p))
  s : stL st rs = some (T.map szA)
  i : ∀ p ∈ P, p.1 ∈ T
  n : (keysN P).Nodup
theorem PlS.ne {T P rs rp st} (h : PlS T P rs rp st) : rs ≠ rp := fun e => by
  have h1 := stL_eq h.s
  have h2 := stD_eq h.d
  rw [e, h2] at h1
  cases h1
theorem PlS.put {T P rs rp st} {nd : Nd} {a : Nat} (h : PlS T P rs rp st) (hT : T.length ≤ 1000000) (hn : nd ∈ T) (hk : nd ∉ keysN P) : ∃ st', putS (.ref rp) (numA T nd) (.int (a : Nat)) st = some st' ∧ Fr2 rp rp st st' ∧ PlS T (P ++ [(nd, a)]) rs rp st' := by
  have hs := size_eq
  have hlt := stD_lt h.d
  have hl := keys_len h.n h.i
  have e := put_eq (v := .int (a : Nat)) h.d (keyK T nd) fitM (by rw [List.length_map, hs]; omega)
  have e2 := putM (val := intV) (x := a) h.i hn hk
  rw [show A.int (a : Nat) = intV (nd, a) from rfl, e2] at e
  refine ⟨_, e, .set1, stD_set_self hlt, ?_, ?_, ?_⟩
  · rw [stL_set_ne' (Ne.symm h.ne)]
    exact h.s
  · intro p hp
    rcases List.mem_append.mp hp with z | z
    · exact h.i p z
    · simp at z
      subst z
      exact hn
  · rw [keys_app, List.nodup_append]
    refine ⟨h.n, by simp [keysN], fun x hx y hy => ?_⟩
    simp [keysN] at hy
    subst hy
    exact fun z => hk (z ▸ hx)
end Law
namespace Law
open PySem L2 ML
open Classical
noncomputable def tbO : Option Nd → List Nd := fun o => match o with
  | none => []
  | some r => lis r []
noncomputable def tabO (o : Option Nd) : A := .tup ((tbO o).map (entA (tbO o)))
abbrev BP := Nd × (Nat × Nat)
noncomputable def knN (f : List Nd) (Ts : List (Option Nd)) : List Nd := Ts.foldl (fun f o => addL f (tbO o)) f
theorem kn_snoc {f : List Nd} {Ts : List (Option Nd)} {o : Option Nd} : knN f (Ts ++ [o]) = addL (knN f Ts) (tbO o) := by simp [knN]
def cpV (p : BP) : A := .tup [.int (p.2.1 : Nat), .int (p.2.2 : Nat), .int ((p.2.2 + szN p.1 : Nat) : Int)]
theorem kn_step {f : List Nd} {Ts : List (Option Nd)} {i : Nat} {o : Option Nd} (h : Ts[i]? = some o) : knN f (Ts.take (i + 1)) = addL (knN f (Ts.take i)) (tbO o) := by rw [List.take_add_one, h, Option.toList_some, kn_snoc]
theorem lis_sz : ∀ (nd : Nd) {f : List Nd} {x : Nd}, okN nd → x ∈ lis nd f → x ∈ f ∨ szN x ≤ szN nd := by
  intro nd
  induction nd using Nd.rec (motive_2 := fun cs => ∀ {f : List Nd} {x : Nd}, okNs cs → x ∈ lisL cs f → x ∈ f ∨ szN x ≤ szNs cs) with
  | leaf e =>
    intro f x _ h
    simp only [lis, addN] at h
    split at h
    · exact .inl h
    · rcases List.mem_append.mp h with z | z
      · exact .inl z
      · simp at z
        subst z
        exact .inr (Nat.le_refl _)
  | run b t ih =>
    intro f x ok h
    simp only [okN] at ok
    have hb : szN b ≤ szN b * t := Nat.le_mul_of_pos_right _ (by omega)
    simp only [lis, addN] at h
    split at h
    · exact (ih ok.1 h).imp id fun z => by simp only [szN]; omega
    · rcases List.mem_append.mp h with z | z
      · exact (ih ok.1 z).imp id fun z => by simp only [szN]; omega
      · simp at z
        subst z
        exact .inr (Nat.le_refl _)
  | blk cs ih =>
    intro f x ok h
    simp only [okN] at ok
    simp only [lis, addN] at h
    split at h
    · exact (ih ok.2.2 h).imp id fun z => by simp only [szN]; exact z
    · rcases List.mem_append.mp h with z | z
      · exact (ih ok.2.2 z).imp id fun z => by simp only [szN]; exact z
      · simp at z
        subst z
        exact .inr (Nat.le_refl _)
  | nil =>
    rename_i f x _ h
    simp only [lisL] at h
    exact .inl h
  | cons c cs ih1 ih2 =>
    rename_i f x ok h
    simp only [okNs] at ok
    simp only [lisL] at h
    simp only [szNs]
    rcases ih2 ok.2 h with z | z
    · exact (ih1 ok.1 z).imp id fun z => by omega
    · exact .inr (by omega)
theorem rev_indB {α : Type} {P : List α → Prop} (h0 : P []) (h1 : ∀ l x, P l → P (l ++ [x])) (l : List α) : P l := by
  have : ∀ l : List α, P l.reverse := fun l => by
    induction l with
    | nil => exact h0
    | cons x l ih =>
      rw [List.reverse_cons]
      exact h1 _ _ ih
  have h := this l.reverse
  rwa [List.reverse_reverse] at h
theorem tbO_ok {o : Option Nd} (h : ∀ r, o = some r → Okt r) : Clo (tbO o) ∧ Ord (tbO o) ∧ (∀ m ∈ tbO o, okN m ∧ szN m ≤ 100000 ∧ dpN m ≤ 29) ∧ (tbO o).length ≤ 60000 := by
  cases o with
  | none => exact ⟨clo_nil', ord_nil, by simp [tbO], by simp [tbO]⟩
  | some r =>
    have hr := h r rfl
    obtain ⟨h1, h2⟩ := okt_lis hr
    refine ⟨(lis_ok r clo_nil').1, lis_ord r clo_nil' ord_nil, fun m hm => ⟨(h2 m hm).1, ?_, (h2 m hm).2⟩, h1⟩
    have hz := lis_sz r (f := []) hr.ok hm
    have := hr.sz
    rcases hz with z | z
    · simp at z
    · omega
theorem kn_ok {f : List Nd} (hf : Clo f) (okf : ∀ m ∈ f, okN m) : ∀ {Ts : List (Option Nd)}, (∀ o ∈ Ts, ∀ r, o = some r → Okt r) → Clo (knN f Ts) ∧ (∀ m ∈ knN f Ts, okN m) ∧ (knN f Ts).length ≤ f.length + 60000 * Ts.length := by
  intro Ts
  induction Ts using rev_indB with
  | h0 => intro _; exact ⟨hf, okf, by simp [knN]⟩
  | h1 Ts o ih =>
    intro h
    obtain ⟨h1, h2, h3⟩ := ih fun x hx => h x (by simp [hx])
    obtain ⟨c, od, k, l⟩ := tbO_ok (h o (by simp))
    rw [kn_snoc]
    refine ⟨?_, addL_okN h2 fun m hm => (k m hm).1, ?_⟩
    · have := addL_clo_tk h1 od c (tbO o).length (Nat.le_refl _)
      rwa [List.take_length] at this
    · obtain ⟨g, e, hl⟩ := addL_pre (tbO o) (knN f Ts)
      rw [e, List.length_append, List.length_append]
      simp
      omega
end Law
namespace Law
open PySem L2 ML
open Classical
noncomputable def lkp (F : List BP) (n : Nd) : Option BP := F.find? fun p => decide (p.1 = n)
noncomputable def insI (F : List BP) (M : List Nd) (n : Nd) : A := match lkp F n with
  | some p => .tup [.str "copy", .int (p.2.1 : Nat), .int (p.2.2 : Nat), .int ((p.2.2 + szN p.1 : Nat) : Int)]
  | none => match n with
    | .leaf e => .tup [.str "literal", e]
    | .run b t => .tup [.str "repeat", .int (idx M b : Nat), .int (t : Nat)]
    | .blk cs => .tup [.str "concat", .tup (cs.map fun c => .int (idx M c : Nat))]
def MkC (F : List BP) (M : List Nd) : Prop := ∀ m ∈ M, m ∉ keysN F → ∀ c ∈ kids m, c ∈ M
theorem ins_stay {F : List BP} {M g : List Nd} {m : Nd} (hk : m ∉ keysN F → ∀ c ∈ kids m, c ∈ M) : insI F (M ++ g) m = insI F M m := by
  unfold insI
  cases e : lkp F m with
  | some p => rfl
  | none =>
    have hn : m ∉ keysN F := find_none.mp e
    cases m with
    | leaf x => rfl
    | run b t => simp only [idx_app (hk hn b (by simp [kids]))]
    | blk cs =>
      simp only
      congr 3
      simp only [List.cons.injEq, A.tup.injEq, and_true]
      exact List.map_congr_left fun c hc => by rw [idx_app (hk hn c (by simpa [kids] using hc))]
theorem rec_grow {F : List BP} {M : List Nd} {n : Nd} (h : MkC F M) (hk : n ∉ keysN F → ∀ c ∈ kids n, c ∈ M) : (M ++ [n]).map (insI F (M ++ [n])) = M.map (insI F M) ++ [insI F M n] := by
  rw [List.map_append, List.map_cons, List.map_nil, ins_stay hk]
  congr 1
  exact List.map_congr_left fun m hm => ins_stay (h m hm)
structure MkS (f : List Nd) (F : List BP) (T M : List Nd) (rn rf rm rr : Nat) (st : Store) : Prop where
  d : ML.stD st rm = some (numG (numK f) 0 M)
  l : stL st rr = some (M.map (insI F M))
  fo : ML.stD st rf = some (F.map fun p => (numK f p.1, cpV p))
  nu : stL st rn = some (T.map (numA f))
  s : ∀ m ∈ M, m ∈ f
  c : MkC F M
  u : M.Nodup
  ne : rm ≠ rf ∧ rr ≠ rn ∧ rm ≠ rr ∧ rm ≠ rn ∧ rr ≠ rf
structure MkE (f : List Nd) (F : List BP) (T : List Nd) : Prop where
  ct : Clo T
  st : ∀ m ∈ T, m ∈ f
  ok : ∀ m ∈ T, okN m
  fs : ∀ p ∈ F, p.1 ∈ f
  fl : f.length ≤ 900000
theorem nd_len {f M : List Nd} (hs : ∀ m ∈ M, m ∈ f) (hu : M.Nodup) : M.length ≤ f.length := List.Nodup.length_le_of_subset hu hs
structure MkA (f : List Nd) (F : List BP) (T M : List Nd) (nd : Nd) (rn rf rm rr : Nat) (st : Store) : Prop where
  d : ML.stD st rm = some (numG (numK f) 0 M)
  l : stL st rr = some (M.map (insI F M) ++ [insI F M nd])
  fo : ML.stD st rf = some (F.map fun p => (numK f p.1, cpV p))
  nu : stL st rn = some (T.map (numA f))
  s : ∀ m ∈ M, m ∈ f
  c : MkC F M
  u : M.Nodup
  ne : rm ≠ rf ∧ rr ≠ rn ∧ rm ≠ rr ∧ rm ≠ rn ∧ rr ≠ rf
theorem MkS.app {f F T M rn rf rm rr st} {nd : Nd} (S : MkS f F T M rn rf rm rr st) : MkA f F T M nd rn rf rm rr (st.set rr (.lst (M.map (insI F M) ++ [insI F M nd]))) := by
  obtain ⟨n1, n2, n3, n4, n5⟩ := S.ne
  refine ⟨?_, stL_set_self S.l, ?_, ?_, S.s, S.c, S.u, S.ne⟩
  · rw [stD_set_ne (Ne.symm n3)]; exact S.d
  · rw [stD_set_ne n5]; exact S.fo
  · rw [stL_set_ne' n2]; exact S.nu
theorem MkA.put {f F T M rn rf rm rr st} {nd : Nd} (S : MkA f F T M nd rn rf rm rr st) (E : MkE f F T) (hn : nd ∈ f) (hni : nd ∉ M) (hk : nd ∉ keysN F → ∀ c ∈ kids nd, c ∈ M) :
    ∃ st', putS (.ref rm) (numA f nd) (.int (M.length : Nat)) st = some st' ∧ Fr2 rm rm st st' ∧ MkS f F T (M ++ [nd]) rn rf rm rr st' := by
  have hs := size_eq
  have hl := nd_len S.s S.u
  have hat := atK S.s hn
  rw [if_neg hni] at hat
  have e := put_eq (v := .int (M.length : Nat)) S.d (keyK f nd) fitK (by have := E.fl; rw [numG_len, hs]; omega)
  have e2 : putD (numG (numK f) 0 M) (numK f nd) (.int (M.length : Nat)) = numG (numK f) 0 (M ++ [nd]) := by
    unfold putD
    rw [hat, numG_app]
    simp
  rw [e2] at e
  have hlt := stD_lt S.d
  obtain ⟨n1, n2, n3, n4, n5⟩ := S.ne
  refine ⟨_, e, .set1, stD_set_self hlt, ?_, ?_, ?_, ?_, ?_, ?_, S.ne⟩
  · rw [stL_set_ne' n3, rec_grow S.c hk]
    exact S.l
  · rw [stD_set_ne n1]; exact S.fo
  · rw [stL_set_ne' n4]; exact S.nu
  · intro m hm
    rcases List.mem_append.mp hm with z | z
    · exact S.s m z
    · simp at z
      subst z
      exact hn
  · intro m hm hk2 c hc
    rcases List.mem_append.mp hm with z | z
    · exact List.mem_append_left _ (S.c m z hk2 c hc)
    · simp at z
      subst z
      exact List.mem_append_left _ (hk hk2 c hc)
  · rw [List.nodup_append]
    refine ⟨S.u, by simp, fun x hx y hy e5 => ?_⟩
    simp at hy
    subst hy
    subst e5
    exact hni hx
theorem MkS.grown {f F T M rn rf rm rr st st'} (S : MkS f F T M rn rf rm rr st) (g : Grown st st') : MkS f F T M rn rf rm rr st' := ⟨Grown.stD g S.d, g.stL S.l, Grown.stD g S.fo, g.stL S.nu, S.s, S.c, S.u, S.ne⟩
end Law
namespace ML
open PySem PySem.Spec L2 PyProof.Rows
section
variable {P : Program} {w : World} {K : PySem.W.Frag} {mg : Str → Option Value} {base : Heap} {cls m qual : Str}
theorem CalM.cast {j k : Nat} {mf : MF} (e : j = k) (C : CalM P w K mg base cls m j mf) : CalM P w K mg base cls m k mf := e ▸ C
end
end ML
namespace Law
open PySem L2 ML
open Classical
def bpV (p : BP) : A := .tup [.int (p.2.1 : Nat), .int (p.2.2 : Nat)]
structure PnS (f : List Nd) (F : List BP) (t rp : Nat) (st : Store) : Prop where
  tb : Tab f t st
  d : ML.stD st rp = some (F.map fun p => (numK f p.1, bpV p))
  i : ∀ p ∈ F, p.1 ∈ f
  n : (keysN F).Nodup
  r : rp < t ∨ t + 4 < rp
theorem PnS.put {f F t rp st} {nd : Nd} {b a : Nat} (h : PnS f F t rp st) (hl : f.length ≤ 1000000) (hn : nd ∈ f) (hk : nd ∉ keysN F) : ∃ st', putS (.ref rp) (numA f nd) (.tup [.int (b : Nat), .int (a : Nat)]) st = some st' ∧ Fr2 rp rp st st' ∧ PnS f (F ++ [(nd, (b, a))]) t rp st' := by
  have hs := size_eq
  have hlt := stD_lt h.d
  have hlF := keys_len h.n h.i
  have e := put_eq (v := bpV (nd, (b, a))) h.d (keyK f nd) fitM (by rw [List.length_map, hs]; omega)
  rw [putM (val := bpV) (x := ((b, a) : Nat × Nat)) h.i hn hk] at e
  refine ⟨_, e, .set1, h.tb.set h.r, stD_set_self hlt, ?_, ?_, h.r⟩
  · intro p hp
    rcases List.mem_append.mp hp with z | z
    · exact h.i p z
    · simp at z
      subst z
      exact hn
  · rw [keys_app, List.nodup_append]
    refine ⟨h.n, by simp [keysN], fun x hx y hy => ?_⟩
    simp [keysN] at hy
    subst hy
    exact fun z => hk (z ▸ hx)
def rmFs (t rp rr ri : Nat) : List (Str × A) := [("table", .ref t), ("places", .ref rp), ("recipe", .ref rr), ("indices", .ref ri)]
@[simp] theorem rm_tab (t rp rr ri : Nat) : List.lookup ("table" : Str) (rmFs t rp rr ri) = some (.ref t) := rfl
@[simp] theorem rm_pla (t rp rr ri : Nat) : List.lookup ("places" : Str) (rmFs t rp rr ri) = some (.ref rp) := rfl
@[simp] theorem rm_rec (t rp rr ri : Nat) : List.lookup ("recipe" : Str) (rmFs t rp rr ri) = some (.ref rr) := rfl
@[simp] theorem rm_ind (t rp rr ri : Nat) : List.lookup ("indices" : Str) (rmFs t rp rr ri) = some (.ref ri) := rfl
@[simp] theorem rm_vis (t rp rr ri : Nat) : List.lookup ("visit" : Str) (rmFs t rp rr ri) = none := rfl
@[simp] theorem rm_ins (t rp rr ri : Nat) : List.lookup ("instruction_for" : Str) (rmFs t rp rr ri) = none := rfl
@[simp] theorem rm_vit (t rp rr ri : Nat) : List.lookup ("visit_tree" : Str) (rmFs t rp rr ri) = none := rfl
structure ReS (f : List Nd) (F : List BP) (M : List Nd) (t rp rm rr ri : Nat) (st : Store) : Prop where
  p : PnS f F t rp st
  i : st[rm]? = some (.oth (.ins "RecipeMaker" (rmFs t rp rr ri)))
  l : stL st rr = some (M.map (insI F M))
  d : ML.stD st ri = some (numG (numK f) 0 M)
  s : ∀ m ∈ M, m ∈ f
  c : MkC F M
  u : M.Nodup
  ne : (t + 4 < rr ∧ t + 4 < ri) ∧ rr ≠ rp ∧ ri ≠ rp ∧ rr ≠ rm ∧ ri ≠ rm ∧ rr ≠ ri
theorem PnS.set {f F t rp st} {r : Nat} {o : Ob} (h : PnS f F t rp st) (hr : t + 4 < r) (h2 : r ≠ rp) : PnS f F t rp (st.set r o) := ⟨h.tb.set (.inr hr), by rw [stD_set_ne h2]; exact h.d, h.i, h.n, h.r⟩
theorem PnS.grown {f F t rp st st'} (h : PnS f F t rp st) (g : Grown st st') : PnS f F t rp st' := ⟨h.tb.grown g, Grown.stD g h.d, h.i, h.n, h.r⟩
theorem ReS.grown {f F M t rp rm rr ri st st'} (h : ReS f F M t rp rm rr ri st) (g : Grown st st') : ReS f F M t rp rm rr ri st' := ⟨h.p.grown g, g.get h.i, g.stL h.l, Grown.stD g h.d, h.s, h.c, h.u, h.ne⟩
theorem ReS.put {f F M t rp rm rr ri st} {nd : Nd} (S : ReS f F M t rp rm rr ri st) (hfl : f.length ≤ 900000) (hn : nd ∈ f) (hni : nd ∉ M) (hk : nd ∉ keysN F → ∀ c ∈ kids nd, c ∈ M) :
    ∃ st1, putS (.ref ri) (numA f nd) (.int (M.length : Nat)) st = some st1 ∧ stL st1 rr = some (M.map (insI F M)) ∧ st1[rm]? = some (.oth (.ins "RecipeMaker" (rmFs t rp rr ri))) ∧ Fr2 rr ri st (st1.set rr (.lst (M.map (insI F M) ++ [insI F M nd]))) ∧ ReS f F (M ++ [nd]) t rp rm rr ri (st1.set rr (.lst (M.map (insI F M) ++ [insI F M nd]))) := by
  have hs := size_eq
  have hl := nd_len S.s S.u
  have hat := atK S.s hn
  rw [if_neg hni] at hat
  have e := put_eq (v := .int (M.length : Nat)) S.d (keyK f nd) fitK (by rw [numG_len, hs]; omega)
  have e2 : putD (numG (numK f) 0 M) (numK f nd) (.int (M.length : Nat)) = numG (numK f) 0 (M ++ [nd]) := by
    unfold putD
    rw [hat, numG_app]
    simp
  rw [e2] at e
  have hlt := stD_lt S.d
  obtain ⟨⟨n1, n2⟩, n3, n4, n5, n6, n7⟩ := S.ne
  have hrr : stL (st.set ri (.oth (.dct (numG (numK f) 0 (M ++ [nd]))))) rr = some (M.map (insI F M)) := by rw [stL_set_ne' (Ne.symm n7)]; exact S.l
  refine ⟨_, e, hrr, ?_, ⟨by simp, fun j hj h1 h2 => by rw [List.getElem?_set_ne (Ne.symm h1), List.getElem?_set_ne (Ne.symm h2)]⟩, (S.p.set n2 n4).set n1 n3, ?_, ?_, ?_, ?_, ?_, ?_, S.ne⟩
  · rw [List.getElem?_set_ne n6]; exact S.i
  · rw [List.getElem?_set_ne n5, List.getElem?_set_ne n6]; exact S.i
  · rw [stL_set_self hrr, rec_grow S.c hk]
  · rw [stD_set_ne n7]
    exact stD_set_self hlt
  · intro m hm
    rcases List.mem_append.mp hm with z | z
    · exact S.s m z
    · simp at z
      subst z
      exact hn
  · intro m hm hk2 c hc
    rcases List.mem_append.mp hm with z | z
    · exact List.mem_append_left _ (S.c m z hk2 c hc)
    · simp at z
      subst z
      exact List.mem_append_left _ (hk hk2 c hc)
  · rw [List.nodup_append]
    refine ⟨S.u, by simp, fun x hx y hy e5 => ?_⟩
    simp at hy
    subst hy
    subst e5
    exact hni hx
end Law
namespace Law
open PySem L2 ML
def bAt (Bs : List (List A)) (b : Int) : List A := Bs.getD b.toNat []
def BsL (Bs : List (List A)) (rs : List A) (st : Store) : Prop := rs.length = Bs.length ∧ ∀ (i : Nat) (x : A), rs[i]? = some x → ∃ r : Nat, x = A.ref r ∧ stL st r = Bs[i]?
theorem BsL.grown {Bs : List (List A)} {rs : List A} {st st' : Store} (h : BsL Bs rs st) (g : Grown st st') : BsL Bs rs st' := ⟨h.1, fun i x e => by
  obtain ⟨r, h1, h2⟩ := h.2 i x e
  have hi := (List.getElem?_eq_some_iff.mp e).1
  rw [h.1] at hi
  refine ⟨r, h1, ?_⟩
  rw [List.getElem?_eq_getElem hi] at h2 ⊢
  exact g.stL h2⟩
theorem BsL.at {Bs : List (List A)} {rs : List A} {st : Store} (h : BsL Bs rs st) {b : Int} (b0 : 0 ≤ b) (b1 : b < (Bs.length : Int)) : ∃ r : Nat, atI rs b = some (.ref r) ∧ stL st r = some (bAt Bs b) := by
  have hr := h.1
  have hlt : b.toNat < rs.length := by omega
  obtain ⟨r, hx, hs⟩ := h.2 b.toNat _ (List.getElem?_eq_getElem hlt)
  refine ⟨r, ?_, ?_⟩
  · rw [atI_nn b0, List.getElem?_eq_getElem hlt, hx]
  · rw [hs]
    unfold bAt
    rw [List.getD_eq_getElem?_getD, List.getElem?_eq_getElem (by omega)]
    rfl
def Refs1 (rs : List A) : Prop := ∀ (i r : Nat), rs[i]? = some (.ref r) → 1 < r
theorem BsL.kp {Bs : List (List A)} {rs : List A} {st st' : Store} (h : BsL Bs rs st) (h1 : Refs1 rs) (g : Kp st st') : BsL Bs rs st' := ⟨h.1, fun i x e => by
  obtain ⟨r, q1, q2⟩ := h.2 i x e
  have hi := (List.getElem?_eq_some_iff.mp e).1
  rw [h.1] at hi
  refine ⟨r, q1, ?_⟩
  subst q1
  have hr := h1 i r e
  rw [List.getElem?_eq_getElem hi] at q2 ⊢
  exact g.stL hr q2⟩
structure BaI (N : Nat) (Bs : List (List A)) (rs : List A) (rb : Nat) (st : Store) : Prop where
  b : BsL Bs rs st
  r1 : Refs1 rs
  l : stL st rb = some rs
  rb1 : 1 < rb
  n : Bs.length ≤ N
  m : ∀ B ∈ Bs, B.length ≤ 700 ∧ ∀ x ∈ B, El x
theorem BaI.kp {N : Nat} {Bs : List (List A)} {rs : List A} {rb : Nat} {st st' : Store} (h : BaI N Bs rs rb st) (g : Kp st st') : BaI N Bs rs rb st' := ⟨h.b.kp h.r1 g, h.r1, g.stL h.rb1 h.l, h.rb1, h.n, h.m⟩
theorem BaI.bl {N : Nat} {Bs : List (List A)} {rs : List A} {rb : Nat} {st : Store} (h : BaI N Bs rs rb st) (b : Int) : (bAt Bs b).length ≤ 700 ∧ ∀ x ∈ bAt Bs b, El x := by
  unfold bAt
  rw [List.getD_eq_getElem?_getD]
  cases e : Bs[b.toNat]? with
  | none => simp
  | some B => exact h.m B (List.mem_of_getElem? e)
theorem cutl_wp {r : Nat} {xs : List A} {lo hi : Option Int} {st : Store} {Q : A → Store → Prop} (hr : stL st r = some xs) (k : Q (.ref st.length) (st ++ [.lst (cutA xs lo hi)])) : (slA (.ref r) lo hi st).wp Q := by
  rw [w_slL]
  exact ⟨_, hr, k⟩
theorem cut_to {xs : List A} {m : Int} (h0 : 0 ≤ m) : cutA xs none (some m) = xs.take m.toNat := by
  unfold cutA
  have n1 : ¬ m < 0 := by omega
  simp [HT.sIx, n1]
theorem cut_from {xs : List A} {m : Int} (h0 : 0 ≤ m) : cutA xs (some m) none = xs.drop m.toNat := by
  unfold cutA
  have n1 : ¬ m < 0 := by omega
  simp [HT.sIx, n1]
  rcases Nat.le_total m.toNat xs.length with h | h
  · rw [Nat.min_eq_left h, List.take_of_length_le (by simp)]
  · rw [Nat.min_eq_right h, List.drop_of_length_le (Nat.le_refl _), List.drop_of_length_le h]
    simp
end Law
namespace Law
open PySem L2 ML
open Classical
noncomputable def rootN (xs : List A) : Nd := if h : ∃ r, ∃ j, IsTop (xs.map .leaf) j r then Classical.choose h else .leaf .non
theorem rootN_eq {xs : List A} {j : Nat} {r : Nd} (h : IsTop (xs.map .leaf) j r) : rootN xs = r := by
  have hex : ∃ r, ∃ j, IsTop (xs.map .leaf) j r := ⟨r, j, h⟩
  unfold rootN
  rw [dif_pos hex]
  obtain ⟨j', h'⟩ := Classical.choose_spec hex
  exact (h'.uniq h).2
theorem trees_exG {xs : List A} (hx : ∀ x ∈ xs, El x) (hl : xs.length ≤ 2000) (hn : xs ≠ []) : ∃ j r, IsTop (xs.map .leaf) j r := by
  have hne : xs.map Nd.leaf ≠ [] := fun e => hn (List.map_eq_nil_iff.mp e)
  have h11 : lv (xs.map .leaf) 11 = [] := by
    rcases Classical.em (lv (xs.map .leaf) 11 = []) with h | h
    · exact h
    · have := few_levels (lv_ok hx hl 11) hl h
      omega
  have key : ∀ k, lv (xs.map .leaf) k = [] → ∃ j, (∀ i, i ≤ j → lv (xs.map .leaf) i ≠ []) ∧ lv (xs.map .leaf) (j + 1) = [] := by
    intro k
    induction k with
    | zero => intro h; exact absurd h hne
    | succ k ih =>
      intro h
      rcases Classical.em (lv (xs.map .leaf) k = []) with h2 | h2
      · exact ih h2
      · refine ⟨k, fun i hi e => h2 ?_, h⟩
        have := lv_nil e (k - i)
        rwa [show i + (k - i) = k by omega] at this
  obtain ⟨j, h1, h2⟩ := key 11 h11
  obtain ⟨r, hr⟩ := top_of hx hl h1 h2
  exact ⟨j, r, hr⟩
noncomputable def rtO (xs : List A) : Option Nd := if xs = [] then none else some (rootN xs)
theorem rtO_okt {xs : List A} (hx : ∀ x ∈ xs, El x) (hl : xs.length ≤ 2000) : ∀ r, rtO xs = some r → Okt r := by
  intro r h
  unfold rtO at h
  split at h
  · cases h
  · rename_i hn
    cases h
    obtain ⟨j, r, hr⟩ := trees_exG hx hl hn
    rw [rootN_eq hr]
    exact top_okt hx hl hr
theorem rtO_top {xs : List A} {j : Nat} {r : Nd} (h : IsTop (xs.map .leaf) j r) : rtO xs = some r := by
  unfold rtO
  rw [if_neg (top_ne h), rootN_eq h]
theorem rtO_nil : rtO [] = none := by simp [rtO]
theorem tab_of_wp {xs : List A} {st : Store} {Q : A → Store → Prop} (hx : ∀ x ∈ xs, El x) (hl : xs.length ≤ 2000) (k : ∀ st', Hold st st' → Q (tabO (rtO xs)) st') : (m_table_of [.tup xs] st).wp Q := by
  refine table_of_wp hx hl (fun e st' h => ?_) fun j root st' ht h => ?_
  · subst e
    have := k st' h
    rw [rtO_nil] at this
    exact this
  · have := k st' h
    rw [rtO_top ht] at this
    exact this
end Law
namespace Law
open PySem L2 ML
def m_law_heights : MF := mFn 3 1 (mSeq (mSet 1 (mLst mNil))
    (mSeq (mFor (mSrc (mVar 0)) (.one 2) (mIfS (mGB (mBin eqA (mBin ixA (mVar 2) (mC (.int 0))) (mC (.str "leaf")))) (mExpr (mBm appendA (mVar 1) (mCons (mC (.int 0)) mNil))) (mIfS (mGB (mBin eqA (mBin ixA (mVar 2) (mC (.int 0))) (mC (.str "run")))) (mExpr (mBm appendA (mVar 1) (mCons (mBin ixA (mVar 1) (mBin ixA (mVar 2) (mC (.int 1)))) mNil))) (mExpr (mBm appendA (mVar 1) (mCons (mBin addA (mC (.int 1)) (mBin ixA (mVar 1) (mBin ixA (mBin ixA (mVar 2) (mC (.int 1))) (mC (.int 0))))) mNil))))))
    (mRet (mVar 1))))
open Classical
def hgA (n : Nd) : A := .int (hgtN n : Nat)
theorem heights_wp {T : List Nd} {st : Store} {Q : A → Store → Prop} (cT : Clo T) (oT : Ord T) (okT : ∀ m ∈ T, okN m) (hl : T.length ≤ 1000000)
    (k : ∀ r st', Hold st st' → st.length ≤ r → stL st' r = some (T.map hgA) → Q (.ref r) st') : (m_law_heights [.tup (T.map (entA T))] st).wp Q := by
  simp only [m_law_heights]
  generalize hF : @mFor = F
  rw [wp_fn]
  refine ⟨rfl, ?_⟩
  have hs := size_eq
  simp only [List.map_cons, List.map_nil, List.cons_append, List.nil_append, List.replicate, Nat.reduceSub]
  generalize hv0 : some (A.tup (T.map (entA T))) = v0
  refine seq_cut (fun ρ st' => Hold st st' ∧ stL st' st.length = some [] ∧ ρ = [v0, some (.ref st.length), none]) ?_ ?_
  · simp only [sp_set, wp_lst, wp_nil, List.set_cons_zero, List.set_cons_succ]
    exact ⟨by simp [sizeLine], .grown (.one _ _), stL_new, by first | exact rfl | exact trivial⟩
  obtain ⟨r, hr⟩ : ∃ r, r = st.length := ⟨_, rfl⟩
  rw [← hr]
  rintro ρ st1 ⟨h1, l1, rfl⟩
  refine seq_cut (fun ρ st' => ∃ v2, Hold st st' ∧ stL st' r = some (T.map hgA) ∧ ρ = [v0, some (.ref r), v2]) ?_ ?_
  · rw [← hF, ← hv0]
    simp only [sp_for, wp_src, wp_var, List.getElem?_cons_succ, List.getElem?_cons_zero, Option.some.injEq, ex_eq, w_srcT]
    rw [hv0]
    refine for_vals (fun i ρ st' => ∃ v2, Hold st st' ∧ stL st' r = some ((T.take i).map hgA) ∧ ρ = [v0, some (.ref r), v2]) ⟨none, h1, by simpa using l1, rfl⟩ ?_ (fun ρ st' ⟨v2, a, b, c⟩ => ⟨v2, a, by simpa using b, c⟩)
    rintro i x ρ st2 hx ⟨v2, h2, l2, rfl⟩
    rw [List.getElem?_map, Option.map_eq_some_iff] at hx
    obtain ⟨n, hn, rfl⟩ := hx
    have hnT := List.mem_of_getElem? hn
    have hi := (List.getElem?_eq_some_iff.mp hn).1
    have hkt := fun {c} hc => tak_kids oT cT hn (c := c) hc
    have okn := okT n hnT
    have hget : ∀ c ∈ kids n, atI ((T.take i).map hgA) (idx T c : Nat) = some (hgA c) := fun c hc => take_ixG (hkt hc).2.2 (hkt hc).2.1
    have i0 : ∀ x y : A, atI [x, y] 0 = some x := fun _ _ => rfl
    have i1 : ∀ x y : A, atI [x, y] 1 = some y := fun _ _ => rfl
    have j0 : ∀ x y z : A, atI [x, y, z] 0 = some x := fun _ _ _ => rfl
    have j1 : ∀ x y z : A, atI [x, y, z] 1 = some y := fun _ _ _ => rfl
    have fin2 : ∀ (st3 : Store), Hold st st3 → stL st3 r = some ((T.take i).map hgA) → (appendA (.ref r) [hgA n] st3).wp fun _ st4 => ∃ v2, Hold st st4 ∧ stL st4 r = some ((T.take (i + 1)).map hgA) ∧ [v0, some (.ref r), some (entA T n)] = [v0, some (.ref r), v2] := fun st3 h3 l3 => by
      rw [w_append]
      refine ⟨_, l3, by rw [List.length_map, List.length_take, hs]; omega, _, h3.set (by omega), ?_, rfl⟩
      rw [stL_set_self l3, List.take_add_one, hn]
      simp
    refine ⟨[v0, some (.ref r), some (entA T n)], rfl, ?_⟩
    cases n with
    | leaf e =>
      simp only [entA, sp_ifs, sp_expr, wp_bm, wp_cons, wp_nil, wp_gb, wp_bin, wp_var, wp_c, List.getElem?_cons_succ, List.getElem?_cons_zero, Option.some.injEq, ex_eq, w_ixT, i0, w_eqS, decide_true, w_getB, if_true, isL_ref, l2, Option.isSome_some, true_and]
      exact fin2 st2 h2 l2
    | run b t =>
      have run_leaf : ¬ (Str.ofString "run" = Str.ofString "leaf") := by decide +kernel
      simp only [entA, sp_ifs, sp_expr, wp_bm, wp_cons, wp_nil, wp_gb, wp_bin, wp_var, wp_c, List.getElem?_cons_succ, List.getElem?_cons_zero, Option.some.injEq, ex_eq, w_ixT, j0, j1, w_eqS, decide_true, decide_false, run_leaf, w_getB, Bool.false_eq_true, if_true, if_false, isL_ref, l2, Option.isSome_some, true_and, w_ixL]
      exact ⟨_, hget b (by simp [kids]), fin2 st2 h2 l2⟩
    | blk cs =>
      have block_leaf : ¬ (Str.ofString "block" = Str.ofString "leaf") := by decide +kernel
      have hcl : 1 ≤ cs.length := by
        simp only [okN] at okn
        exact okn.1
      obtain ⟨c, cs', rfl⟩ : ∃ c cs', cs = c :: cs' := by
        cases cs with
        | nil => simp at hcl
        | cons c cs' => exact ⟨c, cs', rfl⟩
      have k0 : atI ((c :: cs').map fun c => A.int (idx T c : Nat)) 0 = some (.int (idx T c : Nat)) := by rw [atI_nn (by omega)]; rfl
      simp only [entA, sp_ifs, sp_expr, wp_bm, wp_ca, wp_cons, wp_nil, wp_gb, wp_bin, wp_var, wp_c, List.getElem?_cons_succ, List.getElem?_cons_zero, Option.some.injEq, ex_eq, w_ixT, i0, i1, w_eqS, decide_false, block_leaf, block_run, w_getB, Bool.false_eq_true, if_false, isL_ref, l2, Option.isSome_some, true_and, k0, w_ixL]
      refine ⟨_, hget c (by simp [kids]), ?_⟩
      simp only [hgA, w_add]
      have := fin2 st2 h2 l2
      simpa only [hgA, hgtN, entA, Int.natCast_add, Int.natCast_one] using this
  rintro ρ st2 ⟨v2, h2, l2, rfl⟩
  simp only [sp_ret, wp_var, List.getElem?_cons_succ, List.getElem?_cons_zero, Option.some.injEq, ex_eq]
  exact k r st2 h2 (by omega) l2
theorem drawQ {st : Store} {many : Int} {Q : A → Store → Prop} (t : TpOk st) (hm : many.natAbs < 2 ^ 200) (k : ∀ (n : Nat) st', (n : Int) < max many 1 → TpOk st' → Kp st st' → st'.length = st.length → Q (.int (n : Nat)) st') : (m_law_draw [.ref 1, .int many] st).wp Q :=
  draw_wp t hm fun n st' n0 n1 t' k' l' => by
    obtain ⟨m, rfl⟩ := Int.eq_ofNat_of_zero_le n0
    exact k m st' n1 t' k' l'
structure Bss (Bs : List (List A)) (rb : Nat) (rs : List A) (st : Store) : Prop where
  hb : stL st rb = some rs
  b1 : 1 < rb
  RB : BsL Bs rs st
  fB : Refs1 rs
  n : Bs.length ≤ 3
  l : ∀ B ∈ Bs, (∀ x ∈ B, El x) ∧ B.length ≤ 2000
theorem Bss.kp {Bs : List (List A)} {rb : Nat} {rs : List A} {st st' : Store} (h : Bss Bs rb rs st) (k : Kp st st') : Bss Bs rb rs st' := ⟨k.stL h.b1 h.hb, h.b1, h.RB.kp h.fB k, h.fB, h.n, h.l⟩
end Law
namespace Law
open PySem L2 ML
open Classical
theorem hgt_itm (g : Gp) : hgtN (itmN g) = hgtN g.1 := by
  unfold itmN
  split <;> rfl
theorem lv_hgt {xs : List A} (hx : ∀ x ∈ xs, El x) (hl : xs.length ≤ 2000) : ∀ j, ∀ n ∈ lv (xs.map .leaf) j, hgtN n = j
  | 0, n, hn => by
    obtain ⟨x, _, rfl⟩ := List.mem_map.mp (show n ∈ xs.map Nd.leaf from hn)
    rfl
  | j + 1, n, hn => by
    have ih := lv_hgt hx hl j
    have hn' : n ∈ nxt (lv (xs.map .leaf) j) := hn
    unfold nxt at hn'
    split at hn'
    · rename_i hc
      obtain ⟨p, hp, rfl⟩ := List.mem_map.mp hn'
      have hne : lv (xs.map .leaf) j ≠ [] := fun e => by rw [e, itms_nil] at hc; simp at hc
      have hR := (lv_ok hx hl j).row hl (by
        have := few_levels (lv_ok hx hl j) hl hne
        omega)
      have h1 := (prts_len hR hp).2.2
      cases p with
      | nil => simp at h1
      | cons c cs =>
        have hc : c ∈ itms (lv (xs.map .leaf) j) := by
          rw [← prts_flat hR]
          exact List.mem_flatten.mpr ⟨_, hp, by simp⟩
        obtain ⟨g, hg, rfl⟩ := List.mem_map.mp hc
        show 1 + hgtN (itmN g) = j + 1
        rw [hgt_itm, ih _ (grp_mem hg).1]
        omega
    · cases hn'
def FewLv (Kn : Nd → Prop) (b r : Nat) (ns : List Nd) (j : Nat) : Prop := ∃ NB NR : List Nd, NB.length ≤ b ∧ NR.length ≤ r ∧ (∀ n ∈ lv ns j, n ∈ NB ∨ Kn n) ∧ (∀ g ∈ grp (lv ns j), 2 ≤ g.2 → itmN g ∈ NR ∨ Kn (itmN g)) ∧ (j = 0 → NB = [])
def kdS : Nd → String
  | .leaf _ => "leaf"
  | .run _ _ => "run"
  | .blk _ => "block"
noncomputable def kK (n : Nd) : NestedKey := .tup [.text (kdS n), .num (hgtN n : Nat)]
def kA (n : Nd) : A := .tup [.str (kdS n), hgA n]
theorem kK_inj {m n : Nd} (h : kK m = kK n) : kdS m = kdS n ∧ hgtN m = hgtN n := by
  unfold kK at h
  simp only [NestedKey.tup.injEq, List.cons.injEq, NestedKey.text.injEq, NestedKey.num.injEq, and_true] at h
  obtain ⟨h1, h2⟩ := h
  refine ⟨?_, by exact_mod_cast h2⟩
  have a : ¬ (Str.ofString "leaf" = Str.ofString "run") := by decide +kernel
  have b : ¬ (Str.ofString "leaf" = Str.ofString "block") := by decide +kernel
  have c : ¬ (Str.ofString "run" = Str.ofString "block") := by decide +kernel
  cases m <;> cases n <;> first | rfl | exact absurd h1 a | exact absurd h1 b | exact absurd h1 c | exact absurd h1.symm a | exact absurd h1.symm b | exact absurd h1.symm c
noncomputable def cnt (R : List Nd) (n : Nd) : Nat := (R.filter fun m => decide (kK m = kK n)).length
theorem few_count {xs : List A} (hx : ∀ x ∈ xs, El x) (hl : xs.length ≤ 2000) {h : Nat} {root : Nd} (ht : IsTop (xs.map .leaf) h root) {Kn : Nd → Prop} {b r : Nat} (hf : ∀ j, j ≤ h → FewLv Kn b r (xs.map .leaf) j) {R : List Nd} (hR : R.Nodup) (hs : ∀ n ∈ R, n ∈ tblN root ∧ ¬ Kn n) {n : Nd} (hn : n ∈ R) : (∀ e, n ≠ .leaf e) ∧ (isRun n = true → cnt R n ≤ r) ∧ (isRun n = false → cnt R n ≤ b) := by
  have place : ∀ m ∈ R, hgtN m ≤ h ∧ ((m ∈ lv (xs.map .leaf) (hgtN m) ∧ isRun m = false) ∨ ∃ g ∈ grp (lv (xs.map .leaf) (hgtN m)), 2 ≤ g.2 ∧ m = itmN g) := fun m hm => by
    obtain ⟨j, hj, z⟩ := tree_lev hx hl ht m (hs m hm).1
    have low : m ∈ lv (xs.map .leaf) j → hgtN m ≤ h ∧ ((m ∈ lv (xs.map .leaf) (hgtN m) ∧ isRun m = false) ∨ ∃ g ∈ grp (lv (xs.map .leaf) (hgtN m)), 2 ≤ g.2 ∧ m = itmN g) := fun q => by
      have e := lv_hgt hx hl j m q
      rw [e]
      exact ⟨hj, .inl ⟨q, ((lv_ok hx hl j).ok m q).2.1⟩⟩
    rcases z with z | z
    · exact low z
    · obtain ⟨g, hg, e⟩ := List.mem_map.mp z
      obtain ⟨g1, g2⟩ := grp_mem hg
      by_cases c : g.2 = 1
      · refine low ?_
        rw [← e]
        unfold itmN
        rw [if_pos c]
        exact g1
      · have eh : hgtN m = j := by rw [← e, hgt_itm, lv_hgt hx hl j _ g1]
        rw [eh]
        exact ⟨hj, .inr ⟨g, hg, by omega, e.symm⟩⟩
  have isr : ∀ g : Gp, 2 ≤ g.2 → isRun (itmN g) = true := fun g hg => by
    unfold itmN
    rw [if_neg (by omega)]
    rfl
  have kr : ∀ {m n : Nd}, kdS m = kdS n → isRun m = isRun n := fun {m n} e => by
    have a : ¬ ("leaf" = "run") := by decide
    have b : ¬ ("leaf" = "block") := by decide
    have c : ¬ ("run" = "block") := by decide
    cases m <;> cases n <;> first | rfl | exact absurd e a | exact absurd e b | exact absurd e c | exact absurd e.symm a | exact absurd e.symm b | exact absurd e.symm c
  obtain ⟨hh, hp⟩ := place n hn
  obtain ⟨NB, NR, lB, lR, iB, iR, i0⟩ := hf (hgtN n) hh
  refine ⟨fun e he => ?_, fun hr => ?_, fun hr => ?_⟩
  · rcases hp with ⟨p1, _⟩ | ⟨g, _, g2, eg⟩
    · have hz : hgtN n = 0 := by rw [he]; rfl
      rcases iB n p1 with q | q
      · rw [i0 hz] at q
        cases q
      · exact (hs n hn).2 q
    · have := isr g g2
      rw [← eg, he] at this
      cases this
  · refine Nat.le_trans (nodup_sub (N := NR) (hR.filter _) fun m hm => ?_) lR
    obtain ⟨m1, m2⟩ := List.mem_filter.mp hm
    obtain ⟨e1, e2⟩ := kK_inj (of_decide_eq_true m2)
    have hrm : isRun m = true := by rw [kr e1]; exact hr
    obtain ⟨_, q⟩ := place m m1
    rw [e2] at q
    rcases q with ⟨_, q⟩ | ⟨g, hg, g2, eg⟩
    · rw [hrm] at q; cases q
    · rcases iR g hg g2 with w | w
      · rw [eg]; exact w
      · rw [← eg] at w; exact absurd w (hs m m1).2
  · refine Nat.le_trans (nodup_sub (N := NB) (hR.filter _) fun m hm => ?_) lB
    obtain ⟨m1, m2⟩ := List.mem_filter.mp hm
    obtain ⟨e1, e2⟩ := kK_inj (of_decide_eq_true m2)
    have hrm : isRun m = false := by rw [kr e1]; exact hr
    obtain ⟨_, q⟩ := place m m1
    rw [e2] at q
    rcases q with ⟨q, _⟩ | ⟨g, hg, g2, eg⟩
    · exact (iB m q).elim id fun w => absurd w (hs m m1).2
    · have := isr g g2
      rw [← eg, hrm] at this
      cases this
structure CntD (R : List Nd) (kvs : List (NestedKey × A)) : Prop where
  mem : ∀ kv ∈ kvs, ∃ n ∈ R, kv = (kK n, .int (cnt R n : Nat))
  all : ∀ n ∈ R, ∃ kv ∈ kvs, kv.1 = kK n
  len : kvs.length ≤ R.length
theorem cnt_congr {R : List Nd} {m n : Nd} (h : kK m = kK n) : cnt R m = cnt R n := by unfold cnt; rw [h]
theorem cnt_snoc (R : List Nd) (m n : Nd) : cnt (R ++ [m]) n = cnt R n + if kK m = kK n then 1 else 0 := by
  unfold cnt
  rw [List.filter_append, List.length_append]
  by_cases c : kK m = kK n <;> simp [c]
theorem CntD.at {R : List Nd} {kvs : List (NestedKey × A)} (h : CntD R kvs) (n : Nd) : (atD kvs (kK n)).getD (.int 0) = .int (cnt R n : Nat) := by
  unfold atD
  cases e : kvs.find? fun kv => decide (kv.1 = kK n) with
  | none =>
    have hz : cnt R n = 0 := by
      unfold cnt
      rw [List.length_eq_zero_iff]
      refine List.filter_eq_nil_iff.mpr fun m hm q => ?_
      obtain ⟨kv, h1, h2⟩ := h.all m hm
      have := List.find?_eq_none.mp e kv h1
      rw [h2] at this
      exact this q
    rw [hz]
    rfl
  | some kv =>
    obtain ⟨m, hm, rfl⟩ := h.mem kv (List.mem_of_find?_eq_some e)
    have := List.find?_some e
    rw [cnt_congr (of_decide_eq_true this)]
    rfl
theorem CntD.atS {R : List Nd} {kvs : List (NestedKey × A)} (h : CntD R kvs) {n : Nd} (hn : n ∈ R) : atD kvs (kK n) = some (.int (cnt R n : Nat)) := by
  have h1 := h.at n
  cases e : atD kvs (kK n) with
  | none =>
    exfalso
    unfold atD at e
    rw [Option.map_eq_none_iff] at e
    obtain ⟨kv, h1, h2⟩ := h.all n hn
    have := List.find?_eq_none.mp e kv h1
    rw [h2] at this
    simp at this
  | some v =>
    rw [e] at h1
    rw [← h1]
    rfl
theorem CntD.fit {R : List Nd} {kvs : List (NestedKey × A)} (h : CntD R kvs) (n : Nd) : fitD kvs (kK n) = true := by
  unfold fitD
  rw [Bool.and_eq_true, Bool.and_eq_true, List.all_eq_true]
  refine ⟨by cases n <;> simp [kK, NestedKey.depth, NestedKey.depthAll], by simp [kK], fun kv hkv => ?_⟩
  obtain ⟨m, _, rfl⟩ := h.mem kv hkv
  rfl
theorem CntD.put {R : List Nd} {kvs : List (NestedKey × A)} (h : CntD R kvs) (n : Nd) : CntD (R ++ [n]) (putD kvs (kK n) (.int ((cnt R n : Nat) + 1 : Int))) := by
  have e1 : ((cnt R n : Nat) + 1 : Int) = ((cnt (R ++ [n]) n : Nat) : Int) := by rw [cnt_snoc, if_pos rfl]; rfl
  rw [e1]
  refine ⟨fun kv hkv => ?_, fun m hm => ?_, ?_⟩
  · unfold putD at hkv
    split at hkv
    · obtain ⟨kv', h1, rfl⟩ := List.mem_map.mp hkv
      obtain ⟨m, hm, rfl⟩ := h.mem kv' h1
      by_cases c : kK m = kK n
      · exact ⟨n, by simp, by
          show (if kK m = kK n then _ else _) = _
          rw [if_pos c, c]⟩
      · refine ⟨m, by simp [hm], ?_⟩
        simp only [if_neg c]
        rw [cnt_snoc, if_neg (fun q => c q.symm)]
        rfl
    · rename_i hno
      rcases List.mem_append.mp hkv with z | z
      · obtain ⟨m, hm, rfl⟩ := h.mem kv z
        refine ⟨m, by simp [hm], ?_⟩
        rw [cnt_snoc, if_neg (fun q => hno (by rw [q, h.atS hm]; rfl))]
        rfl
      · rw [List.mem_singleton.mp z]
        exact ⟨n, by simp, rfl⟩
  · have key : ∀ m ∈ R, ∃ kv ∈ putD kvs (kK n) (.int ((cnt (R ++ [n]) n : Nat) : Int)), kv.1 = kK m := fun m hm => by
      obtain ⟨kv, h1, h2⟩ := h.all m hm
      unfold putD
      split
      · refine ⟨_, List.mem_map_of_mem h1, ?_⟩
        split <;> exact h2
      · exact ⟨kv, by simp [h1], h2⟩
    rcases List.mem_append.mp hm with z | z
    · exact key m z
    · rw [List.mem_singleton.mp z]
      unfold putD
      split
      · rename_i hs
        unfold atD at hs
        rw [Option.isSome_map] at hs
        obtain ⟨kv, hkv⟩ := Option.isSome_iff_exists.mp hs
        refine ⟨_, List.mem_map_of_mem (List.mem_of_find?_eq_some hkv), ?_⟩
        have h3 := List.find?_some hkv
        have h4 : kv.1 = kK n := of_decide_eq_true h3
        split <;> exact h4
      · exact ⟨(kK n, .int ((cnt (R ++ [n]) n : Nat) : Int)), by simp, rfl⟩
  · refine Nat.le_trans putD_len ?_
    have := h.len
    simp
    omega
theorem CntD.nil : CntD [] [] := ⟨by simp, by simp, Nat.le_refl _⟩
end Law
namespace Law
open PySem L2 ML
open Classical
def m_law_fresh : MF := mFn 10 2 (mSeq (mSet 2 mDNew)
    (mSeq (mFor (mSrc (mVar 0)) (.one 3) (mExpr (mCall m_law_numbers (mCons (mVar 2) (mCons (mVar 3) mNil)))))
    (mSeq (mSet 4 (mCa lenD (mCons (mVar 2) mNil)))
    (mSeq (mSet 5 (mCall m_law_numbers (mCons (mVar 2) (mCons (mVar 1) mNil))))
    (mSeq (mSet 6 (mCall m_law_heights (mCons (mVar 1) mNil)))
    (mSeq (mSet 7 mDNew)
    (mSeq (mFor (mRng (mCons (mCa lenA (mCons (mVar 1) mNil)) mNil)) (.one 8) (mIfS (mGB (mBin geA (mBin ixA (mVar 5) (mVar 8)) (mVar 4))) (mSeq (mSet 9 (mTup (mCons (mBin ixA (mBin ixA (mVar 1) (mVar 8)) (mC (.int 0))) (mCons (mBin ixA (mVar 6) (mVar 8)) mNil))))
    (mDPut (mVar 7) (mVar 9) (mBin addA (mDGet2 (mVar 7) (mVar 9) (mC (.int 0))) (mC (.int 1))))) mNext))
    (mRet (mVar 7)))))))))
def m_law_kept : MF := mFn 4 3 (mSeq (mForT 0 (.one 3) (mIfS (mOr (mGB (mBin eqA (mBin ixA (mVar 3) (mC (.int 0))) (mC (.str "leaf")))) (mOr (mGB (mBin gtA (mBin getD' (mVar 0) (mVar 3)) (mVar 1))) (mAnd (mGB (mBin eqA (mBin ixA (mVar 3) (mC (.int 0))) (mC (.str "run")))) (mGB (mBin gtA (mBin getD' (mVar 0) (mVar 3)) (mVar 2)))))) (mRet (mC (.bl false))) mNext))
    (mRet (mC (.bl true))))
theorem wp_dget2 {mo mi mx : MX} {ρ : ML.Env} {st : Store} {Q : A → Store → Prop} : (mDGet2 mo mi mx ρ st).wp Q ↔ (mo ρ st).wp fun d st1 => isDA d st1 = true ∧ (mi ρ st1).wp fun b st2 => (mx ρ st2).wp fun z st3 => ∃ o, askD d b st3 = some o ∧ Q (o.getD z) st3 := by
  unfold mDGet2
  rw [wp_bind]
  refine iff_of_eq (congrArg _ (funext fun d => funext fun st1 => propext ?_))
  by_cases c : isDA d st1 = true
  · rw [if_pos c, wp_bind]
    refine Iff.trans (iff_of_eq (congrArg _ (funext fun b => funext fun st2 => propext ?_))) (show _ ↔ _ ∧ _ from ⟨fun h => ⟨c, h⟩, fun h => h.2⟩)
    rw [wp_bind]
    refine iff_of_eq (congrArg _ (funext fun z => funext fun st3 => propext ?_))
    cases askD d b st3 <;> simp
  · rw [if_neg c]
    exact ⟨fun h => h.elim, fun h => absurd h.1 c⟩
theorem sp_forT {i r : Nat} {kvs : List (NestedKey × A)} {tg : Tg} {body : MS} {ρ : ML.Env} {st : Store} {N B C : ML.Env → Store → Prop} {Rt : A → Store → Prop} (h : ρ[i]? = some (some (.ref r))) (hd : ML.stD st r = some kvs) (hf : (flatD kvs || rawD kvs) = true) (hw : (mFor (mKeysF i) tg body ρ (st.set r (.oth (.frd kvs)))).wp (fun ρ' st' => ∃ st2, unF r st' = some st2 ∧ N ρ' st2) (fun _ _ => False) (fun _ _ => False) (fun _ _ => False)) : (mForT i tg body ρ st).wp N B C Rt := by
  unfold mForT
  rw [h]
  simp only [hd, hf, if_true]
  cases q : mFor (mKeysF i) tg body ρ (st.set r (.oth (.frd kvs))) with
  | nx ρ1 st1 =>
    rw [q] at hw
    obtain ⟨st2, h1, h2⟩ := hw
    unfold unlockS
    simp only [h1]
    exact h2
  | bk ρ1 st1 => rw [q] at hw; exact hw.elim
  | ct ρ1 st1 => rw [q] at hw; exact hw.elim
  | rt a st1 => rw [q] at hw; exact hw.elim
  | er e ρ1 st1 => rw [q] at hw; exact hw.elim
  | bad => rw [q] at hw; exact hw.elim
theorem w_dgetT {st : Store} {r : Nat} {kvs : List (NestedKey × A)} {k : NestedKey} {y v : A} {Q : A → Store → Prop} (hs : stF st r = some kvs) (hk : keyOf y = some k) (hf : fitD kvs k = true) (hne : kvs.isEmpty = false) (hv : atD kvs k = some v) (h : Q v st) : (getD' (.ref r) y st).wp Q := by
  have hd : ML.stD st r = none := by
    unfold ML.stD
    rw [stF_eq hs]
  have e : askD (.ref r) y st = some (some v) := by
    unfold askD
    simp only [hk, hd, hs, hf, hne, or_true, and_self, if_true, hv]
  unfold getD'
  rw [e]
  exact h
theorem kK_a (n : Nd) : aOf (kK n) = kA n := by cases n <;> rfl
theorem kA_k (n : Nd) : keyOf (kA n) = some (kK n) := by cases n <;> rfl
theorem CntD.raw {R : List Nd} {kvs : List (NestedKey × A)} (h : CntD R kvs) : (flatD kvs || rawD kvs) = true := by
  cases kvs with
  | nil => rfl
  | cons kv kvs =>
    rw [Bool.or_eq_true]
    right
    unfold rawD
    rw [Bool.and_eq_true, List.all_eq_true]
    refine ⟨rfl, fun kv' hk => ?_⟩
    obtain ⟨m, _, rfl⟩ := h.mem kv' hk
    rfl
theorem kept_wp {R : List Nd} {kvs : List (NestedKey × A)} {r : Nat} {b u : Int} {st : Store} (hd : ML.stD st r = some kvs) (h : CntD R kvs) (hg : ∀ n ∈ R, (∀ e, n ≠ .leaf e) ∧ (isRun n = true → ((cnt R n : Nat) : Int) ≤ u ∧ ((cnt R n : Nat) : Int) ≤ b) ∧ (isRun n = false → ((cnt R n : Nat) : Int) ≤ b)) : (m_law_kept [.ref r, .int b, .int u] st).wp fun a _ => a = .bl true := by
  simp only [m_law_kept]
  rw [wp_fn]
  refine ⟨rfl, ?_⟩
  simp only [List.map_cons, List.map_nil, List.cons_append, List.nil_append, List.replicate, Nat.reduceSub]
  refine seq_cut (fun ρ st' => True) ?_ ?_
  · refine sp_forT rfl hd h.raw ?_
    have hlt := stD_lt hd
    have hF : stF (st.set r (.oth (.frd kvs))) r = some kvs := by
      unfold stF
      rw [List.getElem?_set_self hlt]
    generalize st.set r (.oth (.frd kvs)) = st1 at *
    have hK : mKeysF 0 [some (.ref r), some (.int b), some (.int u), none] st1 = .ok (.vals (kvs.map fun kv => aOf kv.1)) st1 := by
      unfold mKeysF
      simp only [List.getElem?_cons_zero, hF]
    rw [sp_for, hK, wp_ok]
    refine for_vals (fun i ρ st' => st' = st1 ∧ ∃ v3, ρ = [some (.ref r), some (.int b), some (.int u), v3]) ⟨rfl, none, rfl⟩ ?_ ?_
    · rintro i x ρ st2 hx ⟨rfl, v3, rfl⟩
      rw [List.getElem?_map, Option.map_eq_some_iff] at hx
      obtain ⟨kv, hkv, rfl⟩ := hx
      have hm := List.mem_of_getElem? hkv
      obtain ⟨n, hn, rfl⟩ := h.mem kv hm
      obtain ⟨g1, g2, g3⟩ := hg n hn
      have hne : kvs.isEmpty = false := by
        cases kvs with
        | nil => cases hm
        | cons _ _ => rfl
      have get : ∀ Q : A → Store → Prop, Q (.int (cnt R n : Nat)) st2 → (getD' (.ref r) (kA n) st2).wp Q := fun Q q => w_dgetT hF (kA_k n) (h.fit n) hne (h.atS hn) q
      have i0 : ∀ x y : A, atI [x, y] 0 = some x := fun _ _ => rfl
      refine ⟨[some (.ref r), some (.int b), some (.int u), some (kA n)], by rw [kK_a]; rfl, ?_⟩
      have bl : ¬ (Str.ofString "block" = Str.ofString "leaf") := by decide +kernel
      have rl : ¬ (Str.ofString "run" = Str.ofString "leaf") := by decide +kernel
      cases n with
      | leaf e => exact absurd rfl (g1 e)
      | run bb t =>
        obtain ⟨c1, c2⟩ := g2 rfl
        have e : kA (.run bb t) = .tup [.str "run", hgA (.run bb t)] := rfl
        simp only [sp_ifs, wp_or, wp_and, wp_gb, wp_bin, wp_var, wp_c, List.getElem?_cons_succ, List.getElem?_cons_zero, Option.some.injEq, ex_eq]
        rw [e]
        simp only [w_ixT, i0, Option.some.injEq, ex_eq, w_eqS, rl, decide_false, w_getB, Bool.false_eq_true, if_false, decide_true, if_true]
        rw [← e]
        refine get _ ?_
        simp only [w_gt, w_getB]
        rw [if_neg (by simp; omega)]
        refine get _ ?_
        simp only [w_gt, w_getB]
        rw [if_neg (by simp; omega)]
        exact sp_next.mpr ⟨rfl, _, rfl⟩
      | blk cs =>
        have c1 := g3 rfl
        have e : kA (.blk cs) = .tup [.str "block", hgA (.blk cs)] := rfl
        simp only [sp_ifs, wp_or, wp_and, wp_gb, wp_bin, wp_var, wp_c, List.getElem?_cons_succ, List.getElem?_cons_zero, Option.some.injEq, ex_eq]
        rw [e]
        simp only [w_ixT, i0, Option.some.injEq, ex_eq, w_eqS, bl, block_run, decide_false, w_getB, Bool.false_eq_true, if_false, decide_true, if_true]
        rw [← e]
        refine get _ ?_
        simp only [w_gt, w_getB]
        rw [if_neg (by simp; omega)]
        exact sp_next.mpr ⟨rfl, _, rfl⟩
    · rintro ρ st2 ⟨rfl, v3, rfl⟩
      refine ⟨st2.set r (.oth (.dct kvs)), ?_, trivial⟩
      unfold unF
      rw [hF]
  · rintro ρ st1 _
    simp only [sp_ret, wp_c]
theorem w_nl {f T : List Nd} {n : Nd} (hn : n ∈ T) (hf : ∀ m ∈ T, m ∈ addL f T) : f.length ≤ idx (addL f T) n ↔ n ∉ f := by
  obtain ⟨g, e, _⟩ := addL_pre T f
  have h1 := hf n hn
  rw [e] at h1 ⊢
  by_cases c : n ∈ f
  · have := idx_lt c
    rw [idx_app c]
    exact ⟨fun h => by omega, fun h => absurd c h⟩
  · refine ⟨fun _ => c, fun _ => ?_⟩
    have h2 := idx_get h1
    by_cases q : f.length ≤ idx (f ++ g) n
    · exact q
    · exfalso
      rw [List.getElem?_append_left (by omega)] at h2
      exact c (List.mem_of_getElem? h2)
structure FrS (F T f : List Nd) (r5 r6 r7 : Nat) (i : Nat) (st : Store) : Prop where
  h5 : stL st r5 = some (T.map (numA F))
  h6 : stL st r6 = some (T.map hgA)
  n5 : r5 ≠ r7
  n6 : r6 ≠ r7
  d : ∃ kvs, ML.stD st r7 = some kvs ∧ CntD ((T.take i).filter fun n => decide (n ∉ f)) kvs
theorem fresh_wp {Ts : List (Option Nd)} {T : List Nd} {rt : Nat} {st : Store} {Q : A → Store → Prop} (hT : ∀ o ∈ Ts, ∀ r, o = some r → Okt r) (hTl : Ts.length ≤ 4) (ht : stL st rt = some (Ts.map tabO)) (cT : Clo T) (oT : Ord T) (okT : ∀ m ∈ T, okN m) (lT : T.length ≤ 60000)
    (k : ∀ r kvs st', ML.stD st' r = some kvs → CntD (T.filter fun n => decide (n ∉ knN [] Ts)) kvs → Q (.ref r) st') : (m_law_fresh [.ref rt, .tup (T.map (entA T))] st).wp Q := by
  have NU := @numbers_wp
  have HW := @heights_wp
  simp only [m_law_fresh]
  generalize m_law_numbers = nu at NU ⊢
  generalize m_law_heights = hg at HW ⊢
  generalize hF : @mFor = F
  rw [wp_fn]
  refine ⟨rfl, ?_⟩
  have hs := size_eq
  simp only [List.map_cons, List.map_nil, List.cons_append, List.nil_append, List.replicate, Nat.reduceSub]
  have hKok : ∀ i, Clo (knN [] (Ts.take i)) ∧ (∀ m ∈ knN [] (Ts.take i), okN m) ∧ (knN [] (Ts.take i)).length ≤ 240000 := fun i => by
    obtain ⟨a, b, c⟩ := kn_ok (f := []) clo_nil' (by simp) (Ts := Ts.take i) fun o ho => hT o (List.mem_of_mem_take ho)
    have : (Ts.take i).length ≤ 4 := by rw [List.length_take]; omega
    refine ⟨a, b, ?_⟩
    simp only [List.length_nil] at c
    have := Nat.mul_le_mul_left 60000 this
    omega
  obtain ⟨tb, htb⟩ : ∃ tb, tb = A.tup (T.map (entA T)) := ⟨_, rfl⟩
  rw [← htb]
  refine seq_cut (fun ρ st' => ∃ r2, Hold st st' ∧ st.length ≤ r2 ∧ ML.stD st' r2 = some (numF []) ∧ ρ = [some (.ref rt), some tb, some (.ref r2), none, none, none, none, none, none, none]) ?_ ?_
  · simp only [sp_set, wp_dnew, List.set_cons_zero, List.set_cons_succ]
    exact ⟨st.length, .grown (.one _ _), Nat.le_refl _, by rw [stD_new]; rfl, rfl⟩
  rintro ρ st1 ⟨r2, h1, l2, d1, rfl⟩
  have hrt := stL_lt ht
  refine seq_cut (fun ρ st' => ∃ v3, ML.stD st' r2 = some (numF (knN [] Ts)) ∧ ρ = [some (.ref rt), some tb, some (.ref r2), v3, none, none, none, none, none, none]) ?_ ?_
  · rw [← hF]
    have ht1 : stL st1 rt = some (Ts.map tabO) := h1.stL ht
    simp only [sp_for, wp_src, wp_var, List.getElem?_cons_succ, List.getElem?_cons_zero, Option.some.injEq, ex_eq, w_srcL, ht1, Option.isSome_some]
    refine ⟨trivial, ?_⟩
    refine for_lst (fun i ρ st' => ∃ v3, stL st' rt = some (Ts.map tabO) ∧ ML.stD st' r2 = some (numF (knN [] (Ts.take i))) ∧ ρ = [some (.ref rt), some tb, some (.ref r2), v3, none, none, none, none, none, none]) ht1 ⟨none, ht1, by simpa [knN] using d1, rfl⟩ (fun i ρ st' ⟨_, a, _, _⟩ => a) ?_ (fun ρ st' ⟨v3, a, b, c⟩ => ⟨v3, by rw [List.length_map, List.take_length] at b; exact b, c⟩)
    rintro i x ρ st2 hx ⟨v3, t2, d2, rfl⟩
    rw [List.getElem?_map, Option.map_eq_some_iff] at hx
    obtain ⟨o, ho, rfl⟩ := hx
    have hm := List.mem_of_getElem? ho
    obtain ⟨cK, okK, lK⟩ := hKok i
    obtain ⟨cO, oO, okO, lO⟩ := tbO_ok (hT o hm)
    refine ⟨_, rfl, ?_⟩
    simp only [sp_expr, wp_call, wp_cons, wp_nil, wp_var, List.set_cons_zero, List.set_cons_succ, List.getElem?_cons_succ, List.getElem?_cons_zero, Option.some.injEq, ex_eq]
    unfold tabO
    refine NU cK okK cO oO (fun m hm => (okO m hm).1) d2 (by omega) fun r st4 N => ?_
    have nd := N.d
    rw [List.take_length] at nd
    have hlt2 := stL_lt t2
    have hn2 : rt ≠ r2 := fun e => by
      have a := stL_eq t2
      have b := stD_eq d2
      rw [e, b] at a
      cases a
    refine ⟨_, ?_, by rw [kn_step ho]; exact nd, rfl⟩
    exact stL_of (by rw [N.fr.get rt hlt2 hn2 hn2]; exact stL_eq t2)
  clear d1 h1 st1
  rintro ρ st1 ⟨v3, d1, rfl⟩
  obtain ⟨cK, okK, lK⟩ := hKok Ts.length
  rw [List.take_length] at cK okK lK
  generalize knN [] Ts = f at *
  refine seq_cut (fun ρ st' => st' = st1 ∧ ρ = [some (.ref rt), some tb, some (.ref r2), v3, some (.int (f.length : Nat)), none, none, none, none, none]) ?_ ?_
  · simp only [sp_set, wp_ca, wp_cons, wp_nil, wp_var, List.set_cons_zero, List.set_cons_succ, List.getElem?_cons_succ, List.getElem?_cons_zero, Option.some.injEq, ex_eq]
    refine w_lenD d1 (by rw [show (numF f).length = f.length from numG_len _ _ _, hs]; omega) ?_
    rw [show (numF f).length = f.length from numG_len _ _ _]
    exact ⟨rfl, rfl⟩
  rintro ρ st2 ⟨rfl, rfl⟩
  have cA : Clo (addL f T) := by
    have := addL_clo_tk cK oT cT T.length (Nat.le_refl _)
    rwa [List.take_length] at this
  refine seq_cut (fun ρ st' => ∃ r5, stL st' r5 = some (T.map (numA (addL f T))) ∧ ρ = [some (.ref rt), some tb, some (.ref r2), v3, some (.int (f.length : Nat)), some (.ref r5), none, none, none, none]) ?_ ?_
  · simp only [sp_set, wp_call, wp_cons, wp_nil, wp_var, List.set_cons_zero, List.set_cons_succ, List.getElem?_cons_succ, List.getElem?_cons_zero, Option.some.injEq, ex_eq]
    rw [htb]
    refine NU cK okK cT oT okT d1 (by omega) fun r st4 N => ?_
    have nl := N.l
    rw [List.take_length] at nl
    exact ⟨r, nl, rfl⟩
  clear d1 st2
  rintro ρ st2 ⟨r5, h5, rfl⟩
  refine seq_cut (fun ρ st' => ∃ r6, stL st' r5 = some (T.map (numA (addL f T))) ∧ stL st' r6 = some (T.map hgA) ∧ ρ = [some (.ref rt), some tb, some (.ref r2), v3, some (.int (f.length : Nat)), some (.ref r5), some (.ref r6), none, none, none]) ?_ ?_
  · simp only [sp_set, wp_call, wp_cons, wp_nil, wp_var, List.set_cons_zero, List.set_cons_succ, List.getElem?_cons_succ, List.getElem?_cons_zero, Option.some.injEq, ex_eq]
    rw [htb]
    exact HW cT oT okT (by omega) fun r st4 h4 hr h6 => ⟨r, h4.stL h5, h6, rfl⟩
  clear h5 st2
  rintro ρ st2 ⟨r6, h5, h6, rfl⟩
  refine seq_cut (fun ρ st' => ∃ r7, FrS (addL f T) T f r5 r6 r7 0 st' ∧ ρ = [some (.ref rt), some tb, some (.ref r2), v3, some (.int (f.length : Nat)), some (.ref r5), some (.ref r6), some (.ref r7), none, none]) ?_ ?_
  · simp only [sp_set, wp_dnew, List.set_cons_zero, List.set_cons_succ]
    have := stL_lt h5
    have := stL_lt h6
    exact ⟨st2.length, ⟨Grown.stL (.one _ _) h5, Grown.stL (.one _ _) h6, by omega, by omega, [], stD_new, by simpa using CntD.nil⟩, rfl⟩
  clear h5 h6 st2
  rintro ρ st2 ⟨r7, S, rfl⟩
  refine seq_cut (fun ρ st' => ∃ v8 v9, FrS (addL f T) T f r5 r6 r7 T.length st' ∧ ρ = [some (.ref rt), some tb, some (.ref r2), v3, some (.int (f.length : Nat)), some (.ref r5), some (.ref r6), some (.ref r7), v8, v9]) ?_ ?_
  · rw [← hF, htb]
    simp only [sp_for, wp_rng, wp_ca, wp_cons, wp_nil, wp_var, List.getElem?_cons_succ, List.getElem?_cons_zero, Option.some.injEq, ex_eq, w_lenT, w_rng1, List.length_map]
    rw [← htb]
    refine ⟨⟨by omega, by omega⟩, ?_⟩
    rw [Int.toNat_natCast]
    refine for_rng (fun i ρ st' => ∃ v8 v9, FrS (addL f T) T f r5 r6 r7 i st' ∧ ρ = [some (.ref rt), some tb, some (.ref r2), v3, some (.int (f.length : Nat)), some (.ref r5), some (.ref r6), some (.ref r7), v8, v9]) ⟨none, none, S, rfl⟩ ?_ (fun ρ st' h => h)
    rintro i ρ st3 hi ⟨v8, v9, S3, rfl⟩
    refine ⟨_, rfl, ?_⟩
    obtain ⟨n, hn⟩ : ∃ n, T[i]? = some n := ⟨_, List.getElem?_eq_getElem hi⟩
    have hnT := List.mem_of_getElem? hn
    have a5 : atI (T.map (numA (addL f T))) (0 + (i : Int)) = some (numA (addL f T) n) := by
      rw [Int.zero_add, atI_nn (by omega), Int.toNat_natCast, List.getElem?_map, hn]; rfl
    have a6 : atI (T.map hgA) (0 + (i : Int)) = some (hgA n) := by
      rw [Int.zero_add, atI_nn (by omega), Int.toNat_natCast, List.getElem?_map, hn]; rfl
    have a1 : atI (T.map (entA T)) (0 + (i : Int)) = some (entA T n) := by
      rw [Int.zero_add, atI_nn (by omega), Int.toNat_natCast, List.getElem?_map, hn]; rfl
    have hmA : ∀ m ∈ T, m ∈ addL f T := fun m hm => addL_mem hm
    have hw := w_nl (f := f) hnT hmA
    have tk : T.take (i + 1) = T.take i ++ [n] := by rw [List.take_add_one, hn]; rfl
    obtain ⟨kvs, hd, hC⟩ := S3.d
    simp only [sp_ifs, wp_gb, wp_bin, wp_var, List.set_cons_zero, List.set_cons_succ, List.getElem?_cons_succ, List.getElem?_cons_zero, Option.some.injEq, ex_eq, w_ixL, S3.h5, a5]
    simp only [numA, w_ge, w_getB, decide_eq_true_eq]
    by_cases c : n ∈ f
    · rw [if_neg (by intro q; exact hw.mp (by exact_mod_cast q) c)]
      refine sp_next.mpr ⟨_, _, ⟨S3.h5, S3.h6, S3.n5, S3.n6, kvs, hd, ?_⟩, rfl⟩
      rw [tk, List.filter_append]
      simpa [c] using hC
    · rw [if_pos (by exact_mod_cast hw.mpr c)]
      have e0 : ∃ w, entA T n = .tup (.str (kdS n) :: w) := by cases n <;> exact ⟨_, rfl⟩
      obtain ⟨w, ew⟩ := e0
      have a0 : atI (A.str (kdS n) :: w) 0 = some (.str (kdS n)) := by rw [atI_nn (by omega)]; rfl
      rw [htb]
      simp only [sp_seq, sp_set, wp_tup, wp_bin, wp_cons, wp_nil, wp_var, wp_c, List.set_cons_zero, List.set_cons_succ, List.getElem?_cons_succ, List.getElem?_cons_zero, Option.some.injEq, ex_eq, w_ixT, w_ixL, a1, ew, a0, S3.h6, a6]
      rw [← htb]
      refine ⟨by rw [hs]; simp, ?_⟩
      have ek : A.tup [.str (kdS n), hgA n] = kA n := rfl
      rw [ek]
      have hg2 : askD (.ref r7) (kA n) st3 = some (atD kvs (kK n)) := by
        unfold askD
        simp only [kA_k, hd, hC.fit n, if_true]
      have hlt7 := stD_lt hd
      simp only [sp_dput, wp_bin, wp_dget2, wp_var, wp_c, List.set_cons_zero, List.set_cons_succ, List.getElem?_cons_succ, List.getElem?_cons_zero, Option.some.injEq, ex_eq]
      refine ⟨by unfold isDA; simp only [hd]; rfl, _, hg2, ?_⟩
      rw [hC.at n, w_add]
      have hl7 : kvs.length < sizeLine := by
        have h1 := hC.len
        have h2 := List.length_filter_le (fun n => decide (n ∉ f)) (T.take i)
        rw [List.length_take] at h2
        rw [hs]
        omega
      obtain ⟨kv2, hkv2⟩ : ∃ kv2, kv2 = putD kvs (kK n) (.int (((cnt ((T.take i).filter fun n => decide (n ∉ f)) n : Nat) : Int) + 1)) := ⟨_, rfl⟩
      have hput : putS (.ref r7) (kA n) (.int (((cnt ((T.take i).filter fun n => decide (n ∉ f)) n : Nat) : Int) + 1)) st3 = some (st3.set r7 (.oth (.dct kv2))) := by
        rw [hkv2]
        unfold putS
        simp only [hd, kA_k, hC.fit n, hl7, and_self, if_true]
      refine ⟨_, hput, _, _, ⟨?_, ?_, S3.n5, S3.n6, kv2, stD_set_self hlt7, ?_⟩, rfl⟩
      · rw [stL_set_ne' S3.n5.symm]; exact S3.h5
      · rw [stL_set_ne' S3.n6.symm]; exact S3.h6
      · rw [tk, List.filter_append]
        have := hC.put n
        rw [hkv2]
        simpa [c] using this
  clear S st2
  rintro ρ st2 ⟨v8, v9, S, rfl⟩
  obtain ⟨kvs, hd, hC⟩ := S.d
  rw [List.take_length] at hC
  simp only [sp_ret, wp_var, List.getElem?_cons_succ, List.getElem?_cons_zero, Option.some.injEq, ex_eq]
  exact k r7 kvs st2 hd hC
end Law
namespace Law
open PySem L2 ML
open Classical
theorem old_in {xs : List A} (hx : ∀ x ∈ xs, El x) (hl : xs.length ≤ 2000) {j : Nat} {n : Nd} (hn : n ∈ lv (xs.map .leaf) j ∨ n ∈ itms (lv (xs.map .leaf) j)) : n ∈ tbO (rtO xs) := by
  have hVn : lv (xs.map .leaf) j ≠ [] := fun e => by
    rw [e] at hn
    rcases hn with z | z
    · cases z
    · rw [itms_nil] at z; cases z
  have hbn : xs ≠ [] := fun e => hVn (by
    have := lv_nil (ns := xs.map Nd.leaf) (j := 0) (by rw [e]; rfl) j
    rwa [Nat.zero_add] at this)
  obtain ⟨h, r, ht⟩ := top_ex hx hl hbn
  have hj : j ≤ h := by
    by_cases c : j ≤ h
    · exact c
    · have := lv_nil ht.nil (j - (h + 1))
      rw [show h + 1 + (j - (h + 1)) = j by omega] at this
      exact absurd this hVn
  have lt := lev_tree hx hl ht (h - j) j (by omega)
  rw [rtO_top ht]
  show n ∈ lis r []
  exact hn.elim (lt.2 n) (lt.1 n)
theorem few_ok {xs : List A} {f : List Nd} {b u : Nat} (hx : ∀ x ∈ xs, El x) (hl : xs.length ≤ 2000) (hub : u ≤ b) (few : ∀ j, j ≤ 11 → FewLv (fun n => n ∈ f) b u (xs.map .leaf) j) : ∀ n ∈ (tbO (rtO xs)).filter (fun n => decide (n ∉ f)), (∀ e, n ≠ .leaf e) ∧ (isRun n = true → ((cnt ((tbO (rtO xs)).filter fun n => decide (n ∉ f)) n : Nat) : Int) ≤ (u : Nat) ∧ ((cnt ((tbO (rtO xs)).filter fun n => decide (n ∉ f)) n : Nat) : Int) ≤ (b : Nat)) ∧ (isRun n = false → ((cnt ((tbO (rtO xs)).filter fun n => decide (n ∉ f)) n : Nat) : Int) ≤ (b : Nat)) := by
  intro n hn
  by_cases hxs : xs = []
  · subst hxs
    rw [rtO_nil] at hn
    simp [tbO] at hn
  obtain ⟨h, r, ht⟩ := top_ex hx hl hxs
  have h10 : h ≤ 10 := few_levels (lv_ok hx hl h) hl (ht.ne h (Nat.le_refl _))
  obtain ⟨cT, _⟩ := tbO_ok (rtO_okt hx hl)
  have e : tbO (rtO xs) = tblN r := by rw [rtO_top ht]; rfl
  have key := few_count hx hl ht (Kn := fun n => n ∈ f) (fun j hj => few j (by omega)) (R := (tbO (rtO xs)).filter fun n => decide (n ∉ f)) (cT.1.filter _) (fun m hm => by
    obtain ⟨a, b⟩ := List.mem_filter.mp hm
    exact ⟨by rw [← e]; exact a, of_decide_eq_true b⟩) hn
  obtain ⟨k1, k2, k3⟩ := key
  exact ⟨k1, fun q => ⟨by exact_mod_cast k2 q, by exact_mod_cast Nat.le_trans (k2 q) hub⟩, fun q => by exact_mod_cast k3 q⟩
theorem join_few {xs ys : List A} {f : List Nd} (hx : ∀ x ∈ xs, El x) (hy : ∀ y ∈ ys, El y) (hl : (xs ++ ys).length ≤ 2000) (fx : ∀ n ∈ tbO (rtO xs), n ∈ f) (fy : ∀ n ∈ tbO (rtO ys), n ∈ f) {j : Nat} (hj : j ≤ 12) : FewLv (fun n => n ∈ f) 11 7 ((xs ++ ys).map .leaf) j := by
  have hxy := el_app hx hy
  have lx : xs.length ≤ 2000 := by rw [List.length_append] at hl; omega
  have ly : ys.length ≤ 2000 := by rw [List.length_append] at hl; omega
  obtain ⟨P, M, S, U, V, ⟨e1, e2, e3, hM⟩, h0⟩ := jn_levels (m := (xs ++ ys).length) (xs := xs.map .leaf) (ys := ys.map .leaf) (by rw [← List.map_append]; exact lv_ok hxy hl) hl j hj
  rw [← List.map_append] at e1
  obtain ⟨I, K, T, g⟩ := grp_three P M S
  obtain ⟨X, eX⟩ := g.lft U
  obtain ⟨Y, eY⟩ := g.rgt V
  have old : ∀ n, n ∈ lv (xs.map .leaf) j ∨ n ∈ itms (lv (xs.map .leaf) j) ∨ n ∈ lv (ys.map .leaf) j ∨ n ∈ itms (lv (ys.map .leaf) j) → n ∈ f := fun n hn => by
    rcases hn with q | q | q | q
    · exact fx n (old_in hx lx (.inl q))
    · exact fx n (old_in hx lx (.inr q))
    · exact fy n (old_in hy ly (.inl q))
    · exact fy n (old_in hy ly (.inr q))
  refine ⟨M, (K.filter fun g => decide (2 ≤ g.2)).map itmN, hM, ?_, fun n hn => ?_, fun c hc h2 => ?_, h0⟩
  · rw [List.length_map]
    have := g.run
    unfold runC at this
    omega
  · rw [e1] at hn
    rcases List.mem_append.mp hn with z | z
    · exact .inr (old n (.inl (by rw [e2]; simp [z])))
    rcases List.mem_append.mp z with z | z
    · exact .inl z
    · exact .inr (old n (.inr (.inr (.inl (by rw [e3]; simp [z])))))
  · rw [e1, g.eq] at hc
    rcases List.mem_append.mp hc with z | z
    · refine .inr (old _ (.inr (.inl ?_)))
      unfold itms
      rw [e2, eX]
      exact List.mem_map_of_mem (List.mem_append_left _ z)
    rcases List.mem_append.mp z with z | z
    · exact .inl (List.mem_map_of_mem (List.mem_filter.mpr ⟨z, by simp [h2]⟩))
    · refine .inr (old _ (.inr (.inr (.inr ?_))))
      unfold itms
      rw [e3, eY]
      exact List.mem_map_of_mem (List.mem_append_right _ z)
end Law
namespace Law
open PySem PySem.Spec L2 ML
noncomputable def m_law : MF := mFn 8 1 (mSeq (mSet 1 (mCall m_law_tape (mCons (mVar 0) mNil)))
    (mSeq (mSet 2 (mSl (mCall m_law_spread (mCons (mVar 1) mNil)) mNoPart (mPart (mC (.int 1000)))))
    (mSeq (mSet 3 (mCall m_law_contents (mCons (mVar 1) (mCons (mC (.int 60)) mNil))))
    (mSeq (mSet 4 (mCall m_law_draw (mCons (mVar 1) (mCons (mC (.int 8)) mNil))))
    (mSeq (mIfS (mGB (mBin eqA (mVar 4) (mC (.int 0)))) (mSet 3 (mSl (mCall m_law_spread (mCons (mVar 1) mNil)) mNoPart (mPart (mC (.int 1000))))) mNext)
    (mSeq (mIfS (mOr (mGB (mBin eqA (mVar 4) (mC (.int 1)))) (mGB (mBin eqA (mVar 4) (mC (.int 2))))) (mSet 3 (mSl (mVar 3) mNoPart (mPart (mC (.int 1))))) mNext)
    (mSeq (mIfS (mOr (mGB (mBin eqA (mVar 4) (mC (.int 3)))) (mGB (mBin eqA (mVar 4) (mC (.int 4))))) (mSet 3 (mSl (mVar 3) mNoPart (mPart (mC (.int 2))))) mNext)
    (mSeq (mSet 5 (mLst (mCons (mVar 2) (mCons (mVar 3) mNil))))
    (mSeq (mIfS (mGB (mBin eqA (mBin modA (mCa intA (mCons (mVar 4) mNil)) (mC (.int 2))) (mC (.int 1)))) (mSet 5 (mLst (mCons (mVar 3) (mCons (mVar 2) mNil)))) mNext)
    (mSeq (mSet 6 (mLc (mSrc (mVar 5)) (.one 7) [7] mYes (mCall m_table_of (mCons (mCa tupleA (mCons (mVar 7) mNil)) mNil))))
    (mRet (mCall m_law_kept (mCons (mCall m_law_fresh (mCons (mVar 6) (mCons (mCall m_table_of (mCons (mCa tupleA (mCons (mBin addA (mBin ixA (mVar 5) (mC (.int 0))) (mBin ixA (mVar 5) (mC (.int 1)))) mNil)) mNil)) mNil))) (mCons (mC (.int 11)) (mCons (mC (.int 7)) mNil)))))))))))))))
open Classical
theorem cut27 {xs : List A} {m : Nat} : cutA xs none (some (m : Int)) = xs.take m := by rw [ML.cut_to (by omega)]; simp
theorem tk27 {xs : List A} (hx : ∀ x ∈ xs, El x) (m : Nat) : ∀ x ∈ xs.take m, El x := fun x q => hx x (List.mem_of_mem_take q)
structure S27 (r q : Nat) (xs ys : List A) (st : Store) : Prop where
  t : TpOk st
  r1 : 1 < r
  q1 : 1 < q
  hr : stL st r = some xs
  hq : stL st q = some ys
  hx : ∀ x ∈ xs, El x
  hy : ∀ y ∈ ys, El y
  lx : xs.length ≤ 1000
  ly : ys.length ≤ 1000
theorem S27.cut {r q : Nat} {xs ys : List A} {st : Store} (S : S27 r q xs ys st) (m : Nat) : S27 r st.length xs (ys.take m) (st ++ [.lst (cutA ys none (some (m : Int)))]) := by
  have := stL_lt S.hq
  have := S.q1
  exact ⟨S.t.grown (.one _ _), S.r1, by omega, Grown.stL (.one _ _) S.hr, by rw [stL_new, cut27], S.hx, tk27 S.hy m, S.lx, by rw [List.length_take]; have := S.ly; omega⟩
theorem S27.symm {r q : Nat} {xs ys : List A} {st : Store} (S : S27 r q xs ys st) : S27 q r ys xs st := ⟨S.t, S.q1, S.r1, S.hq, S.hr, S.hy, S.hx, S.ly, S.lx⟩
theorem S27.put {r q : Nat} {xs ys : List A} {st : Store} {l : List A} (S : S27 r q xs ys st) : S27 r q xs ys (st ++ [.lst l]) := ⟨S.t.grown (.one _ _), S.r1, S.q1, Grown.stL (.one _ _) S.hr, Grown.stL (.one _ _) S.hq, S.hx, S.hy, S.lx, S.ly⟩
theorem cut3_wp {r q : Nat} {xs ys : List A} {st : Store} {s0 v4 : Option A} {N B C : ML.Env → Store → Prop} {Rt : A → Store → Prop} (m : Nat) (S : S27 r q xs ys st) (k : ∀ q' ys' st', S27 r q' xs ys' st' → N [s0, some (.ref 1), some (.ref r), some (.ref q'), v4, none, none, none] st') : (mSet 3 (mSl (mVar 3) mNoPart (mPart (mC (.int (m : Int))))) [s0, some (.ref 1), some (.ref r), some (.ref q), v4, none, none, none] st).wp N B C Rt := by
  simp only [sp_set, wp_sl, wp_part, wp_noPart, wp_var, wp_c, List.getElem?_cons_succ, List.getElem?_cons_zero, Option.some.injEq, ex_eq, List.set_cons_zero, List.set_cons_succ, w_getI]
  refine cutl_wp S.hq ?_
  exact k _ _ _ (S.cut m)
theorem BsL.hold27 {Bs : List (List A)} {rs : List A} {st st' : Store} (h : BsL Bs rs st) (k : Hold st st') : BsL Bs rs st' := ⟨h.1, fun i x e => by
  obtain ⟨r, e1, e2⟩ := h.2 i x e
  have hi : i < Bs.length := by
    rw [← h.1]
    exact (List.getElem?_eq_some_iff.mp e).1
  rw [List.getElem?_eq_getElem hi] at e2
  exact ⟨r, e1, by rw [List.getElem?_eq_getElem hi]; exact k.stL e2⟩⟩
theorem tables27_wp {Bs : List (List A)} {rs : List A} {rb v : Nat} {ρ : ML.Env} {st : Store} {QL : List A → Store → Prop} {tb : MF} (TW : ∀ {xs : List A} {st : Store} {Q : A → Store → Prop}, (∀ x ∈ xs, El x) → xs.length ≤ 2000 → (∀ st', Hold st st' → Q (tabO (rtO xs)) st') → (tb [.tup xs] st).wp Q)
    (hv : v < ρ.length) (hb : stL st rb = some rs) (hB : BsL Bs rs st) (hm : ∀ B ∈ Bs, B.length ≤ 2000 ∧ ∀ x ∈ B, El x) (hn : Bs.length ≤ 1000) (k : ∀ st', Hold st st' → QL ((Bs.map rtO).map tabO) st') :
    (loopC (.lst rb) (.one v) [v] mYes (mCall tb (mCons (mCa tupleA (mCons (mVar v) mNil)) mNil)) (ρ.set v none) (Src.size (.lst rb) st + 1) 0 st []).wp QL := by
  have hs := size_eq
  refine lc_lst (xs := rs) (fun i st' acc => Hold st st' ∧ acc = ((Bs.map rtO).map tabO).take i) hb ⟨.refl _, by simp⟩ (fun i st' acc ⟨h, _⟩ => h.stL hb) ?_ ?_
  · rintro i x st' acc hx ⟨h', rfl⟩
    have hi := (List.getElem?_eq_some_iff.mp hx).1
    rw [hB.1] at hi
    obtain ⟨r, rfl, hr⟩ := (hB.hold27 h').2 i x hx
    rw [List.getElem?_eq_getElem hi] at hr
    obtain ⟨hl, he⟩ := hm _ (List.getElem_mem hi)
    refine ⟨(ρ.set v none).set v (some (.ref r)), rfl, ?_⟩
    have e : ((ρ.set v none).set v (some (A.ref r)))[v]? = some (some (.ref r)) := by
      rw [List.getElem?_set_self (by rw [List.length_set]; exact hv)]
    simp only [wp_yes, if_true, wp_call, wp_ca, wp_cons, wp_nil, wp_var, e, Option.some.injEq, ex_eq, w_tupL, hr]
    refine TW he hl fun st3 h3 => ⟨by rw [List.length_take, hs]; simp; omega, h'.trans h3, ?_⟩
    have e2 : ((Bs.map rtO).map tabO)[i]? = some (tabO (rtO Bs[i])) := by simp [hi]
    rw [List.take_add_one, e2]
    rfl
  · rintro st' acc ⟨h', rfl⟩
    have e : ((Bs.map rtO).map tabO).take rs.length = (Bs.map rtO).map tabO := List.take_of_length_le (by simp [hB.1])
    rw [e]
    exact k st' h'
theorem law_true : LawTrue m_law := fun ns0 h1 h2 => by
  have key : (m_law [.scr (ns0.map .int)] []).wp fun a _ => a = .bl true := by
    simp only [m_law, wp_fn]
    refine ⟨rfl, ?_⟩
    have PW := @spread_wp
    have CW := @conts_wp
    have TW := @tab_of_wp
    have FW := @fresh_wp
    have KW := @kept_wp
    generalize m_law_spread = msp at PW ⊢
    generalize m_law_contents = mc at CW ⊢
    generalize m_table_of = mt at TW ⊢
    generalize m_law_fresh = mf at FW ⊢
    generalize m_law_kept = mk at KW ⊢
    generalize hL : @mLc = L
    refine seq_cut (fun ρ st => TpOk st ∧ ρ = [some (.scr (ns0.map .int)), some (.ref 1), none, none, none, none, none, none]) ?_ ?_
    · simp
      exact tape_wp fun st t0 l0 => ⟨t0, rfl⟩
    rintro ρ st ⟨t0, rfl⟩
    generalize hs0 : some (A.scr (ns0.map .int)) = s0
    have c1000 : ∀ xs : List A, cutA xs none (some 1000) = xs.take 1000 := fun xs => cut27 (m := 1000)
    refine seq_cut (fun ρ st => ∃ r xs, TpOk st ∧ 1 < r ∧ stL st r = some xs ∧ (∀ x ∈ xs, El x) ∧ xs.length ≤ 1000 ∧ ρ = [s0, some (.ref 1), some (.ref r), none, none, none, none, none]) ?_ ?_
    · simp only [sp_set, wp_sl, wp_part, wp_noPart, wp_call, wp_cons, wp_nil, wp_var, wp_c, List.getElem?_cons_succ, List.getElem?_cons_zero, Option.some.injEq, ex_eq, List.set_cons_zero, List.set_cons_succ]
      refine PW t0 fun r xs st1 t1 k1 r1 hr hx hl => ?_
      simp only [w_getI]
      refine cutl_wp hr ?_
      have := stL_lt hr
      exact ⟨st1.length, xs.take 1000, t1.grown (.one _ _), by omega, by rw [stL_new, c1000], tk27 hx _, by rw [List.length_take]; omega, rfl⟩
    clear t0 st
    rintro ρ st ⟨r, xs, t0, r1, hr, hx, lx, rfl⟩
    refine seq_cut (fun ρ st => ∃ q ys, S27 r q xs ys st ∧ ρ = [s0, some (.ref 1), some (.ref r), some (.ref q), none, none, none, none]) ?_ ?_
    · simp only [sp_set, wp_call, wp_cons, wp_nil, wp_var, wp_c, List.getElem?_cons_succ, List.getElem?_cons_zero, Option.some.injEq, ex_eq, List.set_cons_zero, List.set_cons_succ]
      refine CW t0 (by omega) (by omega) fun q ys st1 hy _ ly t1 k1 hq1 hq => ?_
      have := stL_lt hr
      exact ⟨q, ys, ⟨t1, r1, by omega, k1.stL r1 hr, hq, hx, hy, lx, by omega⟩, rfl⟩
    clear t0 hr st
    rintro ρ st ⟨q, ys, S, rfl⟩
    refine seq_cut (fun ρ st => ∃ k : Nat, S27 r q xs ys st ∧ ρ = [s0, some (.ref 1), some (.ref r), some (.ref q), some (.int (k : Nat)), none, none, none]) ?_ ?_
    · simp only [sp_set, wp_call, wp_cons, wp_nil, wp_var, wp_c, List.getElem?_cons_succ, List.getElem?_cons_zero, Option.some.injEq, ex_eq, List.set_cons_zero, List.set_cons_succ]
      exact drawQ S.t (by omega) fun k st1 hk t1 k1 l1 => ⟨k, ⟨t1, S.r1, S.q1, k1.stL S.r1 S.hr, k1.stL S.q1 S.hq, S.hx, S.hy, S.lx, S.ly⟩, rfl⟩
    clear S st
    rintro ρ st ⟨k, S, rfl⟩
    refine seq_cut (fun ρ st => ∃ q ys, S27 r q xs ys st ∧ ρ = [s0, some (.ref 1), some (.ref r), some (.ref q), some (.int (k : Nat)), none, none, none]) ?_ ?_
    · simp only [sp_ifs, wp_gb, wp_bin, wp_var, wp_c, List.getElem?_cons_succ, List.getElem?_cons_zero, Option.some.injEq, ex_eq, w_eq, w_getB]
      split
      · simp only [sp_set, wp_sl, wp_part, wp_noPart, wp_call, wp_cons, wp_nil, wp_var, wp_c, List.getElem?_cons_succ, List.getElem?_cons_zero, Option.some.injEq, ex_eq, List.set_cons_zero, List.set_cons_succ]
        refine PW S.t fun q xs' st1 t1 k1 r1 hr hx' hl => ?_
        simp only [w_getI]
        refine cutl_wp hr ?_
        have := stL_lt hr
        exact ⟨st1.length, xs'.take 1000, ⟨t1.grown (.one _ _), S.r1, by omega, Grown.stL (.one _ _) (k1.stL S.r1 S.hr), by rw [stL_new, c1000], S.hx, tk27 hx' _, S.lx, by rw [List.length_take]; omega⟩, rfl⟩
      · exact sp_next.mpr ⟨q, ys, S, rfl⟩
    clear S st q ys
    rintro ρ st ⟨q, ys, S, rfl⟩
    refine seq_cut (fun ρ st => ∃ q ys, S27 r q xs ys st ∧ ρ = [s0, some (.ref 1), some (.ref r), some (.ref q), some (.int (k : Nat)), none, none, none]) ?_ ?_
    · simp only [sp_ifs, wp_or, wp_gb, wp_bin, wp_var, wp_c, List.getElem?_cons_succ, List.getElem?_cons_zero, Option.some.injEq, ex_eq, w_eq, w_getB]
      split
      · rw [if_pos True.intro]
        exact cut3_wp 1 S fun q' ys' st' S' => ⟨q', ys', S', rfl⟩
      · split
        · exact cut3_wp 1 S fun q' ys' st' S' => ⟨q', ys', S', rfl⟩
        · exact sp_next.mpr ⟨q, ys, S, rfl⟩
    clear S st q ys
    rintro ρ st ⟨q, ys, S, rfl⟩
    refine seq_cut (fun ρ st => ∃ q ys, S27 r q xs ys st ∧ ρ = [s0, some (.ref 1), some (.ref r), some (.ref q), some (.int (k : Nat)), none, none, none]) ?_ ?_
    · simp only [sp_ifs, wp_or, wp_gb, wp_bin, wp_var, wp_c, List.getElem?_cons_succ, List.getElem?_cons_zero, Option.some.injEq, ex_eq, w_eq, w_getB]
      split
      · rw [if_pos True.intro]
        exact cut3_wp 2 S fun q' ys' st' S' => ⟨q', ys', S', rfl⟩
      · split
        · exact cut3_wp 2 S fun q' ys' st' S' => ⟨q', ys', S', rfl⟩
        · exact sp_next.mpr ⟨q, ys, S, rfl⟩
    clear S st q ys
    rintro ρ st ⟨q, ys, S, rfl⟩
    refine seq_cut (fun ρ st => ∃ p, stL st p = some [.ref r, .ref q] ∧ S27 r q xs ys st ∧ ρ = [s0, some (.ref 1), some (.ref r), some (.ref q), some (.int (k : Nat)), some (.ref p), none, none]) ?_ ?_
    · simp only [sp_set, wp_lst, wp_cons, wp_nil, wp_var, List.getElem?_cons_succ, List.getElem?_cons_zero, Option.some.injEq, ex_eq, List.set_cons_zero, List.set_cons_succ]
      exact ⟨by simp [size_eq], st.length, stL_new, S.put, rfl⟩
    clear S st
    rintro ρ st ⟨p, hp, S, rfl⟩
    refine seq_cut (fun ρ st => ∃ p a b as bs, stL st p = some [.ref a, .ref b] ∧ S27 a b as bs st ∧ ρ = [s0, some (.ref 1), some (.ref r), some (.ref q), some (.int (k : Nat)), some (.ref p), none, none]) ?_ ?_
    · simp only [sp_ifs, wp_gb, wp_bin, wp_ca, wp_cons, wp_nil, wp_var, wp_c, List.getElem?_cons_succ, List.getElem?_cons_zero, Option.some.injEq, ex_eq, w_int, w_mod, w_eq, w_getB]
      refine ⟨by omega, ?_⟩
      split
      · simp only [sp_set, wp_lst, wp_cons, wp_nil, wp_var, List.getElem?_cons_succ, List.getElem?_cons_zero, Option.some.injEq, ex_eq, List.set_cons_zero, List.set_cons_succ]
        exact ⟨by simp [size_eq], st.length, q, r, ys, xs, stL_new, S.symm.put, rfl⟩
      · exact sp_next.mpr ⟨p, r, q, xs, ys, hp, S, rfl⟩
    clear S hp st p
    rintro ρ st ⟨p, a, b, as, bs, hp, S, rfl⟩
    have has := S.hx
    have hbs := S.hy
    have las := S.lx
    have lbs := S.ly
    refine seq_cut (fun ρ st => ∃ rt, stL st p = some [.ref a, .ref b] ∧ stL st a = some as ∧ stL st b = some bs ∧ stL st rt = some ([rtO as, rtO bs].map tabO) ∧ ρ = [s0, some (.ref 1), some (.ref r), some (.ref q), some (.int (k : Nat)), some (.ref p), some (.ref rt), none]) ?_ ?_
    · rw [← hL]
      simp only [sp_set, wp_lc, wp_src, wp_var, List.getElem?_cons_succ, List.getElem?_cons_zero, Option.some.injEq, ex_eq, w_srcL, hp, Option.isSome_some, true_and]
      rw [show wipeA [s0, some (.ref 1), some (.ref r), some (.ref q), some (.int (k : Nat)), some (.ref p), none, none] [7] = ([s0, some (.ref 1), some (.ref r), some (.ref q), some (.int (k : Nat)), some (.ref p), none, none] : ML.Env).set 7 none from rfl]
      refine tables27_wp (Bs := [as, bs]) (v := 7) (ρ := [s0, some (.ref 1), some (.ref r), some (.ref q), some (.int (k : Nat)), some (.ref p), none, none]) TW (by show 7 < 8; omega) hp ⟨rfl, fun i x e => ?_⟩ (fun B hB => ?_) (by show 2 ≤ 1000; omega) fun st' h' => ?_
      · match i with
        | 0 => exact ⟨a, (Option.some.inj e).symm, S.hr⟩
        | 1 => exact ⟨b, (Option.some.inj e).symm, S.hq⟩
        | i + 2 => simp at e
      · rcases List.mem_cons.mp hB with z | z
        · rw [z]; exact ⟨by omega, has⟩
        · rw [List.mem_singleton.mp z]; exact ⟨by omega, hbs⟩
      · exact ⟨st'.length, Grown.stL (.one _ _) (h'.stL hp), Grown.stL (.one _ _) (h'.stL S.hr), Grown.stL (.one _ _) (h'.stL S.hq), stL_new, rfl⟩
    clear S hp st
    rintro ρ st ⟨rt, hp, hr, hq, ht, rfl⟩
    have i0 : ∀ x y : A, atI [x, y] 0 = some x := fun _ _ => rfl
    have i1 : ∀ x y : A, atI [x, y] 1 = some y := fun _ _ => rfl
    have hW := el_app has hbs
    have lW : (as ++ bs).length ≤ 2000 := by rw [List.length_append]; omega
    obtain ⟨cT, oT, okT, lT⟩ := tbO_ok (rtO_okt hW lW)
    have few := few_ok (f := knN [] [rtO as, rtO bs]) (b := 11) (u := 7) hW lW (by omega) fun j hj => join_few has hbs lW (fun n hn => addL_old (addL_mem hn)) (fun n hn => addL_mem hn) (by omega)
    simp only [sp_ret, wp_call, wp_ca, wp_bin, wp_cons, wp_nil, wp_var, wp_c, List.getElem?_cons_succ, List.getElem?_cons_zero, Option.some.injEq, ex_eq, w_ixL, hp, i0, i1]
    rw [w_addL]
    refine ⟨as, hr, bs, hq, by rw [size_eq]; omega, ?_⟩
    simp only [w_tupL, stL_new, Option.some.injEq, ex_eq]
    refine TW hW lW fun st4 h4 => ?_
    have ht4 : stL st4 rt = some ([rtO as, rtO bs].map tabO) := h4.stL (Grown.stL (.one _ _) ht)
    refine FW (Ts := [rtO as, rtO bs]) (fun o ho => ?_) (by simp) ht4 cT oT (fun m hm => (okT m hm).1) lT fun r7 kvs st5 d5 c5 => KW d5 c5 few
    rcases List.mem_cons.mp ho with z | z
    · rw [z]; exact rtO_okt has (by omega)
    · rw [List.mem_singleton.mp z]; exact rtO_okt hbs (by omega)
  obtain ⟨a, st, e, h⟩ := R.wp.ex key
  subst h
  exact ⟨st, e⟩
def top (i : Nat) : Stmt := PySem.Challenge.pw_sameshape_k27_whole_joins_share_nodes.main.body.getD i (.Pass ⟨0, 0, 0, 0⟩)
section
variable {P : Program} {w : World} {K : PySem.W.Frag} {mg : Str → Option Value} {base : Heap}
abbrev s_law_tape : Stmt := top 33
theorem sc_law_tape : FnScope ["_law_script", "_law_total", "_law_cell"] ["_law_script"] (defScope s_law_tape) := ⟨rfl, rfl, rfl, by decide +kernel, rfl, by decide +kernel, by decide +kernel⟩
theorem c_law_tape (G_law_tape : GF K mg "_law_tape" s_law_tape ["_law_script"]) (n_int : mg "int" = none) (n_abs : mg "abs" = none) (n_list : mg "list" = none) : Cal P w K mg base "_law_tape" 1 m_law_tape := cal_of G_law_tape sc_law_tape fun f cdv A outer s H E hr => (
    (mss_cons (ms_set sc_law_tape.nd me_int)
    (mss_cons (ms_for passesE (mi_it (me_var 0)) (mg_one sc_law_tape.nd) (mss_one (ms_set sc_law_tape.nd (me_bin op_modP os_mod (me_callTy call_int1 cs_int (by decide +kernel) n_int (ma_cons (me_bin op_addU os_add (me_bin op_mulU os_mul (me_var 1) me_int) (me_callB call_abs cs_abs PyProof.Rows.boot_abs n_abs (ma_cons (me_callTy call_int1 cs_int (by decide +kernel) n_int (ma_cons (me_var 2) ma_nil)) ma_nil))) ma_nil)) me_int))))
    (mss_one (ms_ret (me_lst (ma_cons (me_callTy call_list_of cs_list (by decide +kernel) n_list (ma_cons (me_var 0) ma_nil)) (ma_cons me_int (ma_cons me_int (ma_cons (me_var 1) ma_nil))))))))))
abbrev s_law_draw : Stmt := top 34
theorem sc_law_draw : FnScope ["_law_tape_here", "_law_many", "_law_place", "_law_number"] ["_law_tape_here", "_law_many"] (defScope s_law_draw) := ⟨rfl, rfl, rfl, by decide +kernel, rfl, by decide +kernel, by decide +kernel⟩
theorem c_law_draw (G_law_draw : GF K mg "_law_draw" s_law_draw ["_law_tape_here", "_law_many"]) (n_len : mg "len" = none) (n_int : mg "int" = none) (n_abs : mg "abs" = none) (n_max : mg "max" = none) : Cal P w K mg base "_law_draw" 1 m_law_draw := cal_of G_law_draw sc_law_draw fun f cdv A outer s H E hr => (
    (mss_cons (ms_if (mt_cmp (op_eqU (units_ok hr)) os_eq (me_ix (me_var 0) me_int) me_int) (mss_cons (ms_set sc_law_draw.nd (me_ix (me_var 0) me_int))
    (mss_cons (ms_set sc_law_draw.nd me_int)
    (mss_cons (ms_if (mt_cmp op_ltU os_lt (me_var 2) (me_callB call_len cs_len PySem.boot_len n_len (ma_cons (me_ix (me_var 0) me_int) ma_nil))) (mss_one (ms_set sc_law_draw.nd (me_callB call_abs cs_abs PyProof.Rows.boot_abs n_abs (ma_cons (me_callTy call_int1 cs_int (by decide +kernel) n_int (ma_cons (me_ix (me_ix (me_var 0) me_int) (me_var 2)) ma_nil)) ma_nil)))) (mss_cons (ms_put (me_var 0) me_int (me_bin op_modP os_mod (me_callTy call_int1 cs_int (by decide +kernel) n_int (ma_cons (me_bin op_addU os_add (me_bin op_addU os_add (me_bin op_mulU os_mul (me_ix (me_var 0) me_int) me_int) (me_var 2)) me_int) ma_nil)) me_int))
    (mss_one (ms_set sc_law_draw.nd (me_ix (me_var 0) me_int)))))
    (mss_cons (ms_put (me_var 0) me_int (me_bin op_addU os_add (me_var 2) me_int))
    (mss_cons (ms_if (mt_cmp op_ltU os_lt (me_var 3) (me_bin op_pow os_pow me_int me_int)) (mss_cons (ms_set sc_law_draw.nd (me_bin op_modP os_mod (me_callTy call_int1 cs_int (by decide +kernel) n_int (ma_cons (me_bin op_addU os_add (me_bin op_addU os_add (me_bin op_mulU os_mul (me_var 3) me_int) (me_bin op_mulU os_mul (me_var 2) me_int)) me_int) ma_nil)) me_int))
    (mss_cons (ms_set sc_law_draw.nd (me_bin op_modP os_mod (me_callTy call_int1 cs_int (by decide +kernel) n_int (ma_cons (me_bin op_mulU os_mul (me_var 3) me_int) ma_nil)) me_int))
    (mss_one (ms_ret (me_bin op_modP os_mod (me_callTy call_int1 cs_int (by decide +kernel) n_int (ma_cons (me_var 3) ma_nil)) (me_callB (call_maxU rfl) cs_max PyProof.Rows.boot_max n_max (ma_cons (me_var 1) (ma_cons me_int ma_nil)))))))) mss_nil)
    (mss_one (ms_put (me_var 0) me_int (me_var 3)))))))) mss_nil)
    (mss_cons (ms_set sc_law_draw.nd (me_ix (me_var 0) me_int))
    (mss_cons (ms_put (me_var 0) me_int (me_bin op_fdivW os_fdiv (me_var 3) (me_callB (call_maxU rfl) cs_max PyProof.Rows.boot_max n_max (ma_cons (me_var 1) (ma_cons me_int ma_nil)))))
    (mss_one (ms_ret (me_bin op_modP os_mod (me_callTy call_int1 cs_int (by decide +kernel) n_int (ma_cons (me_var 3) ma_nil)) (me_callB (call_maxU rfl) cs_max PyProof.Rows.boot_max n_max (ma_cons (me_var 1) (ma_cons me_int ma_nil))))))))))
abbrev s_law_sign : Stmt := top 35
theorem sc_law_sign : FnScope ["_law_tape_here", "_law_signs"] ["_law_tape_here"] (defScope s_law_sign) := ⟨rfl, rfl, rfl, by decide +kernel, rfl, by decide +kernel, by decide +kernel⟩
theorem c_law_sign (G_law_sign : GF K mg "_law_sign" s_law_sign ["_law_tape_here"]) (C_law_draw : Cal P w K mg base "_law_draw" 1 m_law_draw) : Cal P w K mg base "_law_sign" 2 m_law_sign := cal_of G_law_sign sc_law_sign fun f cdv A outer s H E hr => (
    (mss_cons (ms_set sc_law_sign.nd me_str)
    (mss_cons (ms_set sc_law_sign.nd (me_bin op_addU os_add (me_var 1) me_str))
    (mss_one (ms_ret (me_ix (me_var 1) (me_call C_law_draw (hr.mono (by decide)) takesE (ma_cons (me_var 0) (ma_cons me_int ma_nil)))))))))
abbrev s_law_word : Stmt := top 36
theorem sc_law_word : FnScope ["_law_tape_here", "_law_word_here", "_law_k"] ["_law_tape_here"] (defScope s_law_word) := ⟨rfl, rfl, rfl, by decide +kernel, rfl, by decide +kernel, by decide +kernel⟩
theorem c_law_word (G_law_word : GF K mg "_law_word" s_law_word ["_law_tape_here"]) (C_law_draw : Cal P w K mg base "_law_draw" 1 m_law_draw) (C_law_sign : Cal P w K mg base "_law_sign" 2 m_law_sign) (n_range : mg "range" = none) : Cal P w K mg base "_law_word" 3 m_law_word := cal_of G_law_word sc_law_word fun f cdv A outer s H E hr => (
    (mss_cons (ms_set sc_law_word.nd (me_ix (me_lst (ma_cons me_str (ma_cons me_str (ma_cons me_str (ma_cons me_str ma_nil))))) (me_call C_law_draw (hr.mono (by decide)) takesE (ma_cons (me_var 0) (ma_cons me_int ma_nil)))))
    (mss_cons (ms_for passesE (mi_range1 (x := "range") n_range (ma_cons (me_call C_law_draw (hr.mono (by decide)) takesE (ma_cons (me_var 0) (ma_cons me_int ma_nil))) ma_nil) (hn := cons1)) (mg_one sc_law_word.nd) (mss_one (ms_set sc_law_word.nd (me_bin op_addU os_add (me_var 1) (me_call C_law_sign (hr.mono (by decide)) takesE (ma_cons (me_var 0) ma_nil))))))
    (mss_one (ms_ret (me_var 1))))))
abbrev s_law_scalar : Stmt := top 37
theorem sc_law_scalar : FnScope ["_law_tape_here", "_law_choice", "_law_edges"] ["_law_tape_here"] (defScope s_law_scalar) := ⟨rfl, rfl, rfl, by decide +kernel, rfl, by decide +kernel, by decide +kernel⟩
theorem c_law_scalar (G_law_scalar : GF K mg "_law_scalar" s_law_scalar ["_law_tape_here"]) (C_law_draw : Cal P w K mg base "_law_draw" 1 m_law_draw) (C_law_word : Cal P w K mg base "_law_word" 3 m_law_word) : Cal P w K mg base "_law_scalar" 4 m_law_scalar := cal_of G_law_scalar sc_law_scalar fun f cdv A outer s H E hr => (
    (mss_cons (ms_set sc_law_scalar.nd (me_call C_law_draw (hr.mono (by decide)) takesE (ma_cons (me_var 0) (ma_cons me_int ma_nil))))
    (mss_cons (ms_if (mt_cmp (op_eqU (units_ok hr)) os_eq (me_var 1) me_int) (mss_one (ms_ret (me_call C_law_word (hr.mono (by decide)) takesE (ma_cons (me_var 0) ma_nil)))) mss_nil)
    (mss_cons (ms_if (mt_cmp (op_eqU (units_ok hr)) os_eq (me_var 1) me_int) (mss_cons (ms_set sc_law_scalar.nd (me_lst (ma_cons me_int (ma_cons me_int (ma_cons me_int (ma_cons me_int (ma_cons me_int (ma_cons me_int (ma_cons me_int (ma_cons me_int (ma_cons (me_bin op_sub os_sub (me_bin op_pow os_pow me_int me_int) me_int) (ma_cons (me_bin op_pow os_pow me_int me_int) ma_nil))))))))))))
    (mss_one (ms_ret (me_bin op_mulU os_mul (me_ix (me_var 2) (me_call C_law_draw (hr.mono (by decide)) takesE (ma_cons (me_var 0) (ma_cons me_int ma_nil)))) (me_bin op_sub os_sub me_int (me_bin op_mulU os_mul me_int (me_call C_law_draw (hr.mono (by decide)) takesE (ma_cons (me_var 0) (ma_cons me_int ma_nil))))))))) mss_nil)
    (mss_cons (ms_if (mt_cmp (op_eqU (units_ok hr)) os_eq (me_var 1) me_int) (mss_one (ms_ret (me_bin op_mulU os_mul (me_bin op_sub os_sub (me_call C_law_draw (hr.mono (by decide)) takesE (ma_cons (me_var 0) (ma_cons me_int ma_nil))) me_int) (me_ix (me_lst (ma_cons me_int (ma_cons me_int (ma_cons me_int ma_nil)))) (me_call C_law_draw (hr.mono (by decide)) takesE (ma_cons (me_var 0) (ma_cons me_int ma_nil))))))) mss_nil)
    (mss_cons (ms_if (mt_cmp (op_eqU (units_ok hr)) os_eq (me_var 1) me_int) (mss_one (ms_ret (me_bin op_sub os_sub (me_call C_law_draw (hr.mono (by decide)) takesE (ma_cons (me_var 0) (ma_cons (me_bin op_addU os_add (me_bin op_mulU os_mul me_int (me_bin op_pow os_pow me_int me_int)) me_int) ma_nil))) (me_bin op_pow os_pow me_int me_int)))) mss_nil)
    (mss_one (ms_ret (me_call C_law_draw (hr.mono (by decide)) takesE (ma_cons (me_var 0) (ma_cons me_int ma_nil)))))))))))
abbrev s_law_element : Stmt := top 38
theorem sc_law_element : FnScope ["_law_tape_here", "_law_first"] ["_law_tape_here"] (defScope s_law_element) := ⟨rfl, rfl, rfl, by decide +kernel, rfl, by decide +kernel, by decide +kernel⟩
theorem c_law_element (G_law_element : GF K mg "_law_element" s_law_element ["_law_tape_here"]) (C_law_scalar : Cal P w K mg base "_law_scalar" 4 m_law_scalar) (C_law_draw : Cal P w K mg base "_law_draw" 1 m_law_draw) : Cal P w K mg base "_law_element" 5 m_law_element := cal_of G_law_element sc_law_element fun f cdv A outer s H E hr => (
    (mss_cons (ms_set sc_law_element.nd (me_call C_law_scalar (hr.mono (by decide)) takesE (ma_cons (me_var 0) ma_nil)))
    (mss_cons (ms_if (mt_cmp (op_eqU (units_ok hr)) os_eq (me_call C_law_draw (hr.mono (by decide)) takesE (ma_cons (me_var 0) (ma_cons me_int ma_nil))) me_int) (mss_one (ms_ret (me_tup (ma_cons (me_var 1) (ma_cons (me_call C_law_scalar (hr.mono (by decide)) takesE (ma_cons (me_var 0) ma_nil)) ma_nil))))) mss_nil)
    (mss_one (ms_ret (me_var 1))))))
abbrev s_law_contents : Stmt := top 39
theorem sc_law_contents : FnScope ["_law_tape_here", "_law_most", "_law_pool", "_law_row", "_law_k", "_law_choice", "_law_start", "_law_at", "_law_j"] ["_law_tape_here", "_law_most"] (defScope s_law_contents) := ⟨rfl, rfl, rfl, by decide +kernel, rfl, by decide +kernel, by decide +kernel⟩
theorem c_law_contents (G_law_contents : GF K mg "_law_contents" s_law_contents ["_law_tape_here", "_law_most"]) (C_law_draw : Cal P w K mg base "_law_draw" 1 m_law_draw) (C_law_element : Cal P w K mg base "_law_element" 5 m_law_element) (n_range : mg "range" = none) (n_len : mg "len" = none) : Cal P w K mg base "_law_contents" 6 m_law_contents := cal_of G_law_contents sc_law_contents fun f cdv A outer s H E hr => (
    (mss_cons (ms_set sc_law_contents.nd (me_lc [("_law_k", 4)] sc_law_contents.nd (mi_range1 (x := "range") n_range (ma_cons (me_bin op_addU os_add me_int (me_call C_law_draw (hr.mono (by decide)) takesE (ma_cons (me_var 0) (ma_cons me_int ma_nil)))) ma_nil) (hn := cons1)) (blkOk_by (N := ["_law_tape_here", "_law_most", "_law_pool", "_law_row", "_law_k", "_law_choice", "_law_start", "_law_at", "_law_j"]) (sc := defScope s_law_contents) (own := [("_law_k", 4)]) (by decide +kernel)) (fun _ _ _ _ _ => (mg_one sc_law_contents.nd)) (fun _ _ _ _ _ => mts_nil) (fun _ _ _ _ _ => (me_call C_law_element (hr.mono (by decide)) takes0 (ma_cons (me_var 0) ma_nil)))))
    (mss_cons (ms_set sc_law_contents.nd (me_lst ma_nil))
    (mss_cons (ms_for passesE (mi_range1 (x := "range") n_range (ma_cons (me_call C_law_draw (hr.mono (by decide)) takesE (ma_cons (me_var 0) (ma_cons me_int ma_nil))) ma_nil) (hn := cons1)) (mg_one sc_law_contents.nd) (mss_cons (ms_set sc_law_contents.nd (me_call C_law_draw (hr.mono (by decide)) takesE (ma_cons (me_var 0) (ma_cons me_int ma_nil))))
    (mss_one (ms_if (mt_cmp (op_eqU (units_ok hr)) os_eq (me_var 5) me_int) (mss_one (ms_set sc_law_contents.nd (me_bin op_addU os_add (me_var 3) (me_bin op_mulU os_mul (me_lst (ma_cons (me_ix (me_var 2) (me_call C_law_draw (hr.mono (by decide)) takesE (ma_cons (me_var 0) (ma_cons (me_callB call_len cs_len PySem.boot_len n_len (ma_cons (me_var 2) ma_nil)) ma_nil)))) ma_nil)) (me_bin op_addU os_add me_int (me_call C_law_draw (hr.mono (by decide)) takesE (ma_cons (me_var 0) (ma_cons me_int ma_nil)))))))) (mss_one (ms_if (mt_cmp (op_eqU (units_ok hr)) os_eq (me_var 5) me_int) (mss_cons (ms_set sc_law_contents.nd (me_call C_law_draw (hr.mono (by decide)) takesE (ma_cons (me_var 0) (ma_cons me_int ma_nil))))
    (mss_one (ms_set sc_law_contents.nd (me_bin op_addU os_add (me_var 3) (me_lc [("_law_j", 8)] sc_law_contents.nd (mi_range1 (x := "range") n_range (ma_cons (me_bin op_addU os_add me_int (me_call C_law_draw (hr.mono (by decide)) takesE (ma_cons (me_var 0) (ma_cons me_int ma_nil)))) ma_nil) (hn := cons1)) (blkOk_by (N := ["_law_tape_here", "_law_most", "_law_pool", "_law_row", "_law_k", "_law_choice", "_law_start", "_law_at", "_law_j"]) (sc := defScope s_law_contents) (own := [("_law_j", 8)]) (by decide +kernel)) (fun _ _ _ _ _ => (mg_one sc_law_contents.nd)) (fun _ _ _ _ _ => mts_nil) (fun _ _ _ _ _ => (me_bin op_addU os_add (me_var 6) (me_var 8)))))))) (mss_one (ms_if (mt_cmp (op_eqU (units_ok hr)) os_eq (me_var 5) me_int) (mss_cons (ms_set sc_law_contents.nd (me_call C_law_draw (hr.mono (by decide)) takesE (ma_cons (me_var 0) (ma_cons (me_bin op_addU os_add (me_callB call_len cs_len PySem.boot_len n_len (ma_cons (me_var 3) ma_nil)) me_int) ma_nil))))
    (mss_one (ms_set sc_law_contents.nd (me_bin op_addU os_add (me_var 3) (me_slice (me_var 3) (mo_some (me_var 7)) (mo_some (me_bin op_addU os_add (me_bin op_addU os_add (me_var 7) me_int) (me_call C_law_draw (hr.mono (by decide)) takesE (ma_cons (me_var 0) (ma_cons me_int ma_nil)))))))))) (mss_one (ms_if (mt_cmp (op_eqU (units_ok hr)) os_eq (me_var 5) me_int) (mss_one (ms_set sc_law_contents.nd (me_bin op_addU os_add (me_var 3) (me_bin op_mulU os_mul (me_bin op_addU os_add (me_slice (me_var 3) (mo_some (me_neg me_int)) mo_none) (me_lst (ma_cons (me_ix (me_var 2) (me_call C_law_draw (hr.mono (by decide)) takesE (ma_cons (me_var 0) (ma_cons (me_callB call_len cs_len PySem.boot_len n_len (ma_cons (me_var 2) ma_nil)) ma_nil)))) ma_nil))) (me_bin op_addU os_add me_int (me_call C_law_draw (hr.mono (by decide)) takesE (ma_cons (me_var 0) (ma_cons me_int ma_nil)))))))) (mss_one (ms_set sc_law_contents.nd (me_bin op_addU os_add (me_var 3) (me_lc [("_law_j", 8)] sc_law_contents.nd (mi_range1 (x := "range") n_range (ma_cons (me_bin op_addU os_add me_int (me_call C_law_draw (hr.mono (by decide)) takesE (ma_cons (me_var 0) (ma_cons me_int ma_nil)))) ma_nil) (hn := cons1)) (blkOk_by (N := ["_law_tape_here", "_law_most", "_law_pool", "_law_row", "_law_k", "_law_choice", "_law_start", "_law_at", "_law_j"]) (sc := defScope s_law_contents) (own := [("_law_j", 8)]) (by decide +kernel)) (fun _ _ _ _ _ => (mg_one sc_law_contents.nd)) (fun _ _ _ _ _ => mts_nil) (fun _ _ _ _ _ => (me_ix (me_var 2) (me_call C_law_draw (hr.mono (by decide)) takes0 (ma_cons (me_var 0) (ma_cons (me_callB call_len cs_len PySem.boot_len n_len (ma_cons (me_var 2) ma_nil)) ma_nil)))))))))))))))))))
    (mss_one (ms_ret (me_slice (me_var 3) mo_none (mo_some (me_var 1)))))))))
abbrev s_law_kept : Stmt := top 44
theorem sc_law_kept : FnScope ["_law_found", "_law_blocks", "_law_runs", "_law_key"] ["_law_found", "_law_blocks", "_law_runs"] (defScope s_law_kept) := ⟨rfl, rfl, rfl, by decide +kernel, rfl, by decide +kernel, by decide +kernel⟩
theorem c_law_kept (G_law_kept : GF K mg "_law_kept" s_law_kept ["_law_found", "_law_blocks", "_law_runs"]) : Cal P w K mg base "_law_kept" 1 m_law_kept := cal_of G_law_kept sc_law_kept fun f cdv A outer s H E hr => (
    (mss_cons (ms_forT passesE (me_var 0) (mg_one sc_law_kept.nd) (mss_one (ms_if (L2.PW.pt (mw_or (mt_cmp (op_eqU (units_ok hr)) os_eq (me_ix (me_var 3) me_int) me_str) (mw_or (mt_cmp op_gtU os_gt (me_dget (units_ok hr) (me_var 0) (me_var 3)) (me_var 1)) (mw_or1 (L2.PW.pt (mw_and (mt_cmp (op_eqU (units_ok hr)) os_eq (me_ix (me_var 3) me_int) me_str) (mw_and1 (mt_cmp op_gtU os_gt (me_dget (units_ok hr) (me_var 0) (me_var 3)) (me_var 2))))))))) (mss_one (ms_ret me_bl)) mss_nil)))
    (mss_one (ms_ret me_bl))))
abbrev s_law_large : Stmt := top 40
theorem sc_law_large : FnScope ["_law_tape_here", "_law_size", "_law_number", "_law_width", "_law_row", "_law_k"] ["_law_tape_here", "_law_size"] (defScope s_law_large) := ⟨rfl, rfl, rfl, by decide +kernel, rfl, by decide +kernel, by decide +kernel⟩
theorem c_law_large (G_law_large : GF K mg "_law_large" s_law_large ["_law_tape_here", "_law_size"]) (C_law_draw : Cal P w K mg base "_law_draw" 1 m_law_draw) (n_range : mg "range" = none) (n_int : mg "int" = none) : Cal P w K mg base "_law_large" 2 m_law_large := cal_of G_law_large sc_law_large fun f cdv A outer s H E hr => (
    (mss_cons (ms_set sc_law_large.nd (me_bin op_addU os_add me_int (me_call C_law_draw (hr.mono (by decide)) takesE (ma_cons (me_var 0) (ma_cons me_int ma_nil)))))
    (mss_cons (ms_set sc_law_large.nd (me_ix (me_lst (ma_cons me_int (ma_cons me_int (ma_cons me_int (ma_cons me_int (ma_cons me_int ma_nil)))))) (me_call C_law_draw (hr.mono (by decide)) takesE (ma_cons (me_var 0) (ma_cons me_int ma_nil)))))
    (mss_cons (ms_set sc_law_large.nd (me_lst ma_nil))
    (mss_cons (ms_for passesE (mi_range1 (x := "range") n_range (ma_cons (me_var 1) ma_nil) (hn := cons1)) (mg_one sc_law_large.nd) (mss_cons (ms_set sc_law_large.nd (me_bin op_modP os_mod (me_callTy call_int1 cs_int (by decide +kernel) n_int (ma_cons (me_bin op_mulU os_mul (me_var 2) me_int) ma_nil)) me_int))
    (mss_one (ms_expr (me_bm PySem.F.slot_list_append PySem.F.type_list_append mt_append ms_append (me_var 4) (ma_cons (me_bin op_modP os_mod (me_callTy call_int1 cs_int (by decide +kernel) n_int (ma_cons (me_var 2) ma_nil)) (me_var 3)) ma_nil))))))
    (mss_one (ms_ret (me_var 4))))))))
abbrev s_law_spread : Stmt := top 45
theorem sc_law_spread : FnScope ["_law_tape_here", "_law_contents_here", "_law_choice"] ["_law_tape_here"] (defScope s_law_spread) := ⟨rfl, rfl, rfl, by decide +kernel, rfl, by decide +kernel, by decide +kernel⟩
theorem c_law_spread (G_law_spread : GF K mg "_law_spread" s_law_spread ["_law_tape_here"]) (C_law_contents : Cal P w K mg base "_law_contents" 6 m_law_contents) (C_law_draw : Cal P w K mg base "_law_draw" 1 m_law_draw) (C_law_large : Cal P w K mg base "_law_large" 2 m_law_large) : Cal P w K mg base "_law_spread" 7 m_law_spread := cal_of G_law_spread sc_law_spread fun f cdv A outer s H E hr => (
    (mss_cons (ms_set sc_law_spread.nd (me_call C_law_contents (hr.mono (by decide)) takesE (ma_cons (me_var 0) (ma_cons me_int ma_nil))))
    (mss_cons (ms_set sc_law_spread.nd (me_call C_law_draw (hr.mono (by decide)) takesE (ma_cons (me_var 0) (ma_cons me_int ma_nil))))
    (mss_cons (ms_if (mt_cmp op_ltU os_lt (me_var 2) me_int) (mss_one (ms_set sc_law_spread.nd (me_bin op_addU os_add (me_bin op_addU os_add (me_var 1) (me_call C_law_large (hr.mono (by decide)) takesE (ma_cons (me_var 0) (ma_cons (me_bin op_addU os_add me_int (me_call C_law_draw (hr.mono (by decide)) takesE (ma_cons (me_var 0) (ma_cons me_int ma_nil)))) ma_nil)))) (me_slice (me_var 1) mo_none (mo_some me_int))))) mss_nil)
    (mss_cons (ms_if (mt_cmp (op_eqU (units_ok hr)) os_eq (me_var 2) me_int) (mss_one (ms_set sc_law_spread.nd (me_bin op_addU os_add (me_call C_law_large (hr.mono (by decide)) takesE (ma_cons (me_var 0) (ma_cons (me_bin op_addU os_add me_int (me_call C_law_draw (hr.mono (by decide)) takesE (ma_cons (me_var 0) (ma_cons me_int ma_nil)))) ma_nil))) (me_var 1)))) mss_nil)
    (mss_cons (ms_if (mt_cmp (op_eqU (units_ok hr)) os_eq (me_var 2) me_int) (mss_one (ms_set sc_law_spread.nd (me_bin op_addU os_add (me_bin op_addU os_add (me_var 1) (me_slice (me_var 1) (mo_some me_int) mo_none)) (me_var 1)))) mss_nil)
    (mss_cons (ms_if (mt_cmp (op_eqU (units_ok hr)) os_eq (me_var 2) me_int) (mss_one (ms_set sc_law_spread.nd (me_bin op_addU os_add (me_call C_law_large (hr.mono (by decide)) takesE (ma_cons (me_var 0) (ma_cons (me_bin op_addU os_add me_int (me_call C_law_draw (hr.mono (by decide)) takesE (ma_cons (me_var 0) (ma_cons me_int ma_nil)))) ma_nil))) (me_var 1)))) mss_nil)
    (mss_one (ms_ret (me_var 1))))))))))
abbrev s_NodeTable___init__ : Stmt := clsAt (top 22) 0
theorem sc_NodeTable___init__ : FnScope ["self"] ["self"] (defScope s_NodeTable___init__) := ⟨rfl, rfl, rfl, by decide +kernel, rfl, by decide +kernel, by decide +kernel⟩
theorem c_NodeTable___init__ (G_NodeTable___init__ : GI K mg "NodeTable" "NodeTable.__init__" s_NodeTable___init__ ["self"]) (F_NodeTable_numbers : FldF K mg "NodeTable" "numbers") (F_NodeTable_entries : FldF K mg "NodeTable" "entries") (F_NodeTable_codes : FldF K mg "NodeTable" "codes") (F_NodeTable_sizes : FldF K mg "NodeTable" "sizes") : CalI P w K mg base "NodeTable" 1 m_NodeTable___init__ := cali_of G_NodeTable___init__ sc_NodeTable___init__ fun f cdv A outer s H E hr => (
    (mss_cons (ms_putf F_NodeTable_numbers (me_var 0) me_dnew)
    (mss_cons (ms_putf F_NodeTable_entries (me_var 0) (me_lst ma_nil))
    (mss_cons (ms_putf F_NodeTable_codes (me_var 0) (me_lst ma_nil))
    (mss_one (ms_putf F_NodeTable_sizes (me_var 0) (me_lst ma_nil)))))))
abbrev s_digits_of : Stmt := top 3
theorem sc_digits_of : FnScope ["number", "count", "digits", "_"] ["number", "count"] (defScope s_digits_of) := ⟨rfl, rfl, rfl, by decide +kernel, rfl, by decide +kernel, by decide +kernel⟩
theorem c_digits_of (G_digits_of : GF K mg "digits_of" s_digits_of ["number", "count"]) (n_range : mg "range" = none) (g_DIGIT : ∃ u, mg "DIGIT" = some (.int 65536 u)) : Cal P w K mg base "digits_of" 1 m_digits_of := cal_of G_digits_of sc_digits_of fun f cdv A outer s H E hr => (
    (mss_cons (ms_set sc_digits_of.nd (me_tup ma_nil))
    (mss_cons (ms_for passesE (mi_range1 (x := "range") n_range (ma_cons (me_var 1) ma_nil) (hn := cons1)) (mg_one sc_digits_of.nd) (mss_cons (ms_set sc_digits_of.nd (me_bin op_addU os_add (me_tup (ma_cons (me_bin op_modP os_mod (me_var 0) (g_DIGIT.elim fun _ hg => me_glob (v := .int 65536) (d := .int 65536) rfl hg ⟨_, rfl⟩ (fun _ _ => RV.int _))) ma_nil)) (me_var 2)))
    (mss_one (ms_set sc_digits_of.nd (me_bin op_fdivW os_fdiv (me_var 0) (g_DIGIT.elim fun _ hg => me_glob (v := .int 65536) (d := .int 65536) rfl hg ⟨_, rfl⟩ (fun _ _ => RV.int _)))))))
    (mss_one (ms_ret (me_var 2))))))
abbrev s_code_of : Stmt := top 4
theorem sc_code_of : FnScope ["element", "character"] ["element"] (defScope s_code_of) := ⟨rfl, rfl, rfl, by decide +kernel, rfl, by decide +kernel, by decide +kernel⟩
theorem c_code_of (G_code_of : GF K mg "code_of" s_code_of ["element"]) (C_digits_of : Cal P w K mg base "digits_of" 1 m_digits_of) (n_isinstance : mg "isinstance" = none) (n_tuple : mg "tuple" = none) (n_str : mg "str" = none) (n_len : mg "len" = none) (n_ord : mg "ord" = none) : ∀ n : Nat, Cal P w K mg base "code_of" (n + 1) (m_code_of n)
  | 0 => cal_bad G_code_of
  | n + 1 => by
    have ih_code_of := c_code_of G_code_of C_digits_of n_isinstance n_tuple n_str n_len n_ord n
    exact Cal.cast (by omega) (cal_of G_code_of sc_code_of fun f cdv A outer s H E hr => (
    (mss_cons (ms_if (mt_tru (me_isi .tup (me_var 0) rfl rfl n_isinstance n_tuple (by decide +kernel))) (mss_one (ms_ret (me_bin op_addU os_add (me_bin op_addU os_add (me_tup (ma_cons me_int ma_nil)) (me_call ih_code_of (hr.mono (Nat.le_refl _)) takesE (ma_cons (me_ix (me_var 0) me_int) ma_nil))) (me_call ih_code_of (hr.mono (Nat.le_refl _)) takesE (ma_cons (me_ix (me_var 0) me_int) ma_nil))))) mss_nil)
    (mss_cons (ms_if (mt_tru (me_isi .str (me_var 0) rfl rfl n_isinstance n_str (by decide +kernel))) (mss_one (ms_ret (me_bin op_addU os_add (me_tup (ma_cons me_int (ma_cons (me_callB call_len cs_len PySem.boot_len n_len (ma_cons (me_var 0) ma_nil)) ma_nil))) (me_callTy call_tupleP cs_tuple (by decide +kernel) n_tuple (ma_cons (me_lc [("character", 1)] sc_code_of.nd (mi_it (me_var 0)) (blkOk_by (N := ["element", "character"]) (sc := defScope s_code_of) (own := [("character", 1)]) (by decide +kernel)) (fun _ _ _ _ _ => (mg_one sc_code_of.nd)) (fun _ _ _ _ _ => mts_nil) (fun _ _ _ _ _ => (me_callB call_ord cs_ord (by decide +kernel) n_ord (ma_cons (me_var 1) ma_nil)))) ma_nil))))) mss_nil)
    (mss_cons (ms_if (mt_cmp op_ltU os_lt (me_var 0) me_int) (mss_one (ms_ret (me_bin op_addU os_add (me_tup (ma_cons me_int ma_nil)) (me_call C_digits_of (hr.mono (by omega)) takesE (ma_cons (me_neg (me_var 0)) (ma_cons me_int ma_nil)))))) mss_nil)
    (mss_one (ms_ret (me_bin op_addU os_add (me_tup (ma_cons me_int ma_nil)) (me_call C_digits_of (hr.mono (by omega)) takesE (ma_cons (me_var 0) (ma_cons me_int ma_nil)))))))))))
abbrev s_run_code : Stmt := top 6
theorem sc_run_code : FnScope ["times", "child_code"] ["times", "child_code"] (defScope s_run_code) := ⟨rfl, rfl, rfl, by decide +kernel, rfl, by decide +kernel, by decide +kernel⟩
theorem c_run_code (G_run_code : GF K mg "run_code" s_run_code ["times", "child_code"]) (C_digits_of : Cal P w K mg base "digits_of" 1 m_digits_of) : Cal P w K mg base "run_code" 2 m_run_code := cal_of G_run_code sc_run_code fun f cdv A outer s H E hr => (
    (mss_one (ms_ret (me_bin op_addU os_add (me_bin op_addU os_add (me_tup (ma_cons me_int ma_nil)) (me_call C_digits_of (hr.mono (by decide)) takesE (ma_cons (me_var 0) (ma_cons me_int ma_nil)))) (me_var 1)))))
abbrev s_block_code : Stmt := top 7
theorem sc_block_code : FnScope ["child_codes", "code", "child_code"] ["child_codes"] (defScope s_block_code) := ⟨rfl, rfl, rfl, by decide +kernel, rfl, by decide +kernel, by decide +kernel⟩
theorem c_block_code (G_block_code : GF K mg "block_code" s_block_code ["child_codes"]) (n_len : mg "len" = none) (n_tuple : mg "tuple" = none) : Cal P w K mg base "block_code" 1 m_block_code := cal_of G_block_code sc_block_code fun f cdv A outer s H E hr => (
    (mss_cons (ms_set sc_block_code.nd (me_lst (ma_cons me_int (ma_cons (me_callB call_len cs_len PySem.boot_len n_len (ma_cons (me_var 0) ma_nil)) ma_nil))))
    (mss_cons (ms_for passesE (mi_it (me_var 0)) (mg_one sc_block_code.nd) (mss_one (ms_expr (me_bm PySem.F.slot_list_extend PySem.F.type_list_extend mt_extendU ms_extend (me_var 1) (ma_cons (me_var 2) ma_nil)))))
    (mss_one (ms_ret (me_callTy call_tupleP cs_tuple (by decide +kernel) n_tuple (ma_cons (me_var 1) ma_nil)))))))
abbrev s_NodeTable_measure : Stmt := clsAt (top 22) 2
theorem sc_NodeTable_measure : FnScope ["self", "entry", "child"] ["self", "entry"] (defScope s_NodeTable_measure) := ⟨rfl, rfl, rfl, by decide +kernel, rfl, by decide +kernel, by decide +kernel⟩
theorem c_NodeTable_measure (G_NodeTable_measure : GM K mg "NodeTable" "measure" "NodeTable.measure" s_NodeTable_measure ["self", "entry"]) (C_code_of : Cal P w K mg base "code_of" 41 (m_code_of 40)) (C_run_code : Cal P w K mg base "run_code" 2 m_run_code) (C_block_code : Cal P w K mg base "block_code" 1 m_block_code) (F_NodeTable_codes : FldF K mg "NodeTable" "codes") (F_NodeTable_sizes : FldF K mg "NodeTable" "sizes") (n_sum : mg "sum" = none) : CalM P w K mg base "NodeTable" "measure" 42 m_NodeTable_measure := calm_of G_NodeTable_measure sc_NodeTable_measure fun f cdv A outer s H E hr => (
    (mss_one (ms_if (mt_cmp (op_eqU (units_ok hr)) os_eq (me_ix (me_var 1) me_int) me_str) (mss_cons (ms_expr (me_bm PySem.F.slot_list_append PySem.F.type_list_append mt_append ms_append (me_fld F_NodeTable_codes (me_var 0)) (ma_cons (me_call C_code_of (hr.mono (by decide)) takesE (ma_cons (me_ix (me_var 1) me_int) ma_nil)) ma_nil)))
    (mss_one (ms_expr (me_bm PySem.F.slot_list_append PySem.F.type_list_append mt_append ms_append (me_fld F_NodeTable_sizes (me_var 0)) (ma_cons me_int ma_nil))))) (mss_one (ms_if (mt_cmp (op_eqU (units_ok hr)) os_eq (me_ix (me_var 1) me_int) me_str) (mss_cons (ms_expr (me_bm PySem.F.slot_list_append PySem.F.type_list_append mt_append ms_append (me_fld F_NodeTable_codes (me_var 0)) (ma_cons (me_call C_run_code (hr.mono (by decide)) takesE (ma_cons (me_ix (me_var 1) me_int) (ma_cons (me_ix (me_fld F_NodeTable_codes (me_var 0)) (me_ix (me_var 1) me_int)) ma_nil))) ma_nil)))
    (mss_one (ms_expr (me_bm PySem.F.slot_list_append PySem.F.type_list_append mt_append ms_append (me_fld F_NodeTable_sizes (me_var 0)) (ma_cons (me_bin op_mulU os_mul (me_ix (me_fld F_NodeTable_sizes (me_var 0)) (me_ix (me_var 1) me_int)) (me_ix (me_var 1) me_int)) ma_nil))))) (mss_cons (ms_expr (me_bm PySem.F.slot_list_append PySem.F.type_list_append mt_append ms_append (me_fld F_NodeTable_codes (me_var 0)) (ma_cons (me_call C_block_code (hr.mono (by decide)) takesE (ma_cons (me_lc [("child", 2)] sc_NodeTable_measure.nd (mi_it (me_ix (me_var 1) me_int)) (blkOk_by (N := ["self", "entry", "child"]) (sc := defScope s_NodeTable_measure) (own := [("child", 2)]) (by decide +kernel)) (fun _ _ _ _ _ => (mg_one sc_NodeTable_measure.nd)) (fun _ _ _ _ _ => mts_nil) (fun _ _ _ _ _ => (me_ix (me_fld F_NodeTable_codes (me_var 0)) (me_var 2)))) ma_nil)) ma_nil)))
    (mss_one (ms_expr (me_bm PySem.F.slot_list_append PySem.F.type_list_append mt_append ms_append (me_fld F_NodeTable_sizes (me_var 0)) (ma_cons (me_callB (cr_sum rfl) cs_sum (by decide +kernel) n_sum (ma_cons (me_lc [("child", 2)] sc_NodeTable_measure.nd (mi_it (me_ix (me_var 1) me_int)) (blkOk_by (N := ["self", "entry", "child"]) (sc := defScope s_NodeTable_measure) (own := [("child", 2)]) (by decide +kernel)) (fun _ _ _ _ _ => (mg_one sc_NodeTable_measure.nd)) (fun _ _ _ _ _ => mts_nil) (fun _ _ _ _ _ => (me_ix (me_fld F_NodeTable_sizes (me_var 0)) (me_var 2)))) ma_nil)) ma_nil))))))))))
abbrev s_NodeTable_number_of : Stmt := clsAt (top 22) 1
theorem sc_NodeTable_number_of : FnScope ["self", "entry", "number"] ["self", "entry"] (defScope s_NodeTable_number_of) := ⟨rfl, rfl, rfl, by decide +kernel, rfl, by decide +kernel, by decide +kernel⟩
theorem c_NodeTable_number_of (G_NodeTable_number_of : GM K mg "NodeTable" "number_of" "NodeTable.number_of" s_NodeTable_number_of ["self", "entry"]) (C_NodeTable_measure : CalM P w K mg base "NodeTable" "measure" 42 m_NodeTable_measure) (F_NodeTable_numbers : FldF K mg "NodeTable" "numbers") (F_NodeTable_entries : FldF K mg "NodeTable" "entries") (n_len : mg "len" = none) : CalM P w K mg base "NodeTable" "number_of" 43 m_NodeTable_number_of := calm_of G_NodeTable_number_of sc_NodeTable_number_of fun f cdv A outer s H E hr => (
    (mss_cons (ms_set sc_NodeTable_number_of.nd (me_dget1 (units_ok hr) (me_fld F_NodeTable_numbers (me_var 0)) (me_var 1) ⟨rfl, rfl, rfl, rfl⟩))
    (mss_cons (ms_if (mt_cmp op_isN os_isN (me_var 2) me_non) (mss_cons (ms_set sc_NodeTable_number_of.nd (me_callB call_len cs_len PySem.boot_len n_len (ma_cons (me_fld F_NodeTable_entries (me_var 0)) ma_nil)))
    (mss_cons (me_dput (units_ok hr) (me_fld F_NodeTable_numbers (me_var 0)) (me_var 1) (me_var 2))
    (mss_cons (ms_expr (me_bm PySem.F.slot_list_append PySem.F.type_list_append mt_append ms_append (me_fld F_NodeTable_entries (me_var 0)) (ma_cons (me_var 1) ma_nil)))
    (mss_one (ms_expr (me_meth C_NodeTable_measure (hr.mono (by decide)) takesE (me_var 0) (ma_cons (me_var 1) ma_nil))))))) mss_nil)
    (mss_one (ms_ret (me_var 2))))))
abbrev s_leaf_row : Stmt := top 25
theorem sc_leaf_row : FnScope ["table", "contents", "element"] ["table", "contents"] (defScope s_leaf_row) := ⟨rfl, rfl, rfl, by decide +kernel, rfl, by decide +kernel, by decide +kernel⟩
theorem c_leaf_row (G_leaf_row : GF K mg "leaf_row" s_leaf_row ["table", "contents"]) (C_NodeTable_number_of : CalM P w K mg base "NodeTable" "number_of" 43 m_NodeTable_number_of) : Cal P w K mg base "leaf_row" 44 m_leaf_row := cal_of G_leaf_row sc_leaf_row fun f cdv A outer s H E hr => (
    (mss_one (ms_ret (me_lc [("element", 2)] sc_leaf_row.nd (mi_it (me_var 1)) (blkOk_by (N := ["table", "contents", "element"]) (sc := defScope s_leaf_row) (own := [("element", 2)]) (by decide +kernel)) (fun _ _ _ _ _ => (mg_one sc_leaf_row.nd)) (fun _ _ _ _ _ => mts_nil) (fun _ _ _ _ _ => (me_meth C_NodeTable_number_of (hr.mono (by decide)) takes0 (me_var 0) (ma_cons (me_tup (ma_cons me_str (ma_cons (me_var 2) ma_nil))) ma_nil)))))))
abbrev s_NodeTable_item_number : Stmt := clsAt (top 22) 3
theorem sc_NodeTable_item_number : FnScope ["self", "number", "times"] ["self", "number", "times"] (defScope s_NodeTable_item_number) := ⟨rfl, rfl, rfl, by decide +kernel, rfl, by decide +kernel, by decide +kernel⟩
theorem c_NodeTable_item_number (G_NodeTable_item_number : GM K mg "NodeTable" "item_number" "NodeTable.item_number" s_NodeTable_item_number ["self", "number", "times"]) (C_NodeTable_number_of : CalM P w K mg base "NodeTable" "number_of" 43 m_NodeTable_number_of) : CalM P w K mg base "NodeTable" "item_number" 44 m_NodeTable_item_number := calm_of G_NodeTable_item_number sc_NodeTable_item_number fun f cdv A outer s H E hr => (
    (mss_cons (ms_if (mt_cmp (op_eqU (units_ok hr)) os_eq (me_var 2) me_int) (mss_one (ms_ret (me_var 1))) mss_nil)
    (mss_one (ms_ret (me_meth C_NodeTable_number_of (hr.mono (by decide)) takesE (me_var 0) (ma_cons (me_tup (ma_cons me_str (ma_cons (me_var 1) (ma_cons (me_var 2) ma_nil)))) ma_nil))))))
abbrev s_groups_of : Stmt := top 8
theorem sc_groups_of : FnScope ["row", "groups", "start", "end"] ["row"] (defScope s_groups_of) := ⟨rfl, rfl, rfl, by decide +kernel, rfl, by decide +kernel, by decide +kernel⟩
theorem c_groups_of (G_groups_of : GF K mg "groups_of" s_groups_of ["row"]) (n_len : mg "len" = none) : Cal P w K mg base "groups_of" 1 m_groups_of := cal_of G_groups_of sc_groups_of fun f cdv A outer s H E hr => (
    (mss_cons (ms_set sc_groups_of.nd (me_lst ma_nil))
    (mss_cons (ms_set sc_groups_of.nd me_int)
    (mss_cons (ms_while passesE (mt_cmp op_ltU os_lt (me_var 2) (me_callB call_len cs_len PySem.boot_len n_len (ma_cons (me_var 0) ma_nil))) (mss_cons (ms_set sc_groups_of.nd (me_bin op_addU os_add (me_var 2) me_int))
    (mss_cons (ms_while passesE (L2.PW.pt (mw_and (mt_cmp op_ltU os_lt (me_var 3) (me_callB call_len cs_len PySem.boot_len n_len (ma_cons (me_var 0) ma_nil))) (mw_and1 (mt_cmp (op_eqU (units_ok hr)) os_eq (me_ix (me_var 0) (me_var 3)) (me_ix (me_var 0) (me_var 2)))))) (mss_one (ms_aug sc_groups_of.nd ip_add os_iadd me_int)))
    (mss_cons (ms_expr (me_bm PySem.F.slot_list_append PySem.F.type_list_append mt_append ms_append (me_var 1) (ma_cons (me_tup (ma_cons (me_ix (me_var 0) (me_var 2)) (ma_cons (me_bin op_sub os_sub (me_var 3) (me_var 2)) ma_nil))) ma_nil)))
    (mss_one (ms_set sc_groups_of.nd (me_var 3)))))))
    (mss_one (ms_ret (me_var 1)))))))
abbrev s_item_row : Stmt := top 26
theorem sc_item_row : FnScope ["table", "row", "number", "times"] ["table", "row"] (defScope s_item_row) := ⟨rfl, rfl, rfl, by decide +kernel, rfl, by decide +kernel, by decide +kernel⟩
theorem c_item_row (G_item_row : GF K mg "item_row" s_item_row ["table", "row"]) (C_groups_of : Cal P w K mg base "groups_of" 1 m_groups_of) (C_NodeTable_item_number : CalM P w K mg base "NodeTable" "item_number" 44 m_NodeTable_item_number) (n_tuple : mg "tuple" = none) : Cal P w K mg base "item_row" 45 m_item_row := cal_of G_item_row sc_item_row fun f cdv A outer s H E hr => (
    (mss_one (ms_ret (me_callTy call_tupleP cs_tuple (by decide +kernel) n_tuple (ma_cons (me_lc [("number", 2), ("times", 3)] sc_item_row.nd (mi_it (me_call C_groups_of (hr.mono (by decide)) takesE (ma_cons (me_var 1) ma_nil))) (blkOk_by (N := ["table", "row", "number", "times"]) (sc := defScope s_item_row) (own := [("number", 2), ("times", 3)]) (by decide +kernel)) (fun _ _ _ _ _ => (mg_many (mgs_cons (mg_one (i := 2) sc_item_row.nd) (mgs_cons (mg_one (i := 3) sc_item_row.nd) mgs_nil)))) (fun _ _ _ _ _ => mts_nil) (fun _ _ _ _ _ => (me_meth C_NodeTable_item_number (hr.mono (by decide)) takes0 (me_var 0) (ma_cons (me_var 2) (ma_cons (me_var 3) ma_nil))))) ma_nil)))))
abbrev s_mix : Stmt := top 14
theorem sc_mix : FnScope ["a", "b", "difference", "place"] ["a", "b"] (defScope s_mix) := ⟨rfl, rfl, rfl, by decide +kernel, rfl, by decide +kernel, by decide +kernel⟩
theorem c_mix (G_mix : GF K mg "mix" s_mix ["a", "b"]) : Cal P w K mg base "mix" 1 m_mix := cal_of G_mix sc_mix fun f cdv A outer s H E hr => (
    (mss_cons (ms_set sc_mix.nd (me_bin op_xor os_xor (me_var 0) (me_var 1)))
    (mss_cons (ms_set sc_mix.nd (me_bin op_sub os_sub (me_bits (me_bin op_and os_and (me_var 2) (me_neg (me_var 2)))) me_int))
    (mss_one (ms_ret (me_bin op_addU os_add (me_bin op_mulU os_mul me_int (me_var 3)) (me_bin op_and os_and (me_bin op_shr os_shr (me_var 1) (me_var 3)) me_int)))))))
abbrev s_one_round : Stmt := top 15
theorem sc_one_round : FnScope ["numbers", "mixed", "a", "b", "number"] ["numbers"] (defScope s_one_round) := ⟨rfl, rfl, rfl, by decide +kernel, rfl, by decide +kernel, by decide +kernel⟩
theorem c_one_round (G_one_round : GF K mg "one_round" s_one_round ["numbers"]) (C_mix : Cal P w K mg base "mix" 1 m_mix) (n_zip : mg "zip" = none) (n_tuple : mg "tuple" = none) : Cal P w K mg base "one_round" 2 m_one_round := cal_of G_one_round sc_one_round fun f cdv A outer s H E hr => (
    (mss_cons (ms_setLc [("number", 4)] sc_one_round.nd (sw_true rfl rfl rfl (by decide +kernel)) (mi_it (me_slice (me_var 0) mo_none (mo_some me_int))) (blkOk_by (N := ["numbers", "mixed", "a", "b", "number"]) (sc := defScope s_one_round) (own := [("number", 4)]) (by decide +kernel)) (fun _ _ _ _ _ => (mg_one sc_one_round.nd)) (fun _ _ _ _ _ => mts_nil) (fun _ _ _ _ _ => (me_bin op_and os_and (me_var 4) me_int)))
    (mss_cons (ms_for passesE (mi_zip n_zip (ma_cons (me_var 0) (ma_cons (me_slice (me_var 0) (mo_some me_int) mo_none) ma_nil))) (mg_many (mgs_cons (mg_one (i := 2) sc_one_round.nd) (mgs_cons (mg_one (i := 3) sc_one_round.nd) mgs_nil))) (mss_one (ms_expr (me_bm PySem.F.slot_list_append PySem.F.type_list_append mt_append ms_append (me_var 1) (ma_cons (me_call C_mix (hr.mono (by decide)) takesE (ma_cons (me_var 2) (ma_cons (me_var 3) ma_nil))) ma_nil)))))
    (mss_one (ms_ret (me_callTy call_tupleP cs_tuple (by decide +kernel) n_tuple (ma_cons (me_var 1) ma_nil)))))))
abbrev s_colors_of_coins : Stmt := top 16
theorem sc_colors_of_coins : FnScope ["coins", "numbers", "_"] ["coins"] (defScope s_colors_of_coins) := ⟨rfl, rfl, rfl, by decide +kernel, rfl, by decide +kernel, by decide +kernel⟩
theorem c_colors_of_coins (G_colors_of_coins : GF K mg "colors_of_coins" s_colors_of_coins ["coins"]) (C_one_round : Cal P w K mg base "one_round" 2 m_one_round) (g_ROUNDS : ∃ u, mg "ROUNDS" = some (.int 4 u)) (n_range : mg "range" = none) : Cal P w K mg base "colors_of_coins" 3 m_colors_of_coins := cal_of G_colors_of_coins sc_colors_of_coins fun f cdv A outer s H E hr => (
    (mss_cons (ms_set sc_colors_of_coins.nd (me_var 0))
    (mss_cons (ms_for passesE (mi_range1 (x := "range") n_range (ma_cons (g_ROUNDS.elim fun _ hg => me_glob (v := .int 4) (d := .int 4) rfl hg ⟨_, rfl⟩ (fun _ _ => RV.int _)) ma_nil) (hn := cons1)) (mg_one sc_colors_of_coins.nd) (mss_one (ms_set sc_colors_of_coins.nd (me_call C_one_round (hr.mono (by decide)) takesE (ma_cons (me_var 1) ma_nil)))))
    (mss_one (ms_ret (me_var 1))))))
abbrev s_first_difference : Stmt := top 11
theorem sc_first_difference : FnScope ["before", "code", "place"] ["before", "code"] (defScope s_first_difference) := ⟨rfl, rfl, rfl, by decide +kernel, rfl, by decide +kernel, by decide +kernel⟩
theorem c_first_difference (G_first_difference : GF K mg "first_difference" s_first_difference ["before", "code"]) (n_len : mg "len" = none) : Cal P w K mg base "first_difference" 1 m_first_difference := cal_of G_first_difference sc_first_difference fun f cdv A outer s H E hr => (
    (mss_cons (ms_set sc_first_difference.nd me_int)
    (mss_cons (ms_while passesE (L2.PW.pt (mw_and (mt_cmp op_ltU os_lt (me_var 2) (me_callB call_len cs_len PySem.boot_len n_len (ma_cons (me_var 0) ma_nil))) (mw_and1 (mt_cmp (op_eqU (units_ok hr)) os_eq (me_ix (me_var 0) (me_var 2)) (me_ix (me_var 1) (me_var 2)))))) (mss_one (ms_aug sc_first_difference.nd ip_add os_iadd me_int)))
    (mss_one (ms_ret (me_var 2))))))
abbrev s_coin_after : Stmt := top 12
theorem sc_coin_after : FnScope ["before", "code", "place"] ["before", "code"] (defScope s_coin_after) := ⟨rfl, rfl, rfl, by decide +kernel, rfl, by decide +kernel, by decide +kernel⟩
theorem c_coin_after (G_coin_after : GF K mg "coin_after" s_coin_after ["before", "code"]) (C_first_difference : Cal P w K mg base "first_difference" 1 m_first_difference) (g_DIGIT : ∃ u, mg "DIGIT" = some (.int 65536 u)) : Cal P w K mg base "coin_after" 2 m_coin_after := cal_of G_coin_after sc_coin_after fun f cdv A outer s H E hr => (
    (mss_cons (ms_set sc_coin_after.nd (me_call C_first_difference (hr.mono (by decide)) takesE (ma_cons (me_var 0) (ma_cons (me_var 1) ma_nil))))
    (mss_one (ms_ret (me_bin op_addU os_add (me_bin op_mulU os_mul (g_DIGIT.elim fun _ hg => me_glob (v := .int 65536) (d := .int 65536) rfl hg ⟨_, rfl⟩ (fun _ _ => RV.int _)) (me_var 2)) (me_ix (me_var 1) (me_var 2)))))))
abbrev s_coins_of_codes : Stmt := top 13
theorem sc_coins_of_codes : FnScope ["codes", "coins", "before", "code"] ["codes"] (defScope s_coins_of_codes) := ⟨rfl, rfl, rfl, by decide +kernel, rfl, by decide +kernel, by decide +kernel⟩
theorem c_coins_of_codes (G_coins_of_codes : GF K mg "coins_of_codes" s_coins_of_codes ["codes"]) (C_coin_after : Cal P w K mg base "coin_after" 2 m_coin_after) (n_tuple : mg "tuple" = none) : Cal P w K mg base "coins_of_codes" 3 m_coins_of_codes := cal_of G_coins_of_codes sc_coins_of_codes fun f cdv A outer s H E hr => (
    (mss_cons (ms_set sc_coins_of_codes.nd (me_lst ma_nil))
    (mss_cons (ms_set sc_coins_of_codes.nd (me_tup ma_nil))
    (mss_cons (ms_for passesE (mi_it (me_var 0)) (mg_one sc_coins_of_codes.nd) (mss_cons (ms_expr (me_bm PySem.F.slot_list_append PySem.F.type_list_append mt_append ms_append (me_var 1) (ma_cons (me_call C_coin_after (hr.mono (by decide)) takesE (ma_cons (me_var 2) (ma_cons (me_var 3) ma_nil))) ma_nil)))
    (mss_one (ms_set sc_coins_of_codes.nd (me_var 3)))))
    (mss_one (ms_ret (me_callTy call_tupleP cs_tuple (by decide +kernel) n_tuple (ma_cons (me_var 1) ma_nil))))))))
abbrev s_color_row : Stmt := top 27
theorem sc_color_row : FnScope ["table", "items", "item"] ["table", "items"] (defScope s_color_row) := ⟨rfl, rfl, rfl, by decide +kernel, rfl, by decide +kernel, by decide +kernel⟩
theorem c_color_row (G_color_row : GF K mg "color_row" s_color_row ["table", "items"]) (C_coins_of_codes : Cal P w K mg base "coins_of_codes" 3 m_coins_of_codes) (C_colors_of_coins : Cal P w K mg base "colors_of_coins" 3 m_colors_of_coins) (F_NodeTable_codes : FldF K mg "NodeTable" "codes") : Cal P w K mg base "color_row" 4 m_color_row := cal_of G_color_row sc_color_row fun f cdv A outer s H E hr => (
    (mss_one (ms_ret (me_call C_colors_of_coins (hr.mono (by decide)) takesE (ma_cons (me_call C_coins_of_codes (hr.mono (by decide)) takesE (ma_cons (me_lc [("item", 2)] sc_color_row.nd (mi_it (me_var 1)) (blkOk_by (N := ["table", "items", "item"]) (sc := defScope s_color_row) (own := [("item", 2)]) (by decide +kernel)) (fun _ _ _ _ _ => (mg_one sc_color_row.nd)) (fun _ _ _ _ _ => mts_nil) (fun _ _ _ _ _ => (me_ix (me_fld F_NodeTable_codes (me_var 0)) (me_var 2)))) ma_nil)) ma_nil)))))
abbrev s_is_peak : Stmt := top 18
theorem sc_is_peak : FnScope ["colors", "place"] ["colors", "place"] (defScope s_is_peak) := ⟨rfl, rfl, rfl, by decide +kernel, rfl, by decide +kernel, by decide +kernel⟩
theorem c_is_peak (G_is_peak : GF K mg "is_peak" s_is_peak ["colors", "place"]) : Cal P w K mg base "is_peak" 1 m_is_peak := cal_of G_is_peak sc_is_peak fun f cdv A outer s H E hr => (
    (mss_one (ms_ret (me_and (me_cmp op_ltU os_lt (me_ix (me_var 0) (me_bin op_sub os_sub (me_var 1) me_int)) (me_ix (me_var 0) (me_var 1))) (me_one (me_cmp op_gtU os_gt (me_ix (me_var 0) (me_var 1)) (me_ix (me_var 0) (me_bin op_addU os_add (me_var 1) me_int))))))))
abbrev s_starts_of : Stmt := top 19
theorem sc_starts_of : FnScope ["colors", "place"] ["colors"] (defScope s_starts_of) := ⟨rfl, rfl, rfl, by decide +kernel, rfl, by decide +kernel, by decide +kernel⟩
theorem c_starts_of (G_starts_of : GF K mg "starts_of" s_starts_of ["colors"]) (C_is_peak : Cal P w K mg base "is_peak" 1 m_is_peak) (n_len : mg "len" = none) (n_range : mg "range" = none) (n_tuple : mg "tuple" = none) : Cal P w K mg base "starts_of" 2 m_starts_of := cal_of G_starts_of sc_starts_of fun f cdv A outer s H E hr => (
    (mss_cons (ms_if (mt_not (mt_tru (me_var 0))) (mss_one (ms_ret (me_tup ma_nil))) mss_nil)
    (mss_one (ms_ret (me_bin op_addU os_add (me_tup (ma_cons me_int ma_nil)) (me_callTy call_tupleP cs_tuple (by decide +kernel) n_tuple (ma_cons (me_lc [("place", 1)] sc_starts_of.nd (mi_range2 (x := "range") n_range (ma_cons me_int (ma_cons (me_bin op_sub os_sub (me_callB call_len cs_len PySem.boot_len n_len (ma_cons (me_var 0) ma_nil)) me_int) ma_nil)) (hn := cons2)) (blkOk_by (N := ["colors", "place"]) (sc := defScope s_starts_of) (own := [("place", 1)]) (by decide +kernel)) (fun _ _ _ _ _ => (mg_one sc_starts_of.nd)) (fun _ _ _ _ _ => (mts_one (mt_tru (me_call C_is_peak (hr.mono (by decide)) takes0 (ma_cons (me_var 0) (ma_cons (me_var 1) ma_nil)))))) (fun _ _ _ _ _ => (me_var 1))) ma_nil)))))))
abbrev s_cut : Stmt := top 20
theorem sc_cut : FnScope ["items", "starts", "ends", "start", "end"] ["items", "starts"] (defScope s_cut) := ⟨rfl, rfl, rfl, by decide +kernel, rfl, by decide +kernel, by decide +kernel⟩
theorem c_cut (G_cut : GF K mg "cut" s_cut ["items", "starts"]) (n_len : mg "len" = none) (n_zip : mg "zip" = none) : Cal P w K mg base "cut" 1 m_cut := cal_of G_cut sc_cut fun f cdv A outer s H E hr => (
    (mss_cons (ms_set sc_cut.nd (me_bin op_addU os_add (me_slice (me_var 1) (mo_some me_int) mo_none) (me_tup (ma_cons (me_callB call_len cs_len PySem.boot_len n_len (ma_cons (me_var 0) ma_nil)) ma_nil))))
    (mss_one (ms_ret (me_lc [("start", 3), ("end", 4)] sc_cut.nd (mi_zip n_zip (ma_cons (me_var 1) (ma_cons (me_var 2) ma_nil))) (blkOk_by (N := ["items", "starts", "ends", "start", "end"]) (sc := defScope s_cut) (own := [("start", 3), ("end", 4)]) (by decide +kernel)) (fun _ _ _ _ _ => (mg_many (mgs_cons (mg_one (i := 3) sc_cut.nd) (mgs_cons (mg_one (i := 4) sc_cut.nd) mgs_nil)))) (fun _ _ _ _ _ => mts_nil) (fun _ _ _ _ _ => (me_slice (me_var 0) (mo_some (me_var 3)) (mo_some (me_var 4)))))))))
abbrev s_grow : Stmt := top 28
theorem sc_grow : FnScope ["table", "contents", "levels", "row", "items", "colors", "starts", "part"] ["table", "contents"] (defScope s_grow) := ⟨rfl, rfl, rfl, by decide +kernel, rfl, by decide +kernel, by decide +kernel⟩
theorem c_grow (G_grow : GF K mg "grow" s_grow ["table", "contents"]) (C_leaf_row : Cal P w K mg base "leaf_row" 44 m_leaf_row) (C_item_row : Cal P w K mg base "item_row" 45 m_item_row) (C_color_row : Cal P w K mg base "color_row" 4 m_color_row) (C_starts_of : Cal P w K mg base "starts_of" 2 m_starts_of) (C_cut : Cal P w K mg base "cut" 1 m_cut) (C_NodeTable_number_of : CalM P w K mg base "NodeTable" "number_of" 43 m_NodeTable_number_of) (n_len : mg "len" = none) : Cal P w K mg base "grow" 46 m_grow := cal_of G_grow sc_grow fun f cdv A outer s H E hr => (
    (mss_cons (ms_set sc_grow.nd (me_lst ma_nil))
    (mss_cons (ms_set sc_grow.nd (me_call C_leaf_row (hr.mono (by decide)) takesE (ma_cons (me_var 0) (ma_cons (me_var 1) ma_nil))))
    (mss_cons (ms_while passesE (mt_tru (me_var 3)) (mss_cons (ms_set sc_grow.nd (me_call C_item_row (hr.mono (by decide)) takesE (ma_cons (me_var 0) (ma_cons (me_var 3) ma_nil))))
    (mss_cons (ms_set sc_grow.nd (me_call C_color_row (hr.mono (by decide)) takesE (ma_cons (me_var 0) (ma_cons (me_var 4) ma_nil))))
    (mss_cons (ms_set sc_grow.nd (me_call C_starts_of (hr.mono (by decide)) takesE (ma_cons (me_var 5) ma_nil)))
    (mss_cons (ms_expr (me_bm PySem.F.slot_list_append PySem.F.type_list_append mt_append ms_append (me_var 2) (ma_cons (me_tup (ma_cons (me_var 3) (ma_cons (me_var 4) (ma_cons (me_var 5) (ma_cons (me_var 6) ma_nil))))) ma_nil)))
    (mss_cons (ms_set sc_grow.nd (me_lst ma_nil))
    (mss_one (ms_if (mt_cmp op_gtU os_gt (me_callB call_len cs_len PySem.boot_len n_len (ma_cons (me_var 4) ma_nil)) me_int) (mss_one (ms_setLc [("part", 7)] sc_grow.nd (sw_true rfl rfl rfl (by decide +kernel)) (mi_it (me_call C_cut (hr.mono (by decide)) takesE (ma_cons (me_var 4) (ma_cons (me_var 6) ma_nil)))) (blkOk_by (N := ["table", "contents", "levels", "row", "items", "colors", "starts", "part"]) (sc := defScope s_grow) (own := [("part", 7)]) (by decide +kernel)) (fun _ _ _ _ _ => (mg_one sc_grow.nd)) (fun _ _ _ _ _ => mts_nil) (fun _ _ _ _ _ => (me_meth C_NodeTable_number_of (hr.mono (by decide)) takes0 (me_var 0) (ma_cons (me_tup (ma_cons me_str (ma_cons (me_var 7) ma_nil))) ma_nil))))) mss_nil))))))))
    (mss_one (ms_ret (me_var 2)))))))
abbrev s_add_tree : Stmt := top 29
theorem sc_add_tree : FnScope ["table", "contents", "levels"] ["table", "contents"] (defScope s_add_tree) := ⟨rfl, rfl, rfl, by decide +kernel, rfl, by decide +kernel, by decide +kernel⟩
theorem c_add_tree (G_add_tree : GF K mg "add_tree" s_add_tree ["table", "contents"]) (C_grow : Cal P w K mg base "grow" 46 m_grow) : Cal P w K mg base "add_tree" 47 m_add_tree := cal_of G_add_tree sc_add_tree fun f cdv A outer s H E hr => (
    (mss_cons (ms_set sc_add_tree.nd (me_call C_grow (hr.mono (by decide)) takesE (ma_cons (me_var 0) (ma_cons (me_var 1) ma_nil))))
    (mss_cons (ms_if (mt_not (mt_tru (me_var 2))) (mss_one (ms_ret me_non)) mss_nil)
    (mss_one (ms_ret (me_ix (me_ix (me_ix (me_var 2) (me_neg me_int)) me_int) me_int))))))
abbrev s_list_nodes : Stmt := top 23
theorem sc_list_nodes : FnScope ["table", "root", "places", "entry", "child"] ["table", "root", "places"] (defScope s_list_nodes) := ⟨rfl, rfl, rfl, by decide +kernel, rfl, by decide +kernel, by decide +kernel⟩
theorem c_list_nodes (G_list_nodes : GF K mg "list_nodes" s_list_nodes ["table", "root", "places"]) (F_NodeTable_entries : FldF K mg "NodeTable" "entries") (n_len : mg "len" = none) : ∀ n : Nat, Cal P w K mg base "list_nodes" (n + 0) (m_list_nodes n)
  | 0 => cal_bad G_list_nodes
  | n + 1 => by
    have ih_list_nodes := c_list_nodes G_list_nodes F_NodeTable_entries n_len n
    exact Cal.cast (by omega) (cal_of G_list_nodes sc_list_nodes fun f cdv A outer s H E hr => (
    (mss_cons (ms_if (mt_cmp (op_din (units_ok hr)) os_din (me_var 1) (me_var 2)) (mss_one ms_retN) mss_nil)
    (mss_cons (ms_set sc_list_nodes.nd (me_ix (me_fld F_NodeTable_entries (me_var 0)) (me_var 1)))
    (mss_cons (ms_if (mt_cmp (op_eqU (units_ok hr)) os_eq (me_ix (me_var 3) me_int) me_str) (mss_one (ms_expr (me_call ih_list_nodes (hr.mono (Nat.le_refl _)) takesE (ma_cons (me_var 0) (ma_cons (me_ix (me_var 3) me_int) (ma_cons (me_var 2) ma_nil)))))) (mss_one (ms_if (mt_cmp (op_eqU (units_ok hr)) os_eq (me_ix (me_var 3) me_int) me_str) (mss_one (ms_for passesE (mi_it (me_ix (me_var 3) me_int)) (mg_one sc_list_nodes.nd) (mss_one (ms_expr (me_call ih_list_nodes (hr.mono (Nat.le_refl _)) takesE (ma_cons (me_var 0) (ma_cons (me_var 4) (ma_cons (me_var 2) ma_nil)))))))) mss_nil)))
    (mss_one (me_dput (units_ok hr) (me_var 2) (me_var 1) (me_callB ML.call_lenD ML.cs_lenD PySem.boot_len n_len (ma_cons (me_var 2) ma_nil)))))))))
abbrev s_placed : Stmt := top 30
theorem sc_placed : FnScope ["entry", "places", "child"] ["entry", "places"] (defScope s_placed) := ⟨rfl, rfl, rfl, by decide +kernel, rfl, by decide +kernel, by decide +kernel⟩
theorem c_placed (G_placed : GF K mg "placed" s_placed ["entry", "places"]) (n_tuple : mg "tuple" = none) : Cal P w K mg base "placed" 1 m_placed := cal_of G_placed sc_placed fun f cdv A outer s H E hr => (
    (mss_cons (ms_if (mt_cmp (op_eqU (units_ok hr)) os_eq (me_ix (me_var 0) me_int) me_str) (mss_one (ms_ret (me_tup (ma_cons me_str (ma_cons (me_dget (units_ok hr) (me_var 1) (me_ix (me_var 0) me_int)) (ma_cons (me_ix (me_var 0) me_int) ma_nil)))))) mss_nil)
    (mss_cons (ms_if (mt_cmp (op_eqU (units_ok hr)) os_eq (me_ix (me_var 0) me_int) me_str) (mss_one (ms_ret (me_tup (ma_cons me_str (ma_cons (me_callTy call_tupleP cs_tuple (by decide +kernel) n_tuple (ma_cons (me_lc [("child", 2)] sc_placed.nd (mi_it (me_ix (me_var 0) me_int)) (blkOk_by (N := ["entry", "places", "child"]) (sc := defScope s_placed) (own := [("child", 2)]) (by decide +kernel)) (fun _ _ _ _ _ => (mg_one sc_placed.nd)) (fun _ _ _ _ _ => mts_nil) (fun _ _ _ _ _ => (me_dget (units_ok hr) (me_var 1) (me_var 2)))) ma_nil)) ma_nil))))) mss_nil)
    (mss_one (ms_ret (me_var 0))))))
abbrev s_table_of : Stmt := top 31
theorem sc_table_of : FnScope ["contents", "table", "root", "places", "number"] ["contents"] (defScope s_table_of) := ⟨rfl, rfl, rfl, by decide +kernel, rfl, by decide +kernel, by decide +kernel⟩
theorem c_table_of (G_table_of : GF K mg "table_of" s_table_of ["contents"]) (C_NodeTable___init__ : CalI P w K mg base "NodeTable" 1 m_NodeTable___init__) (C_add_tree : Cal P w K mg base "add_tree" 47 m_add_tree) (C_list_nodes : Cal P w K mg base "list_nodes" 40 (m_list_nodes 40)) (C_placed : Cal P w K mg base "placed" 1 m_placed) (F_NodeTable_entries : FldF K mg "NodeTable" "entries") (n_tuple : mg "tuple" = none) : Cal P w K mg base "table_of" 48 m_table_of := cal_of G_table_of sc_table_of fun f cdv A outer s H E hr => (
    (mss_cons (ms_set sc_table_of.nd (me_make0 C_NodeTable___init__ (hr.mono (by decide)) takesE))
    (mss_cons (ms_set sc_table_of.nd (me_call C_add_tree (hr.mono (by decide)) takesE (ma_cons (me_var 1) (ma_cons (me_var 0) ma_nil))))
    (mss_cons (ms_set sc_table_of.nd me_dnew)
    (mss_cons (ms_if (mt_cmp op_notN os_notN (me_var 2) me_non) (mss_one (ms_expr (me_call C_list_nodes (hr.mono (by decide)) takesE (ma_cons (me_var 1) (ma_cons (me_var 2) (ma_cons (me_var 3) ma_nil)))))) mss_nil)
    (mss_one (ms_ret (me_callTy call_tupleP cs_tuple (by decide +kernel) n_tuple (ma_cons (me_lcD [("number", 4)] sc_table_of.nd (me_var 3) (blkOk_by (N := ["contents", "table", "root", "places", "number"]) (sc := defScope s_table_of) (own := [("number", 4)]) (by decide +kernel)) (fun _ _ _ _ _ => (mg_one sc_table_of.nd)) (fun _ _ _ _ _ => mts_nil) (fun _ _ _ _ _ => (me_call C_placed (hr.mono (by decide)) takes0 (ma_cons (me_ix (me_fld F_NodeTable_entries (me_var 1)) (me_var 4)) (ma_cons (me_var 3) ma_nil))))) ma_nil)))))))))
abbrev s_law_numbers : Stmt := top 41
theorem sc_law_numbers : FnScope ["_law_known", "_law_table", "_law_numbers_here", "_law_entry", "_law_key", "_law_child"] ["_law_known", "_law_table"] (defScope s_law_numbers) := ⟨rfl, rfl, rfl, by decide +kernel, rfl, by decide +kernel, by decide +kernel⟩
theorem c_law_numbers (G_law_numbers : GF K mg "_law_numbers" s_law_numbers ["_law_known", "_law_table"]) (n_tuple : mg "tuple" = none) (n_len : mg "len" = none) : Cal P w K mg base "_law_numbers" 1 m_law_numbers := cal_of G_law_numbers sc_law_numbers fun f cdv A outer s H E hr => (
    (mss_cons (ms_set sc_law_numbers.nd (me_lst ma_nil))
    (mss_cons (ms_for passesE (mi_it (me_var 1)) (mg_one sc_law_numbers.nd) (mss_cons (ms_set sc_law_numbers.nd (me_var 3))
    (mss_cons (ms_if (mt_cmp (op_eqU (units_ok hr)) os_eq (me_ix (me_var 3) me_int) me_str) (mss_one (ms_set sc_law_numbers.nd (me_tup (ma_cons me_str (ma_cons (me_ix (me_var 2) (me_ix (me_var 3) me_int)) (ma_cons (me_ix (me_var 3) me_int) ma_nil)))))) mss_nil)
    (mss_cons (ms_if (mt_cmp (op_eqU (units_ok hr)) os_eq (me_ix (me_var 3) me_int) me_str) (mss_one (ms_set sc_law_numbers.nd (me_tup (ma_cons me_str (ma_cons (me_callTy call_tupleP cs_tuple (by decide +kernel) n_tuple (ma_cons (me_lc [("_law_child", 5)] sc_law_numbers.nd (mi_it (me_ix (me_var 3) me_int)) (blkOk_by (N := ["_law_known", "_law_table", "_law_numbers_here", "_law_entry", "_law_key", "_law_child"]) (sc := defScope s_law_numbers) (own := [("_law_child", 5)]) (by decide +kernel)) (fun _ _ _ _ _ => (mg_one sc_law_numbers.nd)) (fun _ _ _ _ _ => mts_nil) (fun _ _ _ _ _ => (me_ix (me_var 2) (me_var 5)))) ma_nil)) ma_nil))))) mss_nil)
    (mss_cons (ms_if (mt_cmp (op_dnotin (units_ok hr)) os_dnotin (me_var 4) (me_var 0)) (mss_one (me_dput (units_ok hr) (me_var 0) (me_var 4) (me_callB ML.call_lenD ML.cs_lenD PySem.boot_len n_len (ma_cons (me_var 0) ma_nil)))) mss_nil)
    (mss_one (ms_expr (me_bm PySem.F.slot_list_append PySem.F.type_list_append mt_append ms_append (me_var 2) (ma_cons (me_dget (units_ok hr) (me_var 0) (me_var 4)) ma_nil)))))))))
    (mss_one (ms_ret (me_var 2))))))
abbrev s_law_heights : Stmt := top 42
theorem sc_law_heights : FnScope ["_law_table", "_law_heights_here", "_law_entry"] ["_law_table"] (defScope s_law_heights) := ⟨rfl, rfl, rfl, by decide +kernel, rfl, by decide +kernel, by decide +kernel⟩
theorem c_law_heights (G_law_heights : GF K mg "_law_heights" s_law_heights ["_law_table"]) : Cal P w K mg base "_law_heights" 1 m_law_heights := cal_of G_law_heights sc_law_heights fun f cdv A outer s H E hr => (
    (mss_cons (ms_set sc_law_heights.nd (me_lst ma_nil))
    (mss_cons (ms_for passesE (mi_it (me_var 0)) (mg_one sc_law_heights.nd) (mss_one (ms_if (mt_cmp (op_eqU (units_ok hr)) os_eq (me_ix (me_var 2) me_int) me_str) (mss_one (ms_expr (me_bm PySem.F.slot_list_append PySem.F.type_list_append mt_append ms_append (me_var 1) (ma_cons me_int ma_nil)))) (mss_one (ms_if (mt_cmp (op_eqU (units_ok hr)) os_eq (me_ix (me_var 2) me_int) me_str) (mss_one (ms_expr (me_bm PySem.F.slot_list_append PySem.F.type_list_append mt_append ms_append (me_var 1) (ma_cons (me_ix (me_var 1) (me_ix (me_var 2) me_int)) ma_nil)))) (mss_one (ms_expr (me_bm PySem.F.slot_list_append PySem.F.type_list_append mt_append ms_append (me_var 1) (ma_cons (me_bin op_addU os_add me_int (me_ix (me_var 1) (me_ix (me_ix (me_var 2) me_int) me_int))) ma_nil)))))))))
    (mss_one (ms_ret (me_var 1))))))
abbrev s_law_fresh : Stmt := top 43
theorem sc_law_fresh : FnScope ["_law_tables", "_law_table", "_law_known", "_law_base", "_law_many", "_law_numbers_here", "_law_heights_here", "_law_found", "_law_k", "_law_key"] ["_law_tables", "_law_table"] (defScope s_law_fresh) := ⟨rfl, rfl, rfl, by decide +kernel, rfl, by decide +kernel, by decide +kernel⟩
theorem c_law_fresh (G_law_fresh : GF K mg "_law_fresh" s_law_fresh ["_law_tables", "_law_table"]) (C_law_numbers : Cal P w K mg base "_law_numbers" 1 m_law_numbers) (C_law_heights : Cal P w K mg base "_law_heights" 1 m_law_heights) (n_len : mg "len" = none) (n_range : mg "range" = none) : Cal P w K mg base "_law_fresh" 2 m_law_fresh := cal_of G_law_fresh sc_law_fresh fun f cdv A outer s H E hr => (
    (mss_cons (ms_set sc_law_fresh.nd me_dnew)
    (mss_cons (ms_for passesE (mi_it (me_var 0)) (mg_one sc_law_fresh.nd) (mss_one (ms_expr (me_call C_law_numbers (hr.mono (by decide)) takesE (ma_cons (me_var 2) (ma_cons (me_var 3) ma_nil))))))
    (mss_cons (ms_set sc_law_fresh.nd (me_callB ML.call_lenD ML.cs_lenD PySem.boot_len n_len (ma_cons (me_var 2) ma_nil)))
    (mss_cons (ms_set sc_law_fresh.nd (me_call C_law_numbers (hr.mono (by decide)) takesE (ma_cons (me_var 2) (ma_cons (me_var 1) ma_nil))))
    (mss_cons (ms_set sc_law_fresh.nd (me_call C_law_heights (hr.mono (by decide)) takesE (ma_cons (me_var 1) ma_nil)))
    (mss_cons (ms_set sc_law_fresh.nd me_dnew)
    (mss_cons (ms_for passesE (mi_range1 (x := "range") n_range (ma_cons (me_callB call_len cs_len PySem.boot_len n_len (ma_cons (me_var 1) ma_nil)) ma_nil) (hn := cons1)) (mg_one sc_law_fresh.nd) (mss_one (ms_if (mt_cmp op_ge os_ge (me_ix (me_var 5) (me_var 8)) (me_var 4)) (mss_cons (ms_set sc_law_fresh.nd (me_tup (ma_cons (me_ix (me_ix (me_var 1) (me_var 8)) me_int) (ma_cons (me_ix (me_var 6) (me_var 8)) ma_nil))))
    (mss_one (me_dput (units_ok hr) (me_var 7) (me_var 9) (me_bin op_addU os_add (me_dget2 (units_ok hr) (me_var 7) (me_var 9) me_int ⟨rfl, rfl, rfl, rfl⟩) me_int)))) mss_nil)))
    (mss_one (ms_ret (me_var 7)))))))))))
abbrev s_law : Stmt := top 46
theorem sc_law : FnScope ["_law_script", "_law_tape_here", "_law_first", "_law_second", "_law_choice", "_law_rows", "_law_tables", "_law_row"] ["_law_script"] (defScope s_law) := ⟨rfl, rfl, rfl, by decide +kernel, rfl, by decide +kernel, by decide +kernel⟩
theorem c_law_body (C_law_tape : Cal P w K mg base "_law_tape" 1 m_law_tape) (C_law_spread : Cal P w K mg base "_law_spread" 7 m_law_spread) (C_law_contents : Cal P w K mg base "_law_contents" 6 m_law_contents) (C_law_draw : Cal P w K mg base "_law_draw" 1 m_law_draw) (C_table_of : Cal P w K mg base "table_of" 48 m_table_of) (C_law_fresh : Cal P w K mg base "_law_fresh" 2 m_law_fresh) (C_law_kept : Cal P w K mg base "_law_kept" 1 m_law_kept) (n_int : mg "int" = none) (n_tuple : mg "tuple" = none) {f : Addr} (cdv : Value) (A : Around) (outer : List PySem.Env) (s : Shared) (H : Hp) (E : XK) (hr : Room 48 (A.deeper (PyProof.Rows.envOfC "law" (defScope s_law) s.heap.objs.size f cdv))) : PSs (cxOf (L2.CX P w) P w K mg base ["_law_script", "_law_tape_here", "_law_first", "_law_second", "_law_choice", "_law_rows", "_law_tables", "_law_row"] "law" (defScope s_law) f cdv A outer s H E) (defBody s_law) (tS (cxOf (L2.CX P w) P w K mg base ["_law_script", "_law_tape_here", "_law_first", "_law_second", "_law_choice", "_law_rows", "_law_tables", "_law_row"] "law" (defScope s_law) f cdv A outer s H E) (fun c d _ H' => E c d H') ((mSeq (mSet 1 (mCall m_law_tape (mCons (mVar 0) mNil)))
    (mSeq (mSet 2 (mSl (mCall m_law_spread (mCons (mVar 1) mNil)) mNoPart (mPart (mC (.int 1000)))))
    (mSeq (mSet 3 (mCall m_law_contents (mCons (mVar 1) (mCons (mC (.int 60)) mNil))))
    (mSeq (mSet 4 (mCall m_law_draw (mCons (mVar 1) (mCons (mC (.int 8)) mNil))))
    (mSeq (mIfS (mGB (mBin eqA (mVar 4) (mC (.int 0)))) (mSet 3 (mSl (mCall m_law_spread (mCons (mVar 1) mNil)) mNoPart (mPart (mC (.int 1000))))) mNext)
    (mSeq (mIfS (mOr (mGB (mBin eqA (mVar 4) (mC (.int 1)))) (mGB (mBin eqA (mVar 4) (mC (.int 2))))) (mSet 3 (mSl (mVar 3) mNoPart (mPart (mC (.int 1))))) mNext)
    (mSeq (mIfS (mOr (mGB (mBin eqA (mVar 4) (mC (.int 3)))) (mGB (mBin eqA (mVar 4) (mC (.int 4))))) (mSet 3 (mSl (mVar 3) mNoPart (mPart (mC (.int 2))))) mNext)
    (mSeq (mSet 5 (mLst (mCons (mVar 2) (mCons (mVar 3) mNil))))
    (mSeq (mIfS (mGB (mBin eqA (mBin modA (mCa intA (mCons (mVar 4) mNil)) (mC (.int 2))) (mC (.int 1)))) (mSet 5 (mLst (mCons (mVar 3) (mCons (mVar 2) mNil)))) mNext)
    (mSeq (mSet 6 (mLc (mSrc (mVar 5)) (.one 7) [7] mYes (mCall m_table_of (mCons (mCa tupleA (mCons (mVar 7) mNil)) mNil))))
    (mRet (mCall m_law_kept (mCons (mCall m_law_fresh (mCons (mVar 6) (mCons (mCall m_table_of (mCons (mCa tupleA (mCons (mBin addA (mBin ixA (mVar 5) (mC (.int 0))) (mBin ixA (mVar 5) (mC (.int 1)))) mNil)) mNil)) mNil))) (mCons (mC (.int 11)) (mCons (mC (.int 7)) mNil))))))))))))))))) := (
    (mss_cons (ms_set sc_law.nd (me_call C_law_tape (hr.mono (by decide)) takesE (ma_cons (me_var 0) ma_nil)))
    (mss_cons (ms_set sc_law.nd (me_slice (me_call C_law_spread (hr.mono (by decide)) takesE (ma_cons (me_var 1) ma_nil)) mo_none (mo_some me_int)))
    (mss_cons (ms_set sc_law.nd (me_call C_law_contents (hr.mono (by decide)) takesE (ma_cons (me_var 1) (ma_cons me_int ma_nil))))
    (mss_cons (ms_set sc_law.nd (me_call C_law_draw (hr.mono (by decide)) takesE (ma_cons (me_var 1) (ma_cons me_int ma_nil))))
    (mss_cons (ms_if (mt_cmp (op_eqU (units_ok hr)) os_eq (me_var 4) me_int) (mss_one (ms_set sc_law.nd (me_slice (me_call C_law_spread (hr.mono (by decide)) takesE (ma_cons (me_var 1) ma_nil)) mo_none (mo_some me_int)))) mss_nil)
    (mss_cons (ms_if (L2.PW.pt (mw_or (mt_cmp (op_eqU (units_ok hr)) os_eq (me_var 4) me_int) (mw_or1 (mt_cmp (op_eqU (units_ok hr)) os_eq (me_var 4) me_int)))) (mss_one (ms_set sc_law.nd (me_slice (me_var 3) mo_none (mo_some me_int)))) mss_nil)
    (mss_cons (ms_if (L2.PW.pt (mw_or (mt_cmp (op_eqU (units_ok hr)) os_eq (me_var 4) me_int) (mw_or1 (mt_cmp (op_eqU (units_ok hr)) os_eq (me_var 4) me_int)))) (mss_one (ms_set sc_law.nd (me_slice (me_var 3) mo_none (mo_some me_int)))) mss_nil)
    (mss_cons (ms_set sc_law.nd (me_lst (ma_cons (me_var 2) (ma_cons (me_var 3) ma_nil))))
    (mss_cons (ms_if (mt_cmp (op_eqU (units_ok hr)) os_eq (me_bin op_modP os_mod (me_callTy call_int1 cs_int (by decide +kernel) n_int (ma_cons (me_var 4) ma_nil)) me_int) me_int) (mss_one (ms_set sc_law.nd (me_lst (ma_cons (me_var 3) (ma_cons (me_var 2) ma_nil))))) mss_nil)
    (mss_cons (ms_setLc [("_law_row", 7)] sc_law.nd (sw_true rfl rfl rfl (by decide +kernel)) (mi_it (me_var 5)) (blkOk_by (N := ["_law_script", "_law_tape_here", "_law_first", "_law_second", "_law_choice", "_law_rows", "_law_tables", "_law_row"]) (sc := defScope s_law) (own := [("_law_row", 7)]) (by decide +kernel)) (fun _ _ _ _ _ => (mg_one sc_law.nd)) (fun _ _ _ _ _ => mts_nil) (fun _ _ _ _ _ => (me_call C_table_of (hr.mono (by decide)) takes0 (ma_cons (me_callTy call_tupleP cs_tuple (by decide +kernel) n_tuple (ma_cons (me_var 7) ma_nil)) ma_nil))))
    (mss_one (ms_ret (me_call C_law_kept (hr.mono (by decide)) takesE (ma_cons (me_call C_law_fresh (hr.mono (by decide)) takesE (ma_cons (me_var 6) (ma_cons (me_call C_table_of (hr.mono (by decide)) takesE (ma_cons (me_callTy call_tupleP cs_tuple (by decide +kernel) n_tuple (ma_cons (me_bin op_addU os_add (me_ix (me_var 5) me_int) (me_ix (me_var 5) me_int)) ma_nil)) ma_nil)) ma_nil))) (ma_cons me_int (ma_cons me_int ma_nil)))))))))))))))))
end
theorem all_mk {P : Program} {w : World} {K : PySem.W.Frag} {h : Heap} {mg : Str → Option Value} {fa : Addr} (X : K.In h) (G : h.Ns mainGlobals mg) (hfa : mg "law" = some (.ref fa))
    {f1 : Addr} {od1 an1 : Option Addr} {sl1 : Array (Option Value)} {oc1 kV1 dc1 pm1 cd1 ct1 : Value} (a1 : PySem.W.nsIn K mainGlobals "_law_tape" = some (some (.ref f1))) (l1 : K.lookup f1 = some ⟨oc1, od1, .func (PySem.W.fnOf "_law_tape" "_law_tape" (defArgs s_law_tape) (defBody s_law_tape) (defScope s_law_tape) .none kV1 dc1 pm1 an1 cd1 ct1), sl1⟩) (e1 : PySem.W.codeIn K cd1 "_law_tape" = true) (k1 : PySem.W.keepIn K (.ref f1) = true)
    {f2 : Addr} {od2 an2 : Option Addr} {sl2 : Array (Option Value)} {oc2 kV2 dc2 pm2 cd2 ct2 : Value} (a2 : PySem.W.nsIn K mainGlobals "_law_draw" = some (some (.ref f2))) (l2 : K.lookup f2 = some ⟨oc2, od2, .func (PySem.W.fnOf "_law_draw" "_law_draw" (defArgs s_law_draw) (defBody s_law_draw) (defScope s_law_draw) .none kV2 dc2 pm2 an2 cd2 ct2), sl2⟩) (e2 : PySem.W.codeIn K cd2 "_law_draw" = true) (k2 : PySem.W.keepIn K (.ref f2) = true)
    {f3 : Addr} {od3 an3 : Option Addr} {sl3 : Array (Option Value)} {oc3 kV3 dc3 pm3 cd3 ct3 : Value} (a3 : PySem.W.nsIn K mainGlobals "_law_sign" = some (some (.ref f3))) (l3 : K.lookup f3 = some ⟨oc3, od3, .func (PySem.W.fnOf "_law_sign" "_law_sign" (defArgs s_law_sign) (defBody s_law_sign) (defScope s_law_sign) .none kV3 dc3 pm3 an3 cd3 ct3), sl3⟩) (e3 : PySem.W.codeIn K cd3 "_law_sign" = true) (k3 : PySem.W.keepIn K (.ref f3) = true)
    {f4 : Addr} {od4 an4 : Option Addr} {sl4 : Array (Option Value)} {oc4 kV4 dc4 pm4 cd4 ct4 : Value} (a4 : PySem.W.nsIn K mainGlobals "_law_word" = some (some (.ref f4))) (l4 : K.lookup f4 = some ⟨oc4, od4, .func (PySem.W.fnOf "_law_word" "_law_word" (defArgs s_law_word) (defBody s_law_word) (defScope s_law_word) .none kV4 dc4 pm4 an4 cd4 ct4), sl4⟩) (e4 : PySem.W.codeIn K cd4 "_law_word" = true) (k4 : PySem.W.keepIn K (.ref f4) = true)
    {f5 : Addr} {od5 an5 : Option Addr} {sl5 : Array (Option Value)} {oc5 kV5 dc5 pm5 cd5 ct5 : Value} (a5 : PySem.W.nsIn K mainGlobals "_law_scalar" = some (some (.ref f5))) (l5 : K.lookup f5 = some ⟨oc5, od5, .func (PySem.W.fnOf "_law_scalar" "_law_scalar" (defArgs s_law_scalar) (defBody s_law_scalar) (defScope s_law_scalar) .none kV5 dc5 pm5 an5 cd5 ct5), sl5⟩) (e5 : PySem.W.codeIn K cd5 "_law_scalar" = true) (k5 : PySem.W.keepIn K (.ref f5) = true)
    {f6 : Addr} {od6 an6 : Option Addr} {sl6 : Array (Option Value)} {oc6 kV6 dc6 pm6 cd6 ct6 : Value} (a6 : PySem.W.nsIn K mainGlobals "_law_element" = some (some (.ref f6))) (l6 : K.lookup f6 = some ⟨oc6, od6, .func (PySem.W.fnOf "_law_element" "_law_element" (defArgs s_law_element) (defBody s_law_element) (defScope s_law_element) .none kV6 dc6 pm6 an6 cd6 ct6), sl6⟩) (e6 : PySem.W.codeIn K cd6 "_law_element" = true) (k6 : PySem.W.keepIn K (.ref f6) = true)
    {f7 : Addr} {od7 an7 : Option Addr} {sl7 : Array (Option Value)} {oc7 kV7 dc7 pm7 cd7 ct7 : Value} (a7 : PySem.W.nsIn K mainGlobals "_law_contents" = some (some (.ref f7))) (l7 : K.lookup f7 = some ⟨oc7, od7, .func (PySem.W.fnOf "_law_contents" "_law_contents" (defArgs s_law_contents) (defBody s_law_contents) (defScope s_law_contents) .none kV7 dc7 pm7 an7 cd7 ct7), sl7⟩) (e7 : PySem.W.codeIn K cd7 "_law_contents" = true) (k7 : PySem.W.keepIn K (.ref f7) = true)
    {f8 : Addr} {od8 an8 : Option Addr} {sl8 : Array (Option Value)} {oc8 kV8 dc8 pm8 cd8 ct8 : Value} (a8 : PySem.W.nsIn K mainGlobals "_law_kept" = some (some (.ref f8))) (l8 : K.lookup f8 = some ⟨oc8, od8, .func (PySem.W.fnOf "_law_kept" "_law_kept" (defArgs s_law_kept) (defBody s_law_kept) (defScope s_law_kept) .none kV8 dc8 pm8 an8 cd8 ct8), sl8⟩) (e8 : PySem.W.codeIn K cd8 "_law_kept" = true) (k8 : PySem.W.keepIn K (.ref f8) = true)
    {f9 : Addr} {od9 an9 : Option Addr} {sl9 : Array (Option Value)} {oc9 kV9 dc9 pm9 cd9 ct9 : Value} (a9 : PySem.W.nsIn K mainGlobals "_law_large" = some (some (.ref f9))) (l9 : K.lookup f9 = some ⟨oc9, od9, .func (PySem.W.fnOf "_law_large" "_law_large" (defArgs s_law_large) (defBody s_law_large) (defScope s_law_large) .none kV9 dc9 pm9 an9 cd9 ct9), sl9⟩) (e9 : PySem.W.codeIn K cd9 "_law_large" = true) (k9 : PySem.W.keepIn K (.ref f9) = true)
    {f10 : Addr} {od10 an10 : Option Addr} {sl10 : Array (Option Value)} {oc10 kV10 dc10 pm10 cd10 ct10 : Value} (a10 : PySem.W.nsIn K mainGlobals "_law_spread" = some (some (.ref f10))) (l10 : K.lookup f10 = some ⟨oc10, od10, .func (PySem.W.fnOf "_law_spread" "_law_spread" (defArgs s_law_spread) (defBody s_law_spread) (defScope s_law_spread) .none kV10 dc10 pm10 an10 cd10 ct10), sl10⟩) (e10 : PySem.W.codeIn K cd10 "_law_spread" = true) (k10 : PySem.W.keepIn K (.ref f10) = true)
    {C_NodeTable : Addr} (c1_NodeTable : PySem.W.nsIn K mainGlobals "NodeTable" = some (some (.ref C_NodeTable)))
    (pg_NodeTable : PySem.W.plainGet K C_NodeTable Str.empty = true)
    (hd_NodeTable : PySem.W.hasDictIn K C_NodeTable = true)
    (po_NodeTable : PySem.W.plainOver K C_NodeTable = true)
    (sa_NodeTable : PySem.W.findIn K (.ref C_NodeTable) "__setattr__" = some (some (.builtin "object.__setattr__")))
    (mk_NodeTable : PySem.W.makesIn K C_NodeTable = true)
    (kp_NodeTable : PySem.W.keepIn K (.ref C_NodeTable) = true)
    {f11 : Addr} {od11 an11 : Option Addr} {sl11 : Array (Option Value)} {oc11 kV11 dc11 pm11 cd11 ct11 : Value} (a11 : PySem.W.findIn K (.ref C_NodeTable) "__init__" = some (some (.ref f11))) (l11 : K.lookup f11 = some ⟨oc11, od11, .func (PySem.W.fnOf "__init__" "NodeTable.__init__" (defArgs s_NodeTable___init__) (defBody s_NodeTable___init__) (defScope s_NodeTable___init__) .none kV11 dc11 pm11 an11 cd11 ct11), sl11⟩) (e11 : PySem.W.codeIn K cd11 "NodeTable.__init__" = true) (k11 : PySem.W.keepIn K (.ref f11) = true)
    (i11 : PySem.W.isFn K (.ref f11) = true)
    {f12 : Addr} {od12 an12 : Option Addr} {sl12 : Array (Option Value)} {oc12 kV12 dc12 pm12 cd12 ct12 : Value} (a12 : PySem.W.nsIn K mainGlobals "digits_of" = some (some (.ref f12))) (l12 : K.lookup f12 = some ⟨oc12, od12, .func (PySem.W.fnOf "digits_of" "digits_of" (defArgs s_digits_of) (defBody s_digits_of) (defScope s_digits_of) .none kV12 dc12 pm12 an12 cd12 ct12), sl12⟩) (e12 : PySem.W.codeIn K cd12 "digits_of" = true) (k12 : PySem.W.keepIn K (.ref f12) = true)
    {f13 : Addr} {od13 an13 : Option Addr} {sl13 : Array (Option Value)} {oc13 kV13 dc13 pm13 cd13 ct13 : Value} (a13 : PySem.W.nsIn K mainGlobals "code_of" = some (some (.ref f13))) (l13 : K.lookup f13 = some ⟨oc13, od13, .func (PySem.W.fnOf "code_of" "code_of" (defArgs s_code_of) (defBody s_code_of) (defScope s_code_of) .none kV13 dc13 pm13 an13 cd13 ct13), sl13⟩) (e13 : PySem.W.codeIn K cd13 "code_of" = true) (k13 : PySem.W.keepIn K (.ref f13) = true)
    {f14 : Addr} {od14 an14 : Option Addr} {sl14 : Array (Option Value)} {oc14 kV14 dc14 pm14 cd14 ct14 : Value} (a14 : PySem.W.nsIn K mainGlobals "run_code" = some (some (.ref f14))) (l14 : K.lookup f14 = some ⟨oc14, od14, .func (PySem.W.fnOf "run_code" "run_code" (defArgs s_run_code) (defBody s_run_code) (defScope s_run_code) .none kV14 dc14 pm14 an14 cd14 ct14), sl14⟩) (e14 : PySem.W.codeIn K cd14 "run_code" = true) (k14 : PySem.W.keepIn K (.ref f14) = true)
    {f15 : Addr} {od15 an15 : Option Addr} {sl15 : Array (Option Value)} {oc15 kV15 dc15 pm15 cd15 ct15 : Value} (a15 : PySem.W.nsIn K mainGlobals "block_code" = some (some (.ref f15))) (l15 : K.lookup f15 = some ⟨oc15, od15, .func (PySem.W.fnOf "block_code" "block_code" (defArgs s_block_code) (defBody s_block_code) (defScope s_block_code) .none kV15 dc15 pm15 an15 cd15 ct15), sl15⟩) (e15 : PySem.W.codeIn K cd15 "block_code" = true) (k15 : PySem.W.keepIn K (.ref f15) = true)
    {f16 : Addr} {od16 an16 : Option Addr} {sl16 : Array (Option Value)} {oc16 kV16 dc16 pm16 cd16 ct16 : Value} (a16 : PySem.W.findIn K (.ref C_NodeTable) "measure" = some (some (.ref f16))) (l16 : K.lookup f16 = some ⟨oc16, od16, .func (PySem.W.fnOf "measure" "NodeTable.measure" (defArgs s_NodeTable_measure) (defBody s_NodeTable_measure) (defScope s_NodeTable_measure) .none kV16 dc16 pm16 an16 cd16 ct16), sl16⟩) (e16 : PySem.W.codeIn K cd16 "NodeTable.measure" = true) (k16 : PySem.W.keepIn K (.ref f16) = true)
    (i16 : PySem.W.isFn K (.ref f16) = true)
    {f17 : Addr} {od17 an17 : Option Addr} {sl17 : Array (Option Value)} {oc17 kV17 dc17 pm17 cd17 ct17 : Value} (a17 : PySem.W.findIn K (.ref C_NodeTable) "number_of" = some (some (.ref f17))) (l17 : K.lookup f17 = some ⟨oc17, od17, .func (PySem.W.fnOf "number_of" "NodeTable.number_of" (defArgs s_NodeTable_number_of) (defBody s_NodeTable_number_of) (defScope s_NodeTable_number_of) .none kV17 dc17 pm17 an17 cd17 ct17), sl17⟩) (e17 : PySem.W.codeIn K cd17 "NodeTable.number_of" = true) (k17 : PySem.W.keepIn K (.ref f17) = true)
    (i17 : PySem.W.isFn K (.ref f17) = true)
    {f18 : Addr} {od18 an18 : Option Addr} {sl18 : Array (Option Value)} {oc18 kV18 dc18 pm18 cd18 ct18 : Value} (a18 : PySem.W.nsIn K mainGlobals "leaf_row" = some (some (.ref f18))) (l18 : K.lookup f18 = some ⟨oc18, od18, .func (PySem.W.fnOf "leaf_row" "leaf_row" (defArgs s_leaf_row) (defBody s_leaf_row) (defScope s_leaf_row) .none kV18 dc18 pm18 an18 cd18 ct18), sl18⟩) (e18 : PySem.W.codeIn K cd18 "leaf_row" = true) (k18 : PySem.W.keepIn K (.ref f18) = true)
    {f19 : Addr} {od19 an19 : Option Addr} {sl19 : Array (Option Value)} {oc19 kV19 dc19 pm19 cd19 ct19 : Value} (a19 : PySem.W.findIn K (.ref C_NodeTable) "item_number" = some (some (.ref f19))) (l19 : K.lookup f19 = some ⟨oc19, od19, .func (PySem.W.fnOf "item_number" "NodeTable.item_number" (defArgs s_NodeTable_item_number) (defBody s_NodeTable_item_number) (defScope s_NodeTable_item_number) .none kV19 dc19 pm19 an19 cd19 ct19), sl19⟩) (e19 : PySem.W.codeIn K cd19 "NodeTable.item_number" = true) (k19 : PySem.W.keepIn K (.ref f19) = true)
    (i19 : PySem.W.isFn K (.ref f19) = true)
    {f20 : Addr} {od20 an20 : Option Addr} {sl20 : Array (Option Value)} {oc20 kV20 dc20 pm20 cd20 ct20 : Value} (a20 : PySem.W.nsIn K mainGlobals "groups_of" = some (some (.ref f20))) (l20 : K.lookup f20 = some ⟨oc20, od20, .func (PySem.W.fnOf "groups_of" "groups_of" (defArgs s_groups_of) (defBody s_groups_of) (defScope s_groups_of) .none kV20 dc20 pm20 an20 cd20 ct20), sl20⟩) (e20 : PySem.W.codeIn K cd20 "groups_of" = true) (k20 : PySem.W.keepIn K (.ref f20) = true)
    {f21 : Addr} {od21 an21 : Option Addr} {sl21 : Array (Option Value)} {oc21 kV21 dc21 pm21 cd21 ct21 : Value} (a21 : PySem.W.nsIn K mainGlobals "item_row" = some (some (.ref f21))) (l21 : K.lookup f21 = some ⟨oc21, od21, .func (PySem.W.fnOf "item_row" "item_row" (defArgs s_item_row) (defBody s_item_row) (defScope s_item_row) .none kV21 dc21 pm21 an21 cd21 ct21), sl21⟩) (e21 : PySem.W.codeIn K cd21 "item_row" = true) (k21 : PySem.W.keepIn K (.ref f21) = true)
    {f22 : Addr} {od22 an22 : Option Addr} {sl22 : Array (Option Value)} {oc22 kV22 dc22 pm22 cd22 ct22 : Value} (a22 : PySem.W.nsIn K mainGlobals "mix" = some (some (.ref f22))) (l22 : K.lookup f22 = some ⟨oc22, od22, .func (PySem.W.fnOf "mix" "mix" (defArgs s_mix) (defBody s_mix) (defScope s_mix) .none kV22 dc22 pm22 an22 cd22 ct22), sl22⟩) (e22 : PySem.W.codeIn K cd22 "mix" = true) (k22 : PySem.W.keepIn K (.ref f22) = true)
    {f23 : Addr} {od23 an23 : Option Addr} {sl23 : Array (Option Value)} {oc23 kV23 dc23 pm23 cd23 ct23 : Value} (a23 : PySem.W.nsIn K mainGlobals "one_round" = some (some (.ref f23))) (l23 : K.lookup f23 = some ⟨oc23, od23, .func (PySem.W.fnOf "one_round" "one_round" (defArgs s_one_round) (defBody s_one_round) (defScope s_one_round) .none kV23 dc23 pm23 an23 cd23 ct23), sl23⟩) (e23 : PySem.W.codeIn K cd23 "one_round" = true) (k23 : PySem.W.keepIn K (.ref f23) = true)
    {f24 : Addr} {od24 an24 : Option Addr} {sl24 : Array (Option Value)} {oc24 kV24 dc24 pm24 cd24 ct24 : Value} (a24 : PySem.W.nsIn K mainGlobals "colors_of_coins" = some (some (.ref f24))) (l24 : K.lookup f24 = some ⟨oc24, od24, .func (PySem.W.fnOf "colors_of_coins" "colors_of_coins" (defArgs s_colors_of_coins) (defBody s_colors_of_coins) (defScope s_colors_of_coins) .none kV24 dc24 pm24 an24 cd24 ct24), sl24⟩) (e24 : PySem.W.codeIn K cd24 "colors_of_coins" = true) (k24 : PySem.W.keepIn K (.ref f24) = true)
    {f25 : Addr} {od25 an25 : Option Addr} {sl25 : Array (Option Value)} {oc25 kV25 dc25 pm25 cd25 ct25 : Value} (a25 : PySem.W.nsIn K mainGlobals "first_difference" = some (some (.ref f25))) (l25 : K.lookup f25 = some ⟨oc25, od25, .func (PySem.W.fnOf "first_difference" "first_difference" (defArgs s_first_difference) (defBody s_first_difference) (defScope s_first_difference) .none kV25 dc25 pm25 an25 cd25 ct25), sl25⟩) (e25 : PySem.W.codeIn K cd25 "first_difference" = true) (k25 : PySem.W.keepIn K (.ref f25) = true)
    {f26 : Addr} {od26 an26 : Option Addr} {sl26 : Array (Option Value)} {oc26 kV26 dc26 pm26 cd26 ct26 : Value} (a26 : PySem.W.nsIn K mainGlobals "coin_after" = some (some (.ref f26))) (l26 : K.lookup f26 = some ⟨oc26, od26, .func (PySem.W.fnOf "coin_after" "coin_after" (defArgs s_coin_after) (defBody s_coin_after) (defScope s_coin_after) .none kV26 dc26 pm26 an26 cd26 ct26), sl26⟩) (e26 : PySem.W.codeIn K cd26 "coin_after" = true) (k26 : PySem.W.keepIn K (.ref f26) = true)
    {f27 : Addr} {od27 an27 : Option Addr} {sl27 : Array (Option Value)} {oc27 kV27 dc27 pm27 cd27 ct27 : Value} (a27 : PySem.W.nsIn K mainGlobals "coins_of_codes" = some (some (.ref f27))) (l27 : K.lookup f27 = some ⟨oc27, od27, .func (PySem.W.fnOf "coins_of_codes" "coins_of_codes" (defArgs s_coins_of_codes) (defBody s_coins_of_codes) (defScope s_coins_of_codes) .none kV27 dc27 pm27 an27 cd27 ct27), sl27⟩) (e27 : PySem.W.codeIn K cd27 "coins_of_codes" = true) (k27 : PySem.W.keepIn K (.ref f27) = true)
    {f28 : Addr} {od28 an28 : Option Addr} {sl28 : Array (Option Value)} {oc28 kV28 dc28 pm28 cd28 ct28 : Value} (a28 : PySem.W.nsIn K mainGlobals "color_row" = some (some (.ref f28))) (l28 : K.lookup f28 = some ⟨oc28, od28, .func (PySem.W.fnOf "color_row" "color_row" (defArgs s_color_row) (defBody s_color_row) (defScope s_color_row) .none kV28 dc28 pm28 an28 cd28 ct28), sl28⟩) (e28 : PySem.W.codeIn K cd28 "color_row" = true) (k28 : PySem.W.keepIn K (.ref f28) = true)
    {f29 : Addr} {od29 an29 : Option Addr} {sl29 : Array (Option Value)} {oc29 kV29 dc29 pm29 cd29 ct29 : Value} (a29 : PySem.W.nsIn K mainGlobals "is_peak" = some (some (.ref f29))) (l29 : K.lookup f29 = some ⟨oc29, od29, .func (PySem.W.fnOf "is_peak" "is_peak" (defArgs s_is_peak) (defBody s_is_peak) (defScope s_is_peak) .none kV29 dc29 pm29 an29 cd29 ct29), sl29⟩) (e29 : PySem.W.codeIn K cd29 "is_peak" = true) (k29 : PySem.W.keepIn K (.ref f29) = true)
    {f30 : Addr} {od30 an30 : Option Addr} {sl30 : Array (Option Value)} {oc30 kV30 dc30 pm30 cd30 ct30 : Value} (a30 : PySem.W.nsIn K mainGlobals "starts_of" = some (some (.ref f30))) (l30 : K.lookup f30 = some ⟨oc30, od30, .func (PySem.W.fnOf "starts_of" "starts_of" (defArgs s_starts_of) (defBody s_starts_of) (defScope s_starts_of) .none kV30 dc30 pm30 an30 cd30 ct30), sl30⟩) (e30 : PySem.W.codeIn K cd30 "starts_of" = true) (k30 : PySem.W.keepIn K (.ref f30) = true)
    {f31 : Addr} {od31 an31 : Option Addr} {sl31 : Array (Option Value)} {oc31 kV31 dc31 pm31 cd31 ct31 : Value} (a31 : PySem.W.nsIn K mainGlobals "cut" = some (some (.ref f31))) (l31 : K.lookup f31 = some ⟨oc31, od31, .func (PySem.W.fnOf "cut" "cut" (defArgs s_cut) (defBody s_cut) (defScope s_cut) .none kV31 dc31 pm31 an31 cd31 ct31), sl31⟩) (e31 : PySem.W.codeIn K cd31 "cut" = true) (k31 : PySem.W.keepIn K (.ref f31) = true)
    {f32 : Addr} {od32 an32 : Option Addr} {sl32 : Array (Option Value)} {oc32 kV32 dc32 pm32 cd32 ct32 : Value} (a32 : PySem.W.nsIn K mainGlobals "grow" = some (some (.ref f32))) (l32 : K.lookup f32 = some ⟨oc32, od32, .func (PySem.W.fnOf "grow" "grow" (defArgs s_grow) (defBody s_grow) (defScope s_grow) .none kV32 dc32 pm32 an32 cd32 ct32), sl32⟩) (e32 : PySem.W.codeIn K cd32 "grow" = true) (k32 : PySem.W.keepIn K (.ref f32) = true)
    {f33 : Addr} {od33 an33 : Option Addr} {sl33 : Array (Option Value)} {oc33 kV33 dc33 pm33 cd33 ct33 : Value} (a33 : PySem.W.nsIn K mainGlobals "add_tree" = some (some (.ref f33))) (l33 : K.lookup f33 = some ⟨oc33, od33, .func (PySem.W.fnOf "add_tree" "add_tree" (defArgs s_add_tree) (defBody s_add_tree) (defScope s_add_tree) .none kV33 dc33 pm33 an33 cd33 ct33), sl33⟩) (e33 : PySem.W.codeIn K cd33 "add_tree" = true) (k33 : PySem.W.keepIn K (.ref f33) = true)
    {f34 : Addr} {od34 an34 : Option Addr} {sl34 : Array (Option Value)} {oc34 kV34 dc34 pm34 cd34 ct34 : Value} (a34 : PySem.W.nsIn K mainGlobals "list_nodes" = some (some (.ref f34))) (l34 : K.lookup f34 = some ⟨oc34, od34, .func (PySem.W.fnOf "list_nodes" "list_nodes" (defArgs s_list_nodes) (defBody s_list_nodes) (defScope s_list_nodes) .none kV34 dc34 pm34 an34 cd34 ct34), sl34⟩) (e34 : PySem.W.codeIn K cd34 "list_nodes" = true) (k34 : PySem.W.keepIn K (.ref f34) = true)
    {f35 : Addr} {od35 an35 : Option Addr} {sl35 : Array (Option Value)} {oc35 kV35 dc35 pm35 cd35 ct35 : Value} (a35 : PySem.W.nsIn K mainGlobals "placed" = some (some (.ref f35))) (l35 : K.lookup f35 = some ⟨oc35, od35, .func (PySem.W.fnOf "placed" "placed" (defArgs s_placed) (defBody s_placed) (defScope s_placed) .none kV35 dc35 pm35 an35 cd35 ct35), sl35⟩) (e35 : PySem.W.codeIn K cd35 "placed" = true) (k35 : PySem.W.keepIn K (.ref f35) = true)
    {f36 : Addr} {od36 an36 : Option Addr} {sl36 : Array (Option Value)} {oc36 kV36 dc36 pm36 cd36 ct36 : Value} (a36 : PySem.W.nsIn K mainGlobals "table_of" = some (some (.ref f36))) (l36 : K.lookup f36 = some ⟨oc36, od36, .func (PySem.W.fnOf "table_of" "table_of" (defArgs s_table_of) (defBody s_table_of) (defScope s_table_of) .none kV36 dc36 pm36 an36 cd36 ct36), sl36⟩) (e36 : PySem.W.codeIn K cd36 "table_of" = true) (k36 : PySem.W.keepIn K (.ref f36) = true)
    {f37 : Addr} {od37 an37 : Option Addr} {sl37 : Array (Option Value)} {oc37 kV37 dc37 pm37 cd37 ct37 : Value} (a37 : PySem.W.nsIn K mainGlobals "_law_numbers" = some (some (.ref f37))) (l37 : K.lookup f37 = some ⟨oc37, od37, .func (PySem.W.fnOf "_law_numbers" "_law_numbers" (defArgs s_law_numbers) (defBody s_law_numbers) (defScope s_law_numbers) .none kV37 dc37 pm37 an37 cd37 ct37), sl37⟩) (e37 : PySem.W.codeIn K cd37 "_law_numbers" = true) (k37 : PySem.W.keepIn K (.ref f37) = true)
    {f38 : Addr} {od38 an38 : Option Addr} {sl38 : Array (Option Value)} {oc38 kV38 dc38 pm38 cd38 ct38 : Value} (a38 : PySem.W.nsIn K mainGlobals "_law_heights" = some (some (.ref f38))) (l38 : K.lookup f38 = some ⟨oc38, od38, .func (PySem.W.fnOf "_law_heights" "_law_heights" (defArgs s_law_heights) (defBody s_law_heights) (defScope s_law_heights) .none kV38 dc38 pm38 an38 cd38 ct38), sl38⟩) (e38 : PySem.W.codeIn K cd38 "_law_heights" = true) (k38 : PySem.W.keepIn K (.ref f38) = true)
    {f39 : Addr} {od39 an39 : Option Addr} {sl39 : Array (Option Value)} {oc39 kV39 dc39 pm39 cd39 ct39 : Value} (a39 : PySem.W.nsIn K mainGlobals "_law_fresh" = some (some (.ref f39))) (l39 : K.lookup f39 = some ⟨oc39, od39, .func (PySem.W.fnOf "_law_fresh" "_law_fresh" (defArgs s_law_fresh) (defBody s_law_fresh) (defScope s_law_fresh) .none kV39 dc39 pm39 an39 cd39 ct39), sl39⟩) (e39 : PySem.W.codeIn K cd39 "_law_fresh" = true) (k39 : PySem.W.keepIn K (.ref f39) = true)
    {f40 : Addr} {od40 an40 : Option Addr} {sl40 : Array (Option Value)} {oc40 kV40 dc40 pm40 cd40 ct40 : Value} (a40 : PySem.W.nsIn K mainGlobals "law" = some (some (.ref f40))) (l40 : K.lookup f40 = some ⟨oc40, od40, .func (PySem.W.fnOf "law" "law" (defArgs s_law) (defBody s_law) (defScope s_law) .none kV40 dc40 pm40 an40 cd40 ct40), sl40⟩) (e40 : PySem.W.codeIn K cd40 "law" = true) (k40 : PySem.W.keepIn K (.ref f40) = true)
    (z_int : PySem.W.nsIn K mainGlobals "int" = some none)
    (z_abs : PySem.W.nsIn K mainGlobals "abs" = some none)
    (z_list : PySem.W.nsIn K mainGlobals "list" = some none)
    (z_len : PySem.W.nsIn K mainGlobals "len" = some none)
    (z_max : PySem.W.nsIn K mainGlobals "max" = some none)
    (z_range : PySem.W.nsIn K mainGlobals "range" = some none)
    (nf_NodeTable_numbers : PySem.W.findIn K (.ref C_NodeTable) "numbers" = some none)
    (nf_NodeTable_entries : PySem.W.findIn K (.ref C_NodeTable) "entries" = some none)
    (nf_NodeTable_codes : PySem.W.findIn K (.ref C_NodeTable) "codes" = some none)
    (nf_NodeTable_sizes : PySem.W.findIn K (.ref C_NodeTable) "sizes" = some none)
    {u_DIGIT : Tok} (z_DIGIT : PySem.W.nsIn K mainGlobals "DIGIT" = some (some (.int 65536 u_DIGIT)))
    (z_isinstance : PySem.W.nsIn K mainGlobals "isinstance" = some none)
    (z_tuple : PySem.W.nsIn K mainGlobals "tuple" = some none)
    (z_str : PySem.W.nsIn K mainGlobals "str" = some none)
    (z_ord : PySem.W.nsIn K mainGlobals "ord" = some none)
    (z_sum : PySem.W.nsIn K mainGlobals "sum" = some none)
    (z_zip : PySem.W.nsIn K mainGlobals "zip" = some none)
    {u_ROUNDS : Tok} (z_ROUNDS : PySem.W.nsIn K mainGlobals "ROUNDS" = some (some (.int 4 u_ROUNDS))) :
    ∃ fd : FuncData, (∀ (s : Shared) (v : Value), BindsTo s fd ⟨[v], []⟩ [("_law_script", v)]) ∧ ∀ base : Heap, K.In base → base.Ns mainGlobals mg → FnOk P w K mg base (L2.CX P w) 49 fa fd ["_law_script"] (spM K w mg m_law) := by
  have F1 := fun_mk (st := s_law_tape) l1 e1 k1
  have b1 := F1.binds (ps := ["_law_script"]) fun _ _ _ _ _ _ us hl => match us, hl with | [_], _ => rfl
  have G_law_tape : GF K mg "_law_tape" s_law_tape ["_law_script"] := ⟨_, _, PySem.W.mg_of X G a1, F1, b1⟩
  have F2 := fun_mk (st := s_law_draw) l2 e2 k2
  have b2 := F2.binds (ps := ["_law_tape_here", "_law_many"]) fun _ _ _ _ _ _ us hl => match us, hl with | [_, _], _ => rfl
  have G_law_draw : GF K mg "_law_draw" s_law_draw ["_law_tape_here", "_law_many"] := ⟨_, _, PySem.W.mg_of X G a2, F2, b2⟩
  have F3 := fun_mk (st := s_law_sign) l3 e3 k3
  have b3 := F3.binds (ps := ["_law_tape_here"]) fun _ _ _ _ _ _ us hl => match us, hl with | [_], _ => rfl
  have G_law_sign : GF K mg "_law_sign" s_law_sign ["_law_tape_here"] := ⟨_, _, PySem.W.mg_of X G a3, F3, b3⟩
  have F4 := fun_mk (st := s_law_word) l4 e4 k4
  have b4 := F4.binds (ps := ["_law_tape_here"]) fun _ _ _ _ _ _ us hl => match us, hl with | [_], _ => rfl
  have G_law_word : GF K mg "_law_word" s_law_word ["_law_tape_here"] := ⟨_, _, PySem.W.mg_of X G a4, F4, b4⟩
  have F5 := fun_mk (st := s_law_scalar) l5 e5 k5
  have b5 := F5.binds (ps := ["_law_tape_here"]) fun _ _ _ _ _ _ us hl => match us, hl with | [_], _ => rfl
  have G_law_scalar : GF K mg "_law_scalar" s_law_scalar ["_law_tape_here"] := ⟨_, _, PySem.W.mg_of X G a5, F5, b5⟩
  have F6 := fun_mk (st := s_law_element) l6 e6 k6
  have b6 := F6.binds (ps := ["_law_tape_here"]) fun _ _ _ _ _ _ us hl => match us, hl with | [_], _ => rfl
  have G_law_element : GF K mg "_law_element" s_law_element ["_law_tape_here"] := ⟨_, _, PySem.W.mg_of X G a6, F6, b6⟩
  have F7 := fun_mk (st := s_law_contents) l7 e7 k7
  have b7 := F7.binds (ps := ["_law_tape_here", "_law_most"]) fun _ _ _ _ _ _ us hl => match us, hl with | [_, _], _ => rfl
  have G_law_contents : GF K mg "_law_contents" s_law_contents ["_law_tape_here", "_law_most"] := ⟨_, _, PySem.W.mg_of X G a7, F7, b7⟩
  have F8 := fun_mk (st := s_law_kept) l8 e8 k8
  have b8 := F8.binds (ps := ["_law_found", "_law_blocks", "_law_runs"]) fun _ _ _ _ _ _ us hl => match us, hl with | [_, _, _], _ => rfl
  have G_law_kept : GF K mg "_law_kept" s_law_kept ["_law_found", "_law_blocks", "_law_runs"] := ⟨_, _, PySem.W.mg_of X G a8, F8, b8⟩
  have F9 := fun_mk (st := s_law_large) l9 e9 k9
  have b9 := F9.binds (ps := ["_law_tape_here", "_law_size"]) fun _ _ _ _ _ _ us hl => match us, hl with | [_, _], _ => rfl
  have G_law_large : GF K mg "_law_large" s_law_large ["_law_tape_here", "_law_size"] := ⟨_, _, PySem.W.mg_of X G a9, F9, b9⟩
  have F10 := fun_mk (st := s_law_spread) l10 e10 k10
  have b10 := F10.binds (ps := ["_law_tape_here"]) fun _ _ _ _ _ _ us hl => match us, hl with | [_], _ => rfl
  have G_law_spread : GF K mg "_law_spread" s_law_spread ["_law_tape_here"] := ⟨_, _, PySem.W.mg_of X G a10, F10, b10⟩
  have F11 := fun_mk (st := s_NodeTable___init__) l11 e11 k11
  have b11 := F11.binds (ps := ["self"]) fun _ _ _ _ _ _ us hl => match us, hl with | [_], _ => rfl
  have G_NodeTable___init__ : GI K mg "NodeTable" "NodeTable.__init__" s_NodeTable___init__ ["self"] := ⟨_, _, _, PySem.W.mg_of X G c1_NodeTable, ⟨mk_NodeTable, a11, i11, kp_NodeTable⟩, F11, b11⟩
  have F12 := fun_mk (st := s_digits_of) l12 e12 k12
  have b12 := F12.binds (ps := ["number", "count"]) fun _ _ _ _ _ _ us hl => match us, hl with | [_, _], _ => rfl
  have G_digits_of : GF K mg "digits_of" s_digits_of ["number", "count"] := ⟨_, _, PySem.W.mg_of X G a12, F12, b12⟩
  have F13 := fun_mk (st := s_code_of) l13 e13 k13
  have b13 := F13.binds (ps := ["element"]) fun _ _ _ _ _ _ us hl => match us, hl with | [_], _ => rfl
  have G_code_of : GF K mg "code_of" s_code_of ["element"] := ⟨_, _, PySem.W.mg_of X G a13, F13, b13⟩
  have F14 := fun_mk (st := s_run_code) l14 e14 k14
  have b14 := F14.binds (ps := ["times", "child_code"]) fun _ _ _ _ _ _ us hl => match us, hl with | [_, _], _ => rfl
  have G_run_code : GF K mg "run_code" s_run_code ["times", "child_code"] := ⟨_, _, PySem.W.mg_of X G a14, F14, b14⟩
  have F15 := fun_mk (st := s_block_code) l15 e15 k15
  have b15 := F15.binds (ps := ["child_codes"]) fun _ _ _ _ _ _ us hl => match us, hl with | [_], _ => rfl
  have G_block_code : GF K mg "block_code" s_block_code ["child_codes"] := ⟨_, _, PySem.W.mg_of X G a15, F15, b15⟩
  have F16 := fun_mk (st := s_NodeTable_measure) l16 e16 k16
  have b16 := F16.binds (ps := ["self", "entry"]) fun _ _ _ _ _ _ us hl => match us, hl with | [_, _], _ => rfl
  have G_NodeTable_measure : GM K mg "NodeTable" "measure" "NodeTable.measure" s_NodeTable_measure ["self", "entry"] := ⟨_, _, _, PySem.W.mg_of X G c1_NodeTable, ⟨pg_NodeTable, hd_NodeTable, po_NodeTable, sa_NodeTable⟩, ⟨a16, i16, k16⟩, F16, b16⟩
  have F17 := fun_mk (st := s_NodeTable_number_of) l17 e17 k17
  have b17 := F17.binds (ps := ["self", "entry"]) fun _ _ _ _ _ _ us hl => match us, hl with | [_, _], _ => rfl
  have G_NodeTable_number_of : GM K mg "NodeTable" "number_of" "NodeTable.number_of" s_NodeTable_number_of ["self", "entry"] := ⟨_, _, _, PySem.W.mg_of X G c1_NodeTable, ⟨pg_NodeTable, hd_NodeTable, po_NodeTable, sa_NodeTable⟩, ⟨a17, i17, k17⟩, F17, b17⟩
  have F18 := fun_mk (st := s_leaf_row) l18 e18 k18
  have b18 := F18.binds (ps := ["table", "contents"]) fun _ _ _ _ _ _ us hl => match us, hl with | [_, _], _ => rfl
  have G_leaf_row : GF K mg "leaf_row" s_leaf_row ["table", "contents"] := ⟨_, _, PySem.W.mg_of X G a18, F18, b18⟩
  have F19 := fun_mk (st := s_NodeTable_item_number) l19 e19 k19
  have b19 := F19.binds (ps := ["self", "number", "times"]) fun _ _ _ _ _ _ us hl => match us, hl with | [_, _, _], _ => rfl
  have G_NodeTable_item_number : GM K mg "NodeTable" "item_number" "NodeTable.item_number" s_NodeTable_item_number ["self", "number", "times"] := ⟨_, _, _, PySem.W.mg_of X G c1_NodeTable, ⟨pg_NodeTable, hd_NodeTable, po_NodeTable, sa_NodeTable⟩, ⟨a19, i19, k19⟩, F19, b19⟩
  have F20 := fun_mk (st := s_groups_of) l20 e20 k20
  have b20 := F20.binds (ps := ["row"]) fun _ _ _ _ _ _ us hl => match us, hl with | [_], _ => rfl
  have G_groups_of : GF K mg "groups_of" s_groups_of ["row"] := ⟨_, _, PySem.W.mg_of X G a20, F20, b20⟩
  have F21 := fun_mk (st := s_item_row) l21 e21 k21
  have b21 := F21.binds (ps := ["table", "row"]) fun _ _ _ _ _ _ us hl => match us, hl with | [_, _], _ => rfl
  have G_item_row : GF K mg "item_row" s_item_row ["table", "row"] := ⟨_, _, PySem.W.mg_of X G a21, F21, b21⟩
  have F22 := fun_mk (st := s_mix) l22 e22 k22
  have b22 := F22.binds (ps := ["a", "b"]) fun _ _ _ _ _ _ us hl => match us, hl with | [_, _], _ => rfl
  have G_mix : GF K mg "mix" s_mix ["a", "b"] := ⟨_, _, PySem.W.mg_of X G a22, F22, b22⟩
  have F23 := fun_mk (st := s_one_round) l23 e23 k23
  have b23 := F23.binds (ps := ["numbers"]) fun _ _ _ _ _ _ us hl => match us, hl with | [_], _ => rfl
  have G_one_round : GF K mg "one_round" s_one_round ["numbers"] := ⟨_, _, PySem.W.mg_of X G a23, F23, b23⟩
  have F24 := fun_mk (st := s_colors_of_coins) l24 e24 k24
  have b24 := F24.binds (ps := ["coins"]) fun _ _ _ _ _ _ us hl => match us, hl with | [_], _ => rfl
  have G_colors_of_coins : GF K mg "colors_of_coins" s_colors_of_coins ["coins"] := ⟨_, _, PySem.W.mg_of X G a24, F24, b24⟩
  have F25 := fun_mk (st := s_first_difference) l25 e25 k25
  have b25 := F25.binds (ps := ["before", "code"]) fun _ _ _ _ _ _ us hl => match us, hl with | [_, _], _ => rfl
  have G_first_difference : GF K mg "first_difference" s_first_difference ["before", "code"] := ⟨_, _, PySem.W.mg_of X G a25, F25, b25⟩
  have F26 := fun_mk (st := s_coin_after) l26 e26 k26
  have b26 := F26.binds (ps := ["before", "code"]) fun _ _ _ _ _ _ us hl => match us, hl with | [_, _], _ => rfl
  have G_coin_after : GF K mg "coin_after" s_coin_after ["before", "code"] := ⟨_, _, PySem.W.mg_of X G a26, F26, b26⟩
  have F27 := fun_mk (st := s_coins_of_codes) l27 e27 k27
  have b27 := F27.binds (ps := ["codes"]) fun _ _ _ _ _ _ us hl => match us, hl with | [_], _ => rfl
  have G_coins_of_codes : GF K mg "coins_of_codes" s_coins_of_codes ["codes"] := ⟨_, _, PySem.W.mg_of X G a27, F27, b27⟩
  have F28 := fun_mk (st := s_color_row) l28 e28 k28
  have b28 := F28.binds (ps := ["table", "items"]) fun _ _ _ _ _ _ us hl => match us, hl with | [_, _], _ => rfl
  have G_color_row : GF K mg "color_row" s_color_row ["table", "items"] := ⟨_, _, PySem.W.mg_of X G a28, F28, b28⟩
  have F29 := fun_mk (st := s_is_peak) l29 e29 k29
  have b29 := F29.binds (ps := ["colors", "place"]) fun _ _ _ _ _ _ us hl => match us, hl with | [_, _], _ => rfl
  have G_is_peak : GF K mg "is_peak" s_is_peak ["colors", "place"] := ⟨_, _, PySem.W.mg_of X G a29, F29, b29⟩
  have F30 := fun_mk (st := s_starts_of) l30 e30 k30
  have b30 := F30.binds (ps := ["colors"]) fun _ _ _ _ _ _ us hl => match us, hl with | [_], _ => rfl
  have G_starts_of : GF K mg "starts_of" s_starts_of ["colors"] := ⟨_, _, PySem.W.mg_of X G a30, F30, b30⟩
  have F31 := fun_mk (st := s_cut) l31 e31 k31
  have b31 := F31.binds (ps := ["items", "starts"]) fun _ _ _ _ _ _ us hl => match us, hl with | [_, _], _ => rfl
  have G_cut : GF K mg "cut" s_cut ["items", "starts"] := ⟨_, _, PySem.W.mg_of X G a31, F31, b31⟩
  have F32 := fun_mk (st := s_grow) l32 e32 k32
  have b32 := F32.binds (ps := ["table", "contents"]) fun _ _ _ _ _ _ us hl => match us, hl with | [_, _], _ => rfl
  have G_grow : GF K mg "grow" s_grow ["table", "contents"] := ⟨_, _, PySem.W.mg_of X G a32, F32, b32⟩
  have F33 := fun_mk (st := s_add_tree) l33 e33 k33
  have b33 := F33.binds (ps := ["table", "contents"]) fun _ _ _ _ _ _ us hl => match us, hl with | [_, _], _ => rfl
  have G_add_tree : GF K mg "add_tree" s_add_tree ["table", "contents"] := ⟨_, _, PySem.W.mg_of X G a33, F33, b33⟩
  have F34 := fun_mk (st := s_list_nodes) l34 e34 k34
  have b34 := F34.binds (ps := ["table", "root", "places"]) fun _ _ _ _ _ _ us hl => match us, hl with | [_, _, _], _ => rfl
  have G_list_nodes : GF K mg "list_nodes" s_list_nodes ["table", "root", "places"] := ⟨_, _, PySem.W.mg_of X G a34, F34, b34⟩
  have F35 := fun_mk (st := s_placed) l35 e35 k35
  have b35 := F35.binds (ps := ["entry", "places"]) fun _ _ _ _ _ _ us hl => match us, hl with | [_, _], _ => rfl
  have G_placed : GF K mg "placed" s_placed ["entry", "places"] := ⟨_, _, PySem.W.mg_of X G a35, F35, b35⟩
  have F36 := fun_mk (st := s_table_of) l36 e36 k36
  have b36 := F36.binds (ps := ["contents"]) fun _ _ _ _ _ _ us hl => match us, hl with | [_], _ => rfl
  have G_table_of : GF K mg "table_of" s_table_of ["contents"] := ⟨_, _, PySem.W.mg_of X G a36, F36, b36⟩
  have F37 := fun_mk (st := s_law_numbers) l37 e37 k37
  have b37 := F37.binds (ps := ["_law_known", "_law_table"]) fun _ _ _ _ _ _ us hl => match us, hl with | [_, _], _ => rfl
  have G_law_numbers : GF K mg "_law_numbers" s_law_numbers ["_law_known", "_law_table"] := ⟨_, _, PySem.W.mg_of X G a37, F37, b37⟩
  have F38 := fun_mk (st := s_law_heights) l38 e38 k38
  have b38 := F38.binds (ps := ["_law_table"]) fun _ _ _ _ _ _ us hl => match us, hl with | [_], _ => rfl
  have G_law_heights : GF K mg "_law_heights" s_law_heights ["_law_table"] := ⟨_, _, PySem.W.mg_of X G a38, F38, b38⟩
  have F39 := fun_mk (st := s_law_fresh) l39 e39 k39
  have b39 := F39.binds (ps := ["_law_tables", "_law_table"]) fun _ _ _ _ _ _ us hl => match us, hl with | [_, _], _ => rfl
  have G_law_fresh : GF K mg "_law_fresh" s_law_fresh ["_law_tables", "_law_table"] := ⟨_, _, PySem.W.mg_of X G a39, F39, b39⟩
  have F40 := fun_mk (st := s_law) l40 e40 k40
  have b40 := F40.binds (ps := ["_law_script"]) fun _ _ _ _ _ _ us hl => match us, hl with | [_], _ => rfl
  have G_law : GF K mg "law" s_law ["_law_script"] := ⟨_, _, PySem.W.mg_of X G a40, F40, b40⟩
  have n_int : mg "int" = none := PySem.W.mg_none_of X G z_int
  have n_abs : mg "abs" = none := PySem.W.mg_none_of X G z_abs
  have n_list : mg "list" = none := PySem.W.mg_none_of X G z_list
  have n_len : mg "len" = none := PySem.W.mg_none_of X G z_len
  have n_max : mg "max" = none := PySem.W.mg_none_of X G z_max
  have n_range : mg "range" = none := PySem.W.mg_none_of X G z_range
  have F_NodeTable_numbers : FldF K mg "NodeTable" "numbers" := ⟨_, PySem.W.mg_of X G c1_NodeTable, ⟨pg_NodeTable, hd_NodeTable, po_NodeTable, sa_NodeTable⟩, nf_NodeTable_numbers⟩
  have F_NodeTable_entries : FldF K mg "NodeTable" "entries" := ⟨_, PySem.W.mg_of X G c1_NodeTable, ⟨pg_NodeTable, hd_NodeTable, po_NodeTable, sa_NodeTable⟩, nf_NodeTable_entries⟩
  have F_NodeTable_codes : FldF K mg "NodeTable" "codes" := ⟨_, PySem.W.mg_of X G c1_NodeTable, ⟨pg_NodeTable, hd_NodeTable, po_NodeTable, sa_NodeTable⟩, nf_NodeTable_codes⟩
  have F_NodeTable_sizes : FldF K mg "NodeTable" "sizes" := ⟨_, PySem.W.mg_of X G c1_NodeTable, ⟨pg_NodeTable, hd_NodeTable, po_NodeTable, sa_NodeTable⟩, nf_NodeTable_sizes⟩
  have g_DIGIT : ∃ u, mg "DIGIT" = some (.int 65536 u) := ⟨_, PySem.W.mg_of X G z_DIGIT⟩
  have n_isinstance : mg "isinstance" = none := PySem.W.mg_none_of X G z_isinstance
  have n_tuple : mg "tuple" = none := PySem.W.mg_none_of X G z_tuple
  have n_str : mg "str" = none := PySem.W.mg_none_of X G z_str
  have n_ord : mg "ord" = none := PySem.W.mg_none_of X G z_ord
  have n_sum : mg "sum" = none := PySem.W.mg_none_of X G z_sum
  have n_zip : mg "zip" = none := PySem.W.mg_none_of X G z_zip
  have g_ROUNDS : ∃ u, mg "ROUNDS" = some (.int 4 u) := ⟨_, PySem.W.mg_of X G z_ROUNDS⟩
  have e := hfa.symm.trans (PySem.W.mg_of X G a40)
  cases e
  refine ⟨PySem.W.fnOf "law" "law" (defArgs s_law) (defBody s_law) (defScope s_law) .none kV40 dc40 pm40 an40 cd40 ct40, fun s v => .of_eq rfl, fun base _ _ => ?_⟩
  have C_law_tape : Cal P w K mg base "_law_tape" 1 m_law_tape := c_law_tape G_law_tape n_int n_abs n_list
  have C_law_draw : Cal P w K mg base "_law_draw" 1 m_law_draw := c_law_draw G_law_draw n_len n_int n_abs n_max
  have C_law_sign : Cal P w K mg base "_law_sign" 2 m_law_sign := c_law_sign G_law_sign C_law_draw
  have C_law_word : Cal P w K mg base "_law_word" 3 m_law_word := c_law_word G_law_word C_law_draw C_law_sign n_range
  have C_law_scalar : Cal P w K mg base "_law_scalar" 4 m_law_scalar := c_law_scalar G_law_scalar C_law_draw C_law_word
  have C_law_element : Cal P w K mg base "_law_element" 5 m_law_element := c_law_element G_law_element C_law_scalar C_law_draw
  have C_law_contents : Cal P w K mg base "_law_contents" 6 m_law_contents := c_law_contents G_law_contents C_law_draw C_law_element n_range n_len
  have C_law_kept : Cal P w K mg base "_law_kept" 1 m_law_kept := c_law_kept G_law_kept
  have C_law_large : Cal P w K mg base "_law_large" 2 m_law_large := c_law_large G_law_large C_law_draw n_range n_int
  have C_law_spread : Cal P w K mg base "_law_spread" 7 m_law_spread := c_law_spread G_law_spread C_law_contents C_law_draw C_law_large
  have C_NodeTable___init__ : CalI P w K mg base "NodeTable" 1 m_NodeTable___init__ := c_NodeTable___init__ G_NodeTable___init__ F_NodeTable_numbers F_NodeTable_entries F_NodeTable_codes F_NodeTable_sizes
  have C_digits_of : Cal P w K mg base "digits_of" 1 m_digits_of := c_digits_of G_digits_of n_range g_DIGIT
  have C_code_of : Cal P w K mg base "code_of" 41 (m_code_of 40) := (c_code_of G_code_of C_digits_of n_isinstance n_tuple n_str n_len n_ord 40)
  have C_run_code : Cal P w K mg base "run_code" 2 m_run_code := c_run_code G_run_code C_digits_of
  have C_block_code : Cal P w K mg base "block_code" 1 m_block_code := c_block_code G_block_code n_len n_tuple
  have C_NodeTable_measure : CalM P w K mg base "NodeTable" "measure" 42 m_NodeTable_measure := c_NodeTable_measure G_NodeTable_measure C_code_of C_run_code C_block_code F_NodeTable_codes F_NodeTable_sizes n_sum
  have C_NodeTable_number_of : CalM P w K mg base "NodeTable" "number_of" 43 m_NodeTable_number_of := c_NodeTable_number_of G_NodeTable_number_of C_NodeTable_measure F_NodeTable_numbers F_NodeTable_entries n_len
  have C_leaf_row : Cal P w K mg base "leaf_row" 44 m_leaf_row := c_leaf_row G_leaf_row C_NodeTable_number_of
  have C_NodeTable_item_number : CalM P w K mg base "NodeTable" "item_number" 44 m_NodeTable_item_number := c_NodeTable_item_number G_NodeTable_item_number C_NodeTable_number_of
  have C_groups_of : Cal P w K mg base "groups_of" 1 m_groups_of := c_groups_of G_groups_of n_len
  have C_item_row : Cal P w K mg base "item_row" 45 m_item_row := c_item_row G_item_row C_groups_of C_NodeTable_item_number n_tuple
  have C_mix : Cal P w K mg base "mix" 1 m_mix := c_mix G_mix
  have C_one_round : Cal P w K mg base "one_round" 2 m_one_round := c_one_round G_one_round C_mix n_zip n_tuple
  have C_colors_of_coins : Cal P w K mg base "colors_of_coins" 3 m_colors_of_coins := c_colors_of_coins G_colors_of_coins C_one_round g_ROUNDS n_range
  have C_first_difference : Cal P w K mg base "first_difference" 1 m_first_difference := c_first_difference G_first_difference n_len
  have C_coin_after : Cal P w K mg base "coin_after" 2 m_coin_after := c_coin_after G_coin_after C_first_difference g_DIGIT
  have C_coins_of_codes : Cal P w K mg base "coins_of_codes" 3 m_coins_of_codes := c_coins_of_codes G_coins_of_codes C_coin_after n_tuple
  have C_color_row : Cal P w K mg base "color_row" 4 m_color_row := c_color_row G_color_row C_coins_of_codes C_colors_of_coins F_NodeTable_codes
  have C_is_peak : Cal P w K mg base "is_peak" 1 m_is_peak := c_is_peak G_is_peak
  have C_starts_of : Cal P w K mg base "starts_of" 2 m_starts_of := c_starts_of G_starts_of C_is_peak n_len n_range n_tuple
  have C_cut : Cal P w K mg base "cut" 1 m_cut := c_cut G_cut n_len n_zip
  have C_grow : Cal P w K mg base "grow" 46 m_grow := c_grow G_grow C_leaf_row C_item_row C_color_row C_starts_of C_cut C_NodeTable_number_of n_len
  have C_add_tree : Cal P w K mg base "add_tree" 47 m_add_tree := c_add_tree G_add_tree C_grow
  have C_list_nodes : Cal P w K mg base "list_nodes" 40 (m_list_nodes 40) := (c_list_nodes G_list_nodes F_NodeTable_entries n_len 40)
  have C_placed : Cal P w K mg base "placed" 1 m_placed := c_placed G_placed n_tuple
  have C_table_of : Cal P w K mg base "table_of" 48 m_table_of := c_table_of G_table_of C_NodeTable___init__ C_add_tree C_list_nodes C_placed F_NodeTable_entries n_tuple
  have C_law_numbers : Cal P w K mg base "_law_numbers" 1 m_law_numbers := c_law_numbers G_law_numbers n_tuple n_len
  have C_law_heights : Cal P w K mg base "_law_heights" 1 m_law_heights := c_law_heights G_law_heights
  have C_law_fresh : Cal P w K mg base "_law_fresh" 2 m_law_fresh := c_law_fresh G_law_fresh C_law_numbers C_law_heights n_len n_range
  exact fn_ok F40 sc_law (c_law_body C_law_tape C_law_spread C_law_contents C_law_draw C_table_of C_law_fresh C_law_kept n_int n_tuple)
end Law
open PySem PySem.W PyProof.Rows
theorem PySem.Challenge.cw_sameshape_k27_whole_joins_share_nodes_holds : PySem.Challenge.rw_sameshape_k27_whole_joins_share_nodes.Holds := by
  w_on; o_law; k_head; (case hw => w_witness2)
  k_fill
  refine ML.law_end (l := PySem.Challenge.rw_sameshape_k27_whole_joins_share_nodes) (k := 49) (x := "_law_script") (m := Law.m_law) rfl rfl ⟨rfl, by decide, by decide⟩ (fun w h Y => PySem.W.kIn_of Y) Law.law_true ?F
  case F =>
    intro w mg fa h KX G hmg
    refine' Law.all_mk KX G hmg ?a1 ?l1 ?e1 ?k1 ?a2 ?l2 ?e2 ?k2 ?a3 ?l3 ?e3 ?k3 ?a4 ?l4 ?e4 ?k4 ?a5 ?l5 ?e5 ?k5 ?a6 ?l6 ?e6 ?k6 ?a7 ?l7 ?e7 ?k7 ?a8 ?l8 ?e8 ?k8 ?a9 ?l9 ?e9 ?k9 ?a10 ?l10 ?e10 ?k10 ?c1_NodeTable ?pg_NodeTable ?hd_NodeTable ?po_NodeTable ?sa_NodeTable ?mk_NodeTable ?kp_NodeTable ?a11 ?l11 ?e11 ?k11 ?i11 ?a12 ?l12 ?e12 ?k12 ?a13 ?l13 ?e13 ?k13 ?a14 ?l14 ?e14 ?k14 ?a15 ?l15 ?e15 ?k15 ?a16 ?l16 ?e16 ?k16 ?i16 ?a17 ?l17 ?e17 ?k17 ?i17 ?a18 ?l18 ?e18 ?k18 ?a19 ?l19 ?e19 ?k19 ?i19 ?a20 ?l20 ?e20 ?k20 ?a21 ?l21 ?e21 ?k21 ?a22 ?l22 ?e22 ?k22 ?a23 ?l23 ?e23 ?k23 ?a24 ?l24 ?e24 ?k24 ?a25 ?l25 ?e25 ?k25 ?a26 ?l26 ?e26 ?k26 ?a27 ?l27 ?e27 ?k27 ?a28 ?l28 ?e28 ?k28 ?a29 ?l29 ?e29 ?k29 ?a30 ?l30 ?e30 ?k30 ?a31 ?l31 ?e31 ?k31 ?a32 ?l32 ?e32 ?k32 ?a33 ?l33 ?e33 ?k33 ?a34 ?l34 ?e34 ?k34 ?a35 ?l35 ?e35 ?k35 ?a36 ?l36 ?e36 ?k36 ?a37 ?l37 ?e37 ?k37 ?a38 ?l38 ?e38 ?k38 ?a39 ?l39 ?e39 ?k39 ?a40 ?l40 ?e40 ?k40 ?z_int ?z_abs ?z_list ?z_len ?z_max ?z_range ?nf_NodeTable_numbers ?nf_NodeTable_entries ?nf_NodeTable_codes ?nf_NodeTable_sizes ?z_DIGIT ?z_isinstance ?z_tuple ?z_str ?z_ord ?z_sum ?z_zip ?z_ROUNDS
    (case a1 => k_is); (case l1 => k_is); (case e1 => k_is); (case k1 => k_is); (case a2 => k_is); (case l2 => k_is); (case e2 => k_is); (case k2 => k_is); (case a3 => k_is); (case l3 => k_is); (case e3 => k_is); (case k3 => k_is); (case a4 => k_is); (case l4 => k_is); (case e4 => k_is); (case k4 => k_is); (case a5 => k_is); (case l5 => k_is); (case e5 => k_is); (case k5 => k_is); (case a6 => k_is); (case l6 => k_is); (case e6 => k_is); (case k6 => k_is); (case a7 => k_is); (case l7 => k_is); (case e7 => k_is); (case k7 => k_is); (case a8 => k_is); (case l8 => k_is); (case e8 => k_is); (case k8 => k_is); (case a9 => k_is); (case l9 => k_is); (case e9 => k_is); (case k9 => k_is); (case a10 => k_is); (case l10 => k_is); (case e10 => k_is); (case k10 => k_is); (case c1_NodeTable => k_is); (case pg_NodeTable => k_is); (case hd_NodeTable => k_is); (case po_NodeTable => k_is); (case sa_NodeTable => k_is); (case mk_NodeTable => k_is); (case kp_NodeTable => k_is); (case a11 => k_is); (case l11 => k_is); (case e11 => k_is); (case k11 => k_is); (case i11 => k_is); (case a12 => k_is); (case l12 => k_is); (case e12 => k_is); (case k12 => k_is); (case a13 => k_is); (case l13 => k_is); (case e13 => k_is); (case k13 => k_is); (case a14 => k_is); (case l14 => k_is); (case e14 => k_is); (case k14 => k_is); (case a15 => k_is); (case l15 => k_is); (case e15 => k_is); (case k15 => k_is); (case a16 => k_is); (case l16 => k_is); (case e16 => k_is); (case k16 => k_is); (case i16 => k_is); (case a17 => k_is); (case l17 => k_is); (case e17 => k_is); (case k17 => k_is); (case i17 => k_is); (case a18 => k_is); (case l18 => k_is); (case e18 => k_is); (case k18 => k_is); (case a19 => k_is); (case l19 => k_is); (case e19 => k_is); (case k19 => k_is); (case i19 => k_is); (case a20 => k_is); (case l20 => k_is); (case e20 => k_is); (case k20 => k_is); (case a21 => k_is); (case l21 => k_is); (case e21 => k_is); (case k21 => k_is); (case a22 => k_is); (case l22 => k_is); (case e22 => k_is); (case k22 => k_is); (case a23 => k_is); (case l23 => k_is); (case e23 => k_is); (case k23 => k_is); (case a24 => k_is); (case l24 => k_is); (case e24 => k_is); (case k24 => k_is); (case a25 => k_is); (case l25 => k_is); (case e25 => k_is); (case k25 => k_is); (case a26 => k_is); (case l26 => k_is); (case e26 => k_is); (case k26 => k_is); (case a27 => k_is); (case l27 => k_is); (case e27 => k_is); (case k27 => k_is); (case a28 => k_is); (case l28 => k_is); (case e28 => k_is); (case k28 => k_is); (case a29 => k_is); (case l29 => k_is); (case e29 => k_is); (case k29 => k_is); (case a30 => k_is); (case l30 => k_is); (case e30 => k_is); (case k30 => k_is); (case a31 => k_is); (case l31 => k_is); (case e31 => k_is); (case k31 => k_is); (case a32 => k_is); (case l32 => k_is); (case e32 => k_is); (case k32 => k_is); (case a33 => k_is); (case l33 => k_is); (case e33 => k_is); (case k33 => k_is); (case a34 => k_is); (case l34 => k_is); (case e34 => k_is); (case k34 => k_is); (case a35 => k_is); (case l35 => k_is); (case e35 => k_is); (case k35 => k_is); (case a36 => k_is); (case l36 => k_is); (case e36 => k_is); (case k36 => k_is); (case a37 => k_is); (case l37 => k_is); (case e37 => k_is); (case k37 => k_is); (case a38 => k_is); (case l38 => k_is); (case e38 => k_is); (case k38 => k_is); (case a39 => k_is); (case l39 => k_is); (case e39 => k_is); (case k39 => k_is); (case a40 => k_is); (case l40 => k_is); (case e40 => k_is); (case k40 => k_is); (case z_int => k_is); (case z_abs => k_is); (case z_list => k_is); (case z_len => k_is); (case z_max => k_is); (case z_range => k_is); (case nf_NodeTable_numbers => k_is); (case nf_NodeTable_entries => k_is); (case nf_NodeTable_codes => k_is); (case nf_NodeTable_sizes => k_is); (case z_DIGIT => k_is); (case z_isinstance => k_is); (case z_tuple => k_is); (case z_str => k_is); (case z_ord => k_is); (case z_sum => k_is); (case z_zip => k_is); (case z_ROUNDS => k_is)
