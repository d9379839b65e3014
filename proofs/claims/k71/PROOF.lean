import PyProof.Rows.All
import Wide.All
import OpenK.AllK
import Wide.FinOn
import HandS.ForMost
import HandS.ForExc
import HandS.Wide
import HandS.WideBits
import HandS.TupAny
import HandS.TupMul
import HandS.IsInst
import HandS.CallSlots
import HandS.Zip
import HandS.Rev
import HandS.Style
import HandS.Dict
import KE.KeyNested
import KE.KDictKeyed
import HandS.Lambda
import HandS.EndBits
import KE.KExcSuper
import KE.KSuper
import KE.KExcIs
import HandS.ExcField
import HandS.ExcIs
import HandS.TryMany
import HandS.Conv
import KE.GoesEnum
import HandS.TupLen
import HandS.Deep
import HandS.More
import HandS.SortInts
import HandS.SortKw
import KE.SortKeyHeap
import PyProof.TupleOfSeq
import PyProof.ReprRoads
import PyProof.ReprText
import KE.LtData
import KE.DataCmp
import PyProof.FactsAll.tuple_2
import HandS.DictTup
import KE.KDictItemsList
import KE.KDictPairs
import HandS.EndTab
import HandS.Property
import HandS.NamedTupGet
import HandS.OwnIter
import HandS.IterNext
import PyProof.ReprLen
import PySem.Challenge.RW_sameshape_k71_replacing_in_an_editor
set_option Elab.async false
set_option linter.all false
set_option maxRecDepth 100000
set_option maxHeartbeats 8000000
namespace ML
open PySem PySem.Spec L2
inductive A where
  | non | bl (b : Bool) | int (i : Int) | str (x : Str) | tup (xs : List A) | scr (xs : List A) | ref (i : Nat)
inductive Ob2 where
  | dct (kvs : List (PySem.NestedKey × A))
  | frd (kvs : List (PySem.NestedKey × A))
  | ins (cls : Str) (fs : List (Str × A))
  | tab (n : Str)
inductive Ob where
  | lst (xs : List A)
  | oth (u : Ob2)
structure Er where
  cls : Str
  fs : List (Str × A)
inductive R (α : Type) where
  | ok (a : α) (st : List Ob) | er (e : Er) (st : List Ob) | bad
abbrev Store := List Ob
abbrev Env := List (Option A)
def R.bind {α β : Type} (r : R α) (f : α → Store → R β) : R β := match r with
  | .ok a st => f a st
  | .er e st => .er e st
  | .bad => .bad
abbrev MX := Env → Store → R A
abbrev MT := Env → Store → R Bool
abbrev MA := Env → Store → R (List A)
def KTup (K : PySem.W.Frag) (a : Addr) (xs : List V) : Prop := ∃ (o : Obj) (its : Array Value) (n : Nat), K.lookup a = some o ∧ o.cls = .type "tuple" ∧ o.dict = none ∧ o.data = .seq its n ∧ its.size ≤ sizeLine ∧ Vals xs its.toList
def KLst (K : PySem.W.Frag) (a : Addr) (xs : List V) : Prop := ∃ (o : Obj) (its : Array Value) (n : Nat), K.lookup a = some o ∧ o.cls = .type "list" ∧ o.dict = none ∧ o.data = .seq its n ∧ its.size ≤ sizeLine ∧ Vals xs its.toList
def HPl (H : Hp) (a : Addr) (xs : List V) : Prop := ∃ o : Obj, o.dict = none ∧ H a = some (.frz o (.tup xs))
def StT (K : PySem.W.Frag) (φ : List Addr) (H : Hp) (a : Addr) (xs : List V) : Prop := (HPl H a xs ∧ a ∉ φ) ∨ KTup K a xs
abbrev NewT (H : Hp) (xs : List V) (Q : V → Hp → Prop) : Prop := ∀ (p : Addr) (o : Obj), o.dict = none → H p = none → Q (.ref p) (upd H p (.frz o (.tup xs)))
def StL (K : PySem.W.Frag) (φ : List Addr) (H : Hp) (a : Addr) (xs : List V) : Prop := ((∃ o, H a = some (.frz o (.lst xs))) ∧ a ∉ φ) ∨ KLst K a xs
mutual
inductive RV (K : PySem.W.Frag) (φ : List Addr) (H : Hp) : V → A → Prop
  | non : RV K φ H .non .non
  | bl (b : Bool) : RV K φ H (.bl b) (.bl b)
  | int (i : Int) : RV K φ H (.int i) (.int i)
  | str (x : Str) : RV K φ H (.str x) (.str x)
  | tup {a : Addr} {xs : List V} {ds : List A} : StT K φ H a xs → RVs K φ H xs ds → RV K φ H (.ref a) (.tup ds)
  | scr {a : Addr} {xs : List V} {ds : List A} : StL K φ H a xs → RVs K φ H xs ds → RV K φ H (.ref a) (.scr ds)
  | ref {a : Addr} {i : Nat} : φ[i]? = some a → RV K φ H (.ref a) (.ref i)
inductive RVs (K : PySem.W.Frag) (φ : List Addr) (H : Hp) : List V → List A → Prop
  | nil : RVs K φ H [] []
  | cons {v : V} {vs : List V} {d : A} {ds : List A} : RV K φ H v d → RVs K φ H vs ds → RVs K φ H (v :: vs) (d :: ds)
end
mutual
def aOf : PySem.NestedKey → A
  | .none => .non
  | .num i => .int i
  | .text x => .str x
  | .tup ks => .tup (aOfs ks)
def aOfs : List PySem.NestedKey → List A
  | [] => []
  | k :: ks => aOf k :: aOfs ks
end
mutual
def keyOf : A → Option PySem.NestedKey
  | .non => some .none
  | .int i => some (.num i)
  | .str x => some (.text x)
  | .tup xs => match keysOf xs with
    | some ks => some (.tup ks)
    | none => none
  | _ => none
def keysOf : List A → Option (List PySem.NestedKey)
  | [] => some []
  | x :: xs => match keyOf x, keysOf xs with
    | some k, some ks => some (k :: ks)
    | _, _ => none
end
def nk : Key → PySem.NestedKey
  | .inl i => .num i
  | .inr x => .text x
def DRaw (w : World) (a : Addr) (xs : List (PySem.NestedKey × Addr × Value)) (h : Heap) : Prop :=
  ∃ o es ep, h.get? a = some o ∧ o.ExactDict ∧ o.data = .dict es ep ∧ es.toList = xs.map (fun x => ⟨x.1.hash w, .ref x.2.1, x.2.2⟩) ∧ (xs.map (·.1)).Nodup
def RDk (K : PySem.W.Frag) (φ : List Addr) (H : Hp) (a : Addr) (kvs : List (PySem.NestedKey × A)) : Prop :=
  ∃ ks : List (Key × V), H a = some (.dK ks) ∧ kvs.map (·.1) = ks.map (fun x => nk x.1) ∧ RVs K φ H (ks.map (·.2)) (kvs.map (·.2))
def RDt (K : PySem.W.Frag) (w : World) (φ : List Addr) (H : Hp) (a : Addr) (kvs : List (PySem.NestedKey × A)) : Prop :=
  ∃ (xs : List (PySem.NestedKey × Addr × Value)) (vs : List V), kvs ≠ [] ∧ H a = some (.ext (DRaw w a xs)) ∧ (a == sysModules) = false ∧ xs.length ≤ sizeLine ∧ xs.map (·.1) = kvs.map (·.1) ∧
    (∀ x ∈ xs, RV K φ H (.ref x.2.1) (aOf x.1) ∧ x.1.depth ≤ 8) ∧ Vals vs (xs.map (·.2.2)) ∧ RVs K φ H vs (kvs.map (·.2))
def TabIs (K : PySem.W.Frag) (mg : Str → Option Value) (n : Str) (p : Addr) : Prop := ∃ (f c : Addr) (fo co : Obj) (fd : FuncData) (vs : Array Value),
  mg n = some (.ref f) ∧ K.lookup f = some fo ∧ fo.data = .func fd ∧ fd.code = .ref c ∧ K.lookup c = some co ∧ co.data = .fields vs ∧ vs[11]? = some (.ref p)
def RO2 (K : PySem.W.Frag) (w : World) (mg : Str → Option Value) (φ : List Addr) (H : Hp) (a : Addr) : Ob2 → Prop
  | .dct kvs => RDk K φ H a kvs ∨ RDt K w φ H a kvs
  | .frd kvs => ∃ (od : Obj) (ks : List (Key × V)), H a = some (.frz od (.dK ks)) ∧ kvs.map (·.1) = ks.map (fun x => nk x.1) ∧ RVs K φ H (ks.map (·.2)) (kvs.map (·.2))
  | .ins cls fs => ∃ (C dx : Addr) (vs : List V), mg cls = some (.ref C) ∧ H a = some (.ins C dx ((fs.map (·.1)).zip vs)) ∧ H dx = some (.own a) ∧ dx ∉ φ ∧ RVs K φ H vs (fs.map (·.2))
  | .tab n => TabIs K mg n a ∧ ∃ ps : Array Value, H a = some (.tbl ps) ∧ PySem.TriplesOk ps.toList ∧ ∀ (pos : Pos) (cv : Value), codeAmong pos ps.toList = some cv → ∃ c, cv = .ref c ∧ H c = some (LamX.CodeO c (n ++ ".<locals>." ++ "<lambda>")) ∧ c ∉ φ
def RO (K : PySem.W.Frag) (w : World) (mg : Str → Option Value) (φ : List Addr) (H : Hp) (a : Addr) : Ob → Prop
  | .lst ds => ∃ xs, H a = some (.lst xs) ∧ RVs K φ H xs ds
  | .oth u => RO2 K w mg φ H a u
structure RS (K : PySem.W.Frag) (w : World) (mg : Str → Option Value) (φ : List Addr) (H : Hp) (st : Store) : Prop where
  len : φ.length = st.length
  nd : φ.Nodup
  all : ∀ (i : Nat) (a : Addr) (o : Ob), φ[i]? = some a → st[i]? = some o → RO K w mg φ H a o
structure Ext (φ : List Addr) (H : Hp) (φ' : List Addr) (H' : Hp) : Prop where
  pre : ∃ t, φ' = φ ++ t
  fr : ∀ a o, a ∉ φ → H a = some o → H' a = some o ∧ a ∉ φ'
  fz : ∀ a o u, H a = some (.frz o u) → H' a = some (.frz o u)
structure RE (K : PySem.W.Frag) (φ : List Addr) (H : Hp) (σ : St) (ρ : Env) : Prop where
  len : σ.length = ρ.length
  all : ∀ (i : Nat) (d : A), ρ[i]? = some (some d) → ∃ v, σ[i]? = some (some v) ∧ RV K φ H v d
def RErr (K : PySem.W.Frag) (mg : Str → Option Value) (φ : List Addr) (H : Hp) (c : Value) (d : Option Addr) (e : Er) : Prop :=
  mg e.cls = some c ∧ ((e.fs = [] ∧ d = none) ∨ ∃ dx xs, d = some dx ∧ H dx = some (.xd xs) ∧ dx ∉ φ ∧ xs.map (·.1) = e.fs.map (·.1) ∧ RVs K φ H (xs.map (·.2)) (e.fs.map (·.2)))
section
variable {K : PySem.W.Frag} {w : World} {φ φ' φ2 : List Addr} {H H' H2 : Hp} {st : Store} {σ : St} {ρ : Env} {mg : Str → Option Value}
theorem Ext.refl : Ext φ H φ H := ⟨⟨[], by simp⟩, fun a o n h => ⟨h, n⟩, fun _ _ _ h => h⟩
theorem Ext.trans (a : Ext φ H φ' H') (b : Ext φ' H' φ2 H2) : Ext φ H φ2 H2 := by
  obtain ⟨⟨t, rfl⟩, f1, z1⟩ := a
  obtain ⟨⟨u, rfl⟩, f2, z2⟩ := b
  refine ⟨⟨t ++ u, by simp⟩, fun a o n h => ?_, fun a o u h => z2 _ _ _ (z1 _ _ _ h)⟩
  obtain ⟨h1, n1⟩ := f1 a o n h
  exact f2 a o n1 h1
theorem Ext.get (e : Ext φ H φ' H') {i : Nat} {a : Addr} (h : φ[i]? = some a) : φ'[i]? = some a := by
  obtain ⟨t, rfl⟩ := e.pre
  rw [List.getElem?_append_left (List.getElem?_eq_some_iff.mp h).1]
  exact h
theorem StT.sq {a : Addr} {xs : List V} (h : StT K φ H a xs) : SqT K H a xs := h.elim (fun ⟨⟨o, _, x⟩, _⟩ => .inl (.inr ⟨o, x⟩)) fun ⟨o, its, n, h1, h2, _, h3, h4, h5⟩ => .inr ⟨o, its, n, h1, h2, h3, h4, h5⟩
theorem StL.sq {a : Addr} {xs : List V} (h : StL K φ H a xs) : SqL K H a xs := h.elim (fun ⟨⟨o, x⟩, _⟩ => .inl (.inr ⟨o, x⟩)) .inr
theorem StT.ext {a : Addr} {xs : List V} (h : StT K φ H a xs) (e : Ext φ H φ' H') : StT K φ' H' a xs := by
  rcases h with ⟨⟨o, hd, h⟩, n⟩ | h
  · obtain ⟨x, m⟩ := e.fr _ _ n h
    exact .inl ⟨⟨o, hd, x⟩, m⟩
  · exact .inr h
theorem StL.ext {a : Addr} {xs : List V} (h : StL K φ H a xs) (e : Ext φ H φ' H') : StL K φ' H' a xs := by
  rcases h with ⟨⟨o, h⟩, n⟩ | h
  · obtain ⟨x, m⟩ := e.fr _ _ n h
    exact .inl ⟨⟨o, x⟩, m⟩
  · exact .inr h
mutual
theorem RV.ext (e : Ext φ H φ' H') : ∀ {v : V} {d : A}, RV K φ H v d → RV K φ' H' v d
  | _, _, .non => .non
  | _, _, .bl b => .bl b
  | _, _, .int i => .int i
  | _, _, .str x => .str x
  | _, _, .tup h q => .tup (h.ext e) (RVs.ext e q)
  | _, _, .scr h q => .scr (h.ext e) (RVs.ext e q)
  | _, _, .ref h => .ref (e.get h)
theorem RVs.ext (e : Ext φ H φ' H') : ∀ {vs : List V} {ds : List A}, RVs K φ H vs ds → RVs K φ' H' vs ds
  | _, _, .nil => .nil
  | _, _, .cons h q => .cons (RV.ext e h) (RVs.ext e q)
end
theorem RVs.length : ∀ {vs : List V} {ds : List A}, RVs K φ H vs ds → vs.length = ds.length
  | _, _, .nil => rfl
  | _, _, .cons _ q => by rw [List.length_cons, List.length_cons, q.length]
theorem RVs.get : ∀ {vs : List V} {ds : List A} {i : Nat} {d : A}, RVs K φ H vs ds → ds[i]? = some d → ∃ v, vs[i]? = some v ∧ RV K φ H v d
  | _, _, _, _, .nil, h => by simp at h
  | _, _, 0, _, .cons q _, h => by simp at h; subst h; exact ⟨_, rfl, q⟩
  | _, _, i + 1, d, .cons _ q, h => by
    obtain ⟨v, h1, h2⟩ := RVs.get (i := i) (d := d) q (by simpa using h)
    exact ⟨v, by simpa using h1, h2⟩
theorem RVs.app : ∀ {vs ws : List V} {ds es : List A}, RVs K φ H vs ds → RVs K φ H ws es → RVs K φ H (vs ++ ws) (ds ++ es)
  | _, _, _, _, .nil, q => q
  | _, _, _, _, .cons h r, q => .cons h (r.app q)
theorem RVs.take : ∀ {vs : List V} {ds : List A} (n : Nat), RVs K φ H vs ds → RVs K φ H (vs.take n) (ds.take n)
  | _, _, 0, _ => .nil
  | _, _, _ + 1, .nil => .nil
  | _, _, n + 1, .cons h q => .cons h (q.take n)
theorem RVs.drop : ∀ {vs : List V} {ds : List A} (n : Nat), RVs K φ H vs ds → RVs K φ H (vs.drop n) (ds.drop n)
  | _, _, 0, q => q
  | _, _, _ + 1, .nil => .nil
  | _, _, n + 1, .cons _ q => q.drop n
theorem RVs.set {v : V} {d : A} (h : RV K φ H v d) : ∀ {vs : List V} {ds : List A} (i : Nat), RVs K φ H vs ds → RVs K φ H (vs.set i v) (ds.set i d)
  | _, _, _, .nil => .nil
  | _, _, 0, .cons _ q => .cons h q
  | _, _, i + 1, .cons r q => .cons r (q.set h i)
theorem RVs.flat {vs : List V} {ds : List A} (q : RVs K φ H vs ds) : ∀ n : Nat, RVs K φ H (List.replicate n vs).flatten (List.replicate n ds).flatten
  | 0 => .nil
  | n + 1 => by
    rw [List.replicate_succ, List.replicate_succ, List.flatten_cons, List.flatten_cons]
    exact q.app (q.flat n)
theorem RVs.dropLast : ∀ {vs : List V} {ds : List A}, RVs K φ H vs ds → RVs K φ H vs.dropLast ds.dropLast
  | _, _, .nil => .nil
  | _, _, .cons _ .nil => .nil
  | _, _, .cons r (.cons r2 q) => .cons r (RVs.dropLast (.cons r2 q))
theorem RVs.ints : ∀ {vs : List V} {ns : List Int}, RVs K φ H vs (ns.map A.int) → vs = ns.map V.int
  | [], [], _ => rfl
  | [], _ :: _, h => by cases h
  | _ :: _, [], h => by cases h
  | v :: vs, n :: ns, h => by
    cases h with
    | cons h q =>
      cases h
      rw [RVs.ints q, List.map_cons]
theorem RVs.mkInts : ∀ (ns : List Int), RVs K φ H (ns.map V.int) (ns.map A.int)
  | [] => .nil
  | n :: ns => .cons (.int n) (RVs.mkInts ns)
theorem RE.ext (r : RE K φ H σ ρ) (e : Ext φ H φ' H') : RE K φ' H' σ ρ := ⟨r.len, fun i d h => by
  obtain ⟨v, h1, h2⟩ := r.all i d h
  exact ⟨v, h1, h2.ext e⟩⟩
theorem RE.set (r : RE K φ H σ ρ) {v : V} {d : A} (h : RV K φ H v d) (i : Nat) : RE K φ H (σ.set i (some v)) (ρ.set i (some d)) := ⟨by rw [List.length_set, List.length_set, r.len], fun j x hj => by
  by_cases e : i = j
  · subst e
    have hl : i < ρ.length := by
      have := (List.getElem?_eq_some_iff.mp hj).1
      rwa [List.length_set] at this
    rw [List.getElem?_set_self hl] at hj
    cases hj
    refine ⟨v, ?_, h⟩
    rw [List.getElem?_set_self (by rw [r.len]; exact hl)]
  · rw [List.getElem?_set_ne e] at hj
    obtain ⟨w, h1, h2⟩ := r.all j x hj
    exact ⟨w, by rw [List.getElem?_set_ne e]; exact h1, h2⟩⟩
theorem RE.setNone (r : RE K φ H σ ρ) (i : Nat) : RE K φ H (σ.set i none) (ρ.set i none) := ⟨by rw [List.length_set, List.length_set, r.len], fun j x hj => by
  by_cases e : i = j
  · subst e
    have hl : i < ρ.length := by
      have := (List.getElem?_eq_some_iff.mp hj).1
      rwa [List.length_set] at this
    rw [List.getElem?_set_self hl] at hj
    cases hj
  · rw [List.getElem?_set_ne e] at hj
    obtain ⟨w, h1, h2⟩ := r.all j x hj
    exact ⟨w, by rw [List.getElem?_set_ne e]; exact h1, h2⟩⟩
def wipeA (ρ : Env) : List Nat → Env
  | [] => ρ
  | v :: vs => (wipeA ρ vs).set v none
theorem RE.wipe (r : RE K φ H σ ρ) : ∀ vs : List Nat, RE K φ H (wipe σ vs) (wipeA ρ vs)
  | [] => r
  | v :: vs => (RE.wipe r vs).setNone v
theorem RO2.isO {a : Addr} : ∀ {u : Ob2}, RO2 K w mg φ H a u → ∃ o, H a = some o ∧ ∀ xs, o ≠ .lst xs
  | .dct _, .inl ⟨_, h, _⟩ => ⟨_, h, fun _ z => by cases z⟩
  | .dct _, .inr ⟨_, _, _, h, _⟩ => ⟨_, h, fun _ z => by cases z⟩
  | .frd _, ⟨_, _, h, _⟩ => ⟨_, h, fun _ z => by cases z⟩
  | .ins _ _, ⟨_, _, _, _, h, _⟩ => ⟨_, h, fun _ z => by cases z⟩
  | .tab _, ⟨_, _, h, _⟩ => ⟨_, h, fun _ z => by cases z⟩
theorem RO2.ext {a : Addr} (e : Ext φ H φ' H') (k : H' a = H a) : ∀ {u : Ob2}, RO2 K w mg φ H a u → RO2 K w mg φ' H' a u
  | .dct _, .inl ⟨ks, h1, h2, h3⟩ => .inl ⟨ks, by rw [k]; exact h1, h2, h3.ext e⟩
  | .dct _, .inr ⟨xs, vs, h0, h1, h2, h3, h4, h5, h6, h7⟩ => .inr ⟨xs, vs, h0, by rw [k]; exact h1, h2, h3, h4, fun x hx => ⟨(h5 x hx).1.ext e, (h5 x hx).2⟩, h6, h7.ext e⟩
  | .frd _, ⟨od, ks, h1, h2, h3⟩ => ⟨od, ks, by rw [k]; exact h1, h2, h3.ext e⟩
  | .ins _ _, ⟨C, dx, vs, h0, h1, h2, h3, h4⟩ => by
    obtain ⟨y1, y2⟩ := e.fr _ _ h3 h2
    exact ⟨C, dx, vs, h0, by rw [k]; exact h1, y1, y2, h4.ext e⟩
  | .tab _, ⟨h0, ps, h1, h2, h3⟩ => ⟨h0, ps, by rw [k]; exact h1, h2, fun pos cv hc => by
    obtain ⟨c, z1, z2, z3⟩ := h3 pos cv hc
    obtain ⟨y1, y2⟩ := e.fr _ _ z3 z2
    exact ⟨c, z1, y1, y2⟩⟩
theorem RO2.map {a : Addr} (up : ∀ v d, RV K φ H v d → RV K φ' H' v d) (ups : ∀ vs ds, RVs K φ H vs ds → RVs K φ' H' vs ds) (k : H' a = H a) (ko : ∀ dx o, dx ∉ φ → H dx = some o → (∀ xs, o ≠ .lst xs) → H' dx = some o ∧ dx ∉ φ') :
    ∀ {u : Ob2}, RO2 K w mg φ H a u → RO2 K w mg φ' H' a u
  | .dct _, .inl ⟨ks, h1, h2, h3⟩ => .inl ⟨ks, by rw [k]; exact h1, h2, ups _ _ h3⟩
  | .dct _, .inr ⟨xs, vs, h0, h1, h2, h3, h4, h5, h6, h7⟩ => .inr ⟨xs, vs, h0, by rw [k]; exact h1, h2, h3, h4, fun x hx => ⟨up _ _ (h5 x hx).1, (h5 x hx).2⟩, h6, ups _ _ h7⟩
  | .frd _, ⟨od, ks, h1, h2, h3⟩ => ⟨od, ks, by rw [k]; exact h1, h2, ups _ _ h3⟩
  | .ins _ _, ⟨C, dx, vs, h0, h1, h2, h3, h4⟩ => by
    obtain ⟨y1, y2⟩ := ko _ _ h3 h2 (fun _ z => by cases z)
    exact ⟨C, dx, vs, h0, by rw [k]; exact h1, y1, y2, ups _ _ h4⟩
  | .tab _, ⟨h0, ps, h1, h2, h3⟩ => ⟨h0, ps, by rw [k]; exact h1, h2, fun pos cv hc => by
    obtain ⟨c, z1, z2, z3⟩ := h3 pos cv hc
    obtain ⟨y1, y2⟩ := ko _ _ z3 z2 (fun _ z => by unfold LamX.CodeO at z; cases z)
    exact ⟨c, z1, y1, y2⟩⟩
theorem RS.notin (r : RS K w mg φ H st) {p : Addr} (h : H p = none) : p ∉ φ := fun z => by
  obtain ⟨i, hi, e⟩ := List.getElem_of_mem z
  have h1 : φ[i]? = some p := by rw [List.getElem?_eq_getElem hi, e]
  have h2 : i < st.length := by rw [← r.len]; exact hi
  have h3 := r.all i p st[i] h1 (List.getElem?_eq_getElem h2)
  cases ho : st[i] with
  | lst ds =>
    rw [ho] at h3
    obtain ⟨xs, q, _⟩ := h3
    rw [h] at q
    cases q
  | oth u =>
    rw [ho] at h3
    obtain ⟨o, q, _⟩ := RO2.isO h3
    rw [h] at q
    cases q
theorem ext_new {p : Addr} {o : HO} (h : H p = none) : Ext φ H φ (upd H p o) := ⟨⟨[], by simp⟩, fun a o n q => ⟨by rw [upd_ne (ne_of_none q h)]; exact q, n⟩, fun a o u q => by rw [upd_ne (ne_of_none q h)]; exact q⟩
theorem RS.ext (r : RS K w mg φ H st) (e : Ext φ H φ H') (k : ∀ a ∈ φ, H' a = H a) : RS K w mg φ H' st := ⟨r.len, r.nd, fun i a o h1 h2 => by
  have h3 := r.all i a o h1 h2
  cases o with
  | lst ds =>
    obtain ⟨xs, q, q2⟩ := h3
    exact ⟨xs, by rw [k a (List.mem_of_getElem? h1)]; exact q, q2.ext e⟩
  | oth u => exact RO2.ext e (k a (List.mem_of_getElem? h1)) h3⟩
theorem RS.new (r : RS K w mg φ H st) {p : Addr} {o : HO} (h : H p = none) : RS K w mg φ (upd H p o) st := r.ext (ext_new h) fun a ha => upd_ne fun z => r.notin h (z ▸ ha)
theorem RV.newTup (r : RS K w mg φ H st) {p : Addr} {ob : Obj} {xs : List V} {ds : List A} (hd : ob.dict = none) (h : H p = none) (q : RVs K φ H xs ds) : RV K φ (upd H p (.frz ob (.tup xs))) (.ref p) (.tup ds) :=
  .tup (.inl ⟨⟨ob, hd, upd_same⟩, r.notin h⟩) (q.ext (ext_new h))
theorem new_tup {X : Cx} {pins : List (Addr × Obj)} {σ : L2.St} {H : Hp} {s : Shared} {its : List Value} {xs : List V} {Q : V → Hp → Prop} (I : Inv X pins σ H s) (r : Vals xs its) (hz : xs.length ≤ sizeLine) (q : NewT H xs Q) :
    EP X pins σ Q (.ref s.heap.objs.size) { s with heap := s.heap.push { cls := .type "tuple", data := .seq its.toArray } } :=
  ⟨.ref s.heap.objs.size, _, I.laid (t' := s.toks) (o := .frz { cls := .type "tuple", data := .seq its.toArray } (.tup xs)) (fun b ob q => Heap.get?_push_of_some _ q) (Nat.le_refl _) ⟨Heap.get?_push_size _ rfl, hz, its, r, PyProof.Rows.IsTup.new _ _⟩, rfl, q _ _ rfl (I.hok.fresh (Nat.le_refl _))⟩
def tTupP (t : TA) : TE := fun σ H Q => t σ H fun xs H1 => xs.length ≤ sizeLine ∧ NewT H1 xs Q
theorem pe_tupP {X : Cx} {es : List Expr} {t : TA} {x1 : Nat} {pos : Pos} (h : PA X es t) : PE X (.Tuple es x1 pos) (tTupP t) :=
  ⟨fun pins s σ H Q I hq => wpAny_Tuple_spliced (thn (h.run pos pins s σ H _ I hq) fun us s1 ⟨xs, H1, I1, r, z, q⟩ => ⟨by rw [← r.length]; exact z, new_tup I1 r z q⟩)⟩
theorem ext_alloc {p : Addr} {o : HO} (r : RS K w mg φ H st) (h : H p = none) : Ext φ H (φ ++ [p]) (upd H p o) := ⟨⟨[p], rfl⟩, fun a u n q => by
  have ne : a ≠ p := ne_of_none q h
  refine ⟨by rw [upd_ne ne]; exact q, fun z => ?_⟩
  rcases List.mem_append.mp z with z | z
  · exact n z
  · exact ne (by simpa using z), fun a o u q => by rw [upd_ne (ne_of_none q h)]; exact q⟩
theorem RS.alloc (r : RS K w mg φ H st) {p : Addr} {xs : List V} {ds : List A} (h : H p = none) (q : RVs K φ H xs ds) : RS K w mg (φ ++ [p]) (upd H p (.lst xs)) (st ++ [.lst ds]) := by
  have e := ext_alloc (o := .lst xs) r h
  refine ⟨by simp [r.len], ?_, fun i a o h1 h2 => ?_⟩
  · rw [List.nodup_append]
    refine ⟨r.nd, by simp, fun a ha b hb z => ?_⟩
    have : b = p := by simpa using hb
    subst this
    subst z
    exact r.notin h ha
  · by_cases hi : i < φ.length
    · rw [List.getElem?_append_left hi] at h1
      rw [List.getElem?_append_left (by rw [← r.len]; exact hi)] at h2
      have h3 := r.all i a o h1 h2
      have na : a ≠ p := fun z => r.notin h (z ▸ List.mem_of_getElem? h1)
      cases o with
      | lst ds' =>
        obtain ⟨ys, y1, y2⟩ := h3
        exact ⟨ys, by rw [upd_ne na]; exact y1, y2.ext e⟩
      | oth u => exact RO2.ext e (upd_ne na) h3
    · have hi2 : i = φ.length := by
        have := (List.getElem?_eq_some_iff.mp h1).1
        rw [List.length_append, List.length_singleton] at this
        omega
      subst hi2
      rw [List.getElem?_append_right (Nat.le_refl _)] at h1
      rw [List.getElem?_append_right (by rw [r.len]; exact Nat.le_refl _)] at h2
      simp at h1
      rw [r.len] at h2
      simp at h2
      subst h1
      subst h2
      exact ⟨xs, upd_same, q.ext e⟩
theorem RV.newLst (r : RS K w mg φ H st) {p : Addr} {H' : Hp} : RV K (φ ++ [p]) H' (.ref p) (.ref st.length) := .ref (by
  rw [List.getElem?_append_right (by rw [r.len]; exact Nat.le_refl _), r.len]
  simp)
theorem RS.write (r : RS K w mg φ H st) {i : Nat} {p : Addr} {zs : List A} {ys : List V} {ds : List A} (hp : φ[i]? = some p) (ho : st[i]? = some (.lst zs)) (q : RVs K φ H ys ds) : Ext φ H φ (upd H p (.lst ys)) ∧ RS K w mg φ (upd H p (.lst ys)) (st.set i (.lst ds)) := by
  have hm : p ∈ φ := List.mem_of_getElem? hp
  have e : Ext φ H φ (upd H p (.lst ys)) := ⟨⟨[], by simp⟩, fun a u n q => ⟨by rw [upd_ne (show a ≠ p from fun z => n (by rw [z]; exact hm))]; exact q, n⟩, fun a o u q => by
    obtain ⟨_, hl, _⟩ := r.all i p _ hp ho
    rw [upd_ne (show a ≠ p from fun z => by rw [z, hl] at q; cases q)]
    exact q⟩
  refine ⟨e, by rw [List.length_set]; exact r.len, r.nd, fun j a u h1 h2 => ?_⟩
  by_cases hj : i = j
  · subst hj
    rw [hp] at h1
    cases h1
    rw [List.getElem?_set_self (List.getElem?_eq_some_iff.mp ho).1] at h2
    cases h2
    exact ⟨ys, upd_same, q.ext e⟩
  · rw [List.getElem?_set_ne hj] at h2
    have h3 := r.all j a u h1 h2
    have na : a ≠ p := fun z => by
      subst z
      obtain ⟨l1, e1⟩ := List.getElem?_eq_some_iff.mp hp
      obtain ⟨l2, e2⟩ := List.getElem?_eq_some_iff.mp h1
      exact hj ((List.getElem_inj r.nd).mp (e1.trans e2.symm))
    cases u with
    | lst ds' =>
      obtain ⟨zs, y1, y2⟩ := h3
      exact ⟨zs, by rw [upd_ne na]; exact y1, y2.ext e⟩
    | oth u => exact RO2.ext e (upd_ne na) h3
theorem RS.lst (r : RS K w mg φ H st) {i : Nat} {p : Addr} {ds : List A} (hp : φ[i]? = some p) (ho : st[i]? = some (.lst ds)) : ∃ xs, H p = some (.lst xs) ∧ RVs K φ H xs ds := r.all i p _ hp ho
theorem RErr.ext {c : Value} {d : Option Addr} {x : Er} (r : RErr K mg φ H c d x) (e : Ext φ H φ' H') : RErr K mg φ' H' c d x := by
  obtain ⟨h1, h2 | ⟨dx, xs, q1, q2, q3, q4, q5⟩⟩ := r
  · exact ⟨h1, .inl h2⟩
  · obtain ⟨y1, y2⟩ := e.fr _ _ q3 q2
    exact ⟨h1, .inr ⟨dx, xs, q1, y1, y2, q4, q5.ext e⟩⟩
end
abbrev WH := Value → Option Addr → Hp → Prop
def Pst {α β : Type} (K : PySem.W.Frag) (w : World) (mg : Str → Option Value) (Rl : List Addr → Hp → β → α → Prop) (W : WH) (φ : List Addr) (H : Hp) (r : R α) (Q : β → Hp → Prop) : Prop := match r with
  | .ok a st => ∀ φ' v H', Ext φ H φ' H' → RS K w mg φ' H' st → Rl φ' H' v a → Q v H'
  | .er e st => ∀ φ' c d H', Ext φ H φ' H' → RS K w mg φ' H' st → RErr K mg φ' H' c d e → W c d H'
  | .bad => False
abbrev rlB : List Addr → Hp → Bool → Bool → Prop := fun _ _ x y => x = y
def tG {α β : Type} (K : PySem.W.Frag) (w : World) (mg : Str → Option Value) (Rl : List Addr → Hp → β → α → Prop) (W : WX) (m : Env → Store → R α) : St → Hp → (β → Hp → Prop) → Prop := fun σ H Q =>
  ∃ φ ρ st, RS K w mg φ H st ∧ RE K φ H σ ρ ∧ Pst K w mg Rl (fun c d H' => W c d σ H') φ H (m ρ st) Q
abbrev tE (X : Cx) (W : WX) (m : MX) : TE := tG X.K X.w X.mg (RV X.K) W m
abbrev tT (X : Cx) (W : WX) (m : MT) : TT := tG X.K X.w X.mg rlB W m
abbrev tA (X : Cx) (W : WX) (m : MA) : TA := tG X.K X.w X.mg (RVs X.K) W m
section
variable {K : PySem.W.Frag} {w : World} {φ φ' : List Addr} {H H' : Hp} {st : Store} {mg : Str → Option Value} {α β γ δ : Type} {W : WH}
variable {Rl : List Addr → Hp → β → α → Prop} {Rl2 : List Addr → Hp → δ → γ → Prop}
theorem Pst.mono {r : R α} {Q : β → Hp → Prop} (h : Pst K w mg Rl W φ H r Q) (e : Ext φ H φ' H') : Pst K w mg Rl W φ' H' r Q := by
  cases r with
  | ok a st => exact fun φ2 v H2 e2 s q => h φ2 v H2 (e.trans e2) s q
  | er x st => exact fun φ2 c d H2 e2 s q => h φ2 c d H2 (e.trans e2) s q
  | bad => exact h
theorem Pst.seq {r : R α} {f : α → Store → R γ} {Q1 : β → Hp → Prop} {Q : δ → Hp → Prop} (h : Pst K w mg Rl2 W φ H (r.bind f) Q)
    (k : ∀ φ1 a x H1 st1, Ext φ H φ1 H1 → RS K w mg φ1 H1 st1 → Rl φ1 H1 x a → Pst K w mg Rl2 W φ1 H1 (f a st1) Q → Q1 x H1) : Pst K w mg Rl W φ H r Q1 := by
  cases r with
  | ok a st => exact fun φ1 v H1 e s q => k φ1 a v H1 st e s q (Pst.mono h e)
  | er x st => exact h
  | bad => exact h
theorem Pst.imp {r : R α} {Q Q' : β → Hp → Prop} (h : Pst K w mg Rl W φ H r Q) (k : ∀ v H', Q v H' → Q' v H') : Pst K w mg Rl W φ H r Q' := by
  cases r with
  | ok a st => exact fun φ2 v H2 e2 s q => k _ _ (h φ2 v H2 e2 s q)
  | er x st => exact h
  | bad => exact h
theorem Pst.ok {a : α} {v : β} {Q : β → Hp → Prop} (h : Pst K w mg Rl W φ H (.ok a st) Q) (s : RS K w mg φ H st) (q : Rl φ H v a) : Q v H := h φ v H Ext.refl s q
end
section
variable {X : Cx} {e : Expr} {es : List Expr} {t t' : TE}
theorem _root_.L2.PE.imp (h : PE X e t) (k : ∀ σ H Q, t' σ H Q → t σ H Q) : PE X e t' := ⟨fun pins s σ H Q I q => h.run pins s σ H Q I (k _ _ _ q)⟩
theorem _root_.L2.PT.imp {t t' : TT} (h : PT X e t) (k : ∀ σ H Q, t' σ H Q → t σ H Q) : PT X e t' := ⟨fun pins s σ H Q I q => h.run pins s σ H Q I (k _ _ _ q)⟩
theorem PWimp {t t' : TT} (h : L2.PW X e t) (k : ∀ σ H Q, t' σ H Q → t σ H Q) : L2.PW X e t' := ⟨fun w pins s σ H Q I q => h.run w pins s σ H Q I (k _ _ _ q)⟩
theorem _root_.L2.PA.imp {t t' : TA} (h : PA X es t) (k : ∀ σ H Q, t' σ H Q → t σ H Q) : PA X es t' := ⟨fun pos pins s σ H Q I q => h.run pos pins s σ H Q I (k _ _ _ q)⟩
theorem OpR.or {f : Value → Value → Sem Value} {r r' : R2} (h : OpR X f r) (h' : OpR X f r') : OpR X f (fun x y H Q => r x y H Q ∨ r' x y H Q) := fun pins s σ H x y v u Q I a b q =>
  q.elim (h pins s σ H x y v u Q I a b) (h' pins s σ H x y v u Q I a b)
theorem CallR.or {f : Value} {r r' : List V → Hp → VK → Prop} (h : CallR X f r) (h' : CallR X f r') : CallR X f (fun xs H Q => r xs H Q ∨ r' xs H Q) := fun pins s σ H xs us Q I a q =>
  q.elim (h pins s σ H xs us Q I a) (h' pins s σ H xs us Q I a)
end
end ML
namespace ML
open PySem PySem.Spec L2
mutual
def dataW (f : Nat → Option PyData) : A → Option PyData
  | .non => some .none
  | .bl b => some (.bool b)
  | .int i => some (.int i)
  | .str x => some (.str x)
  | .tup xs => (dataWs f xs).map .tuple
  | .scr xs => (dataWs f xs).map .list
  | .ref i => f i
def dataWs (f : Nat → Option PyData) : List A → Option (List PyData)
  | [] => some []
  | x :: xs => match dataW f x, dataWs f xs with
    | some d, some ds => some (d :: ds)
    | _, _ => none
end
def derefN : Nat → Store → Nat → Option PyData
  | 0, _, _ => none
  | n + 1, st, i => match st[i]? with
    | some (.lst xs) => (dataWs (derefN n st) xs).map .list
    | _ => none
def dataOf (st : Store) (a : A) : Option PyData := dataW (derefN 4 st) a
section
variable {K : PySem.W.Frag} {w : World} {mg : Str → Option Value} {φ φ' : List Addr} {H H' : Hp} {st : Store}
mutual
theorem dataW_ok {f : Nat → Option PyData} (hf : ∀ i d p, f i = some d → φ[i]? = some p → Dp K H (.ref p) d) : ∀ {v : V} {a : A} {d : PyData}, RV K φ H v a → dataW f a = some d → Dp K H v d
  | _, _, _, .non, h => by simp only [dataW] at h; cases h; exact .non
  | _, _, _, .bl b, h => by simp only [dataW] at h; cases h; exact .bl b
  | _, _, _, .int i, h => by simp only [dataW] at h; cases h; exact .int i
  | _, _, _, .str x, h => by simp only [dataW] at h; cases h; exact .str x
  | _, _, _, .tup (ds := ds) q r, h => by
    simp only [dataW] at h
    cases e : dataWs f ds with
    | none => rw [e] at h; cases h
    | some es =>
      rw [e] at h
      cases h
      exact .tup q.sq (dataWs_ok hf r e)
  | _, _, _, .scr (ds := ds) q r, h => by
    simp only [dataW] at h
    cases e : dataWs f ds with
    | none => rw [e] at h; cases h
    | some es =>
      rw [e] at h
      cases h
      exact .lst q.sq (dataWs_ok hf r e)
  | _, _, _, .ref q, h => by
    simp only [dataW] at h
    exact hf _ _ _ h q
theorem dataWs_ok {f : Nat → Option PyData} (hf : ∀ i d p, f i = some d → φ[i]? = some p → Dp K H (.ref p) d) : ∀ {vs : List V} {as : List A} {ds : List PyData}, RVs K φ H vs as → dataWs f as = some ds → DpAll K H vs ds
  | _, _, _, .nil, h => by simp only [dataWs] at h; cases h; exact .nil
  | _, _, _, .cons (d := x) (ds := xs) q r, h => by
    simp only [dataWs] at h
    cases e1 : dataW f x with
    | none => rw [e1] at h; cases h
    | some d =>
      cases e2 : dataWs f xs with
      | none => rw [e1, e2] at h; cases h
      | some ds =>
        rw [e1, e2] at h
        cases h
        exact .cons (dataW_ok hf q e1) (dataWs_ok hf r e2)
end
theorem derefN_ok (rs : RS K w mg φ H st) : ∀ (n i : Nat) (d : PyData) (p : Addr), derefN n st i = some d → φ[i]? = some p → Dp K H (.ref p) d
  | 0, _, _, _, h, _ => by cases h
  | n + 1, i, d, p, h, hp => by
    unfold derefN at h
    cases e : st[i]? with
    | none => rw [e] at h; cases h
    | some o =>
      cases o with
      | oth u => rw [e] at h; cases h
      | lst xs =>
        rw [e] at h
        obtain ⟨ys, h1, h2⟩ := rs.lst hp e
        cases e2 : dataWs (derefN n st) xs with
        | none => simp only [e2] at h; cases h
        | some ds =>
          simp only [e2] at h
          cases h
          exact .lst (.inl (.inl h1)) (dataWs_ok (derefN_ok rs n) h2 e2)
theorem dataOf_ok (rs : RS K w mg φ H st) {v : V} {a : A} {d : PyData} (r : RV K φ H v a) (h : dataOf st a = some d) : Dp K H v d := dataW_ok (derefN_ok rs 4) r h
end
def addA : A → A → Store → R A
  | .int i, .int j, st => .ok (.int (i + j)) st
  | .str x, .str y, st => if x.length + y.length ≤ sizeLine then .ok (.str (x ++ y)) st else .bad
  | .tup xs, .tup ys, st => if xs.length + ys.length ≤ sizeLine then .ok (.tup (xs ++ ys)) st else .bad
  | .ref i, .ref j, st => match st[i]?, st[j]? with
    | some (.lst xs), some (.lst ys) => if xs.length + ys.length ≤ sizeLine then .ok (.ref st.length) (st ++ [.lst (xs ++ ys)]) else .bad
    | _, _ => .bad
  | _, _, _ => .bad
def subA : A → A → Store → R A
  | .int i, .int j, st => .ok (.int (i - j)) st
  | _, _, _ => .bad
abbrev CMulA (i j : Int) : Prop := ((-(2 ^ 64) < i ∧ i < 2 ^ 64) ∨ (-(2 ^ 64) < j ∧ j < 2 ^ 64)) ∨ (Builtin.Int.intBits i : Int) + (Builtin.Int.intBits j : Int) ≤ 134217728
def mulA : A → A → Store → R A
  | .int i, .int j, st => if CMulA i j then .ok (.int (i * j)) st else .bad
  | .ref i, .int k, st => match st[i]? with
    | some (.lst xs) => if -(2 ^ 63) ≤ k ∧ k < 2 ^ 63 ∧ xs.length * k.toNat ≤ sizeLine then .ok (.ref st.length) (st ++ [.lst (List.replicate k.toNat xs).flatten]) else .bad
    | _ => .bad
  | .tup xs, .int k, st => if 0 ≤ k ∧ k ≤ 1000000 ∧ xs.length * k.toNat ≤ sizeLine then .ok (.tup (List.replicate k.toNat xs).flatten) st else .bad
  | _, _, _ => .bad
def fdivA : A → A → Store → R A
  | .int i, .int j, st => if 0 < j ∧ j.natAbs.log2 < 9000 then .ok (.int (i / j)) st else .bad
  | _, _, _ => .bad
def modA : A → A → Store → R A
  | .int i, .int j, st => if 0 < j then .ok (.int (i % j)) st else .bad
  | _, _, _ => .bad
def powA : A → A → Store → R A
  | .int i, .int j, st => if 0 ≤ j ∧ j ≤ 1000000 ∧ i.natAbs < 2 ^ 64 then .ok (.int (i ^ j.toNat)) st else .bad
  | _, _, _ => .bad
def negA : A → Store → R A
  | .int i, st => .ok (.int (-i)) st
  | _, _ => .bad
def ltA : A → A → Store → R A
  | .int i, .int j, st => .ok (.bl (decide (i < j))) st
  | .str x, .str y, st => .ok (.bl (decide (x.cps.toList < y.cps.toList))) st
  | _, _, _ => .bad
def gtA : A → A → Store → R A
  | .int i, .int j, st => .ok (.bl (decide (j < i))) st
  | .str x, .str y, st => .ok (.bl (decide (y.cps.toList < x.cps.toList))) st
  | _, _, _ => .bad
def leA : A → A → Store → R A
  | .int i, .int j, st => .ok (.bl (decide (i ≤ j))) st
  | _, _, _ => .bad
def eqS : A → A → Option Bool
  | .int i, .int j => some (decide (i = j))
  | .str x, .str y => some (decide (x = y))
  | .bl a, .bl b => some (decide (a = b))
  | .non, .non => some true
  | .int _, .str _ => some false
  | .str _, .int _ => some false
  | .non, .int _ => some false
  | .int _, .non => some false
  | .non, .str _ => some false
  | .str _, .non => some false
  | _, _ => none
theorem eqS_ok {K : PySem.W.Frag} {φ : List Addr} {H : Hp} {x y : V} {a b : A} {k : Bool} (ra : RV K φ H x a) (rb : RV K φ H y b) (h : eqS a b = some k) : scal x y = true ∧ decide (x = y) = k := by
  cases ra <;> cases rb <;> first | (cases h; exact ⟨rfl, by simp⟩) | cases h
def eqB (x y : A) (st : Store) : Option Bool := match eqS x y with
  | some b => some b
  | none => match dataOf st x, dataOf st y with
    | some d, some e => if SeqAt.shaped d = true ∧ SeqAt.shaped e = true then some (PyData.eqv d e) else none
    | _, _ => none
def eqA (x y : A) (st : Store) : R A := match eqB x y st with
  | some b => .ok (.bl b) st
  | none => .bad
def neA (x y : A) (st : Store) : R A := match eqB x y st with
  | some b => .ok (.bl (!b)) st
  | none => .bad
def isNonA : A → Bool
  | .non => true
  | _ => false
def isNA : A → A → Store → R A
  | x, .non, st => .ok (.bl (isNonA x)) st
  | _, _, _ => .bad
def OpS (X : Cx) (r : R2) (g : A → A → Store → R A) : Prop := ∀ (W : WH) (φ : List Addr) (H : Hp) (st : Store) (x y : V) (a b : A) (Q : VK), RS X.K X.w X.mg φ H st → RV X.K φ H x a → RV X.K φ H y b → Pst X.K X.w X.mg (RV X.K) W φ H (g a b st) Q → r x y H Q
section
variable {X : Cx} {W : WX} {a b e : Expr} {es : List Expr} {ma mb : MX} {pos : Pos}
def mVar (i : Nat) : MX := fun ρ st => match ρ[i]? with
  | some (some a) => .ok a st
  | _ => .bad
def mC (a : A) : MX := fun _ st => .ok a st
theorem me_var (i : Nat) {x : Str} {pos : Pos} (hN : X.N[i]? = some x := by rfl) (hv : Vis X.env.scope x := by first | exact Or.inl rfl | exact Or.inr (Or.inl rfl) | exact Or.inr (Or.inr rfl)) (hd : (x == ("__debug__" : Str)) = false := by decide)
    (hcd : (x == ("__classdict__" : Str)) = false := by decide) : PE X (.Name x pos) (tE X W (mVar i)) := (pv i hN hv hd hcd).imp fun σ H Q ⟨φ, ρ, st, rs, re, h⟩ => by
  unfold mVar at h
  cases q : ρ[i]? with
  | none => rw [q] at h; exact h.elim
  | some o =>
    cases o with
    | none => rw [q] at h; exact h.elim
    | some d =>
      rw [q] at h
      obtain ⟨v, h1, h2⟩ := re.all i d q
      exact ⟨v, h1, h.ok rs h2⟩
theorem me_int {i : Int} {j pos} : PE X (.Constant (.int i) j pos) (tE X W (mC (.int i))) := pe_int.imp fun _ _ _ ⟨_, _, _, rs, _, h⟩ => h.ok rs (.int i)
theorem me_bl {b : Bool} {j pos} : PE X (.Constant (.bool b) j pos) (tE X W (mC (.bl b))) := pe_bl.imp fun _ _ _ ⟨_, _, _, rs, _, h⟩ => h.ok rs (.bl b)
theorem me_non {j pos} : PE X (.Constant .none j pos) (tE X W (mC .non)) := pe_non.imp fun _ _ _ ⟨_, _, _, rs, _, h⟩ => h.ok rs .non
theorem me_str {x : Str} {j pos} : PE X (.Constant (.str x) j pos) (tE X W (mC (.str x))) := pe_str.imp fun _ _ _ ⟨_, _, _, rs, _, h⟩ => h.ok rs (.str x)
theorem me_glob {x : Str} {v : V} {u : Value} {d : A} {pos : Pos} (hg : Gl X x) (hm : X.mg x = some u) (r : RelV v u) (hv : ∀ φ H, RV X.K φ H v d) (hd : (x == ("__debug__" : Str)) = false := by decide) : PE X (.Name x pos) (tE X W (mC d)) :=
  (pe_glob hg hm r hd).imp fun _ H _ ⟨φ, _, _, rs, _, h⟩ => h.ok rs (hv φ H)
def mBin (g : A → A → Store → R A) (ma mb : MX) : MX := fun ρ st => (ma ρ st).bind fun x st1 => (mb ρ st1).bind fun y st2 => g x y st2
def mUn (g : A → Store → R A) (ma : MX) : MX := fun ρ st => (ma ρ st).bind fun x st1 => g x st1
theorem bin_ok {r : R2} {g : A → A → Store → R A} (hg : OpS X r g) {σ : L2.St} {H : Hp} {Q : VK} (h : tE X W (mBin g ma mb) σ H Q) : tOp r (tE X W ma) (tE X W mb) σ H Q := by
  obtain ⟨φ, ρ, st, rs, re, h⟩ := h
  exact ⟨φ, ρ, st, rs, re, h.seq fun φ1 a x H1 st1 e1 rs1 rv1 h1 => ⟨φ1, ρ, st1, rs1, re.ext e1, h1.seq fun φ2 b y H2 st2 e2 rs2 rv2 h2 => hg _ _ _ _ _ _ _ _ _ rs2 (rv1.ext e2) rv2 h2⟩⟩
theorem me_bin {op : Operator} {r : R2} {g : A → A → Store → R A} (ho : OpR X (binaryOp op) r) (hg : OpS X r g) (ha : PE X a (tE X W ma)) (hb : PE X b (tE X W mb)) : PE X (.BinOp a op b pos) (tE X W (mBin g ma mb)) := (pe_op ho ha hb).imp fun _ _ _ h => bin_ok hg h
theorem me_cmp {op : CmpOp} {r : R2} {g : A → A → Store → R A} (ho : OpR X (compareOp op) r) (hg : OpS X r g) (ha : PE X a (tE X W ma)) (hb : PE X b (tE X W mb)) (hm : behindInMarks op b = false := by first | exact nomark _ | rfl) : PE X (.Compare a [op] [b] pos) (tE X W (mBin g ma mb)) := (pe_cmpR ho ha hb hm).imp fun _ _ _ h => bin_ok hg h
theorem me_neg (ha : PE X a (tE X W ma)) : PE X (.UnaryOp .USub a pos) (tE X W (mUn negA ma)) := (pe_un un_neg ha).imp fun σ H Q ⟨φ, ρ, st, rs, re, h⟩ => by
  refine ⟨φ, ρ, st, rs, re, h.seq fun φ1 a x H1 st1 e1 rs1 rv1 h1 => ?_⟩
  cases rv1 with
  | int i => exact ⟨i, rfl, h1.ok rs1 (.int _)⟩
  | _ => exact (show False from h1).elim
def truA : A → Store → R Bool
  | .non, st => .ok false st
  | .bl b, st => .ok b st
  | .int i, st => .ok (i != 0) st
  | .str x, st => if x.length ≤ sizeLine then .ok ((x.length : Int) != 0) st else .bad
  | .tup xs, st => .ok (!xs.isEmpty) st
  | .scr xs, st => .ok (!xs.isEmpty) st
  | .ref i, st => match st[i]? with
    | some (.lst xs) => .ok (!xs.isEmpty) st
    | _ => .bad
def mTru (ma : MX) : MT := fun ρ st => (ma ρ st).bind truA
def mAnd (ma mb : MT) : MT := fun ρ st => (ma ρ st).bind fun x st1 => if x = true then mb ρ st1 else .ok false st1
def mOr (ma mb : MT) : MT := fun ρ st => (ma ρ st).bind fun x st1 => if x = true then .ok true st1 else mb ρ st1
def mNot (ma : MT) : MT := fun ρ st => (ma ρ st).bind fun x st1 => .ok (!x) st1
theorem RVs.empty {K : PySem.W.Frag} {φ : List Addr} {H : Hp} {xs : List V} {ds : List A} (q : RVs K φ H xs ds) : xs.isEmpty = ds.isEmpty := by
  cases q <;> rfl
theorem tru_ok' {K : PySem.W.Frag} {mg : Str → Option Value} {W : WH} {φ : List Addr} {H : Hp} {st : Store} {x : V} {a : A} {Q : Bool → Hp → Prop} (rs : RS K w mg φ H st) (r : RV K φ H x a) (h : Pst K w mg rlB W φ H (truA a st) Q) : ∃ k, TruV K x H k ∧ Q k H := by
  cases r with
  | non => exact ⟨false, rfl, h.ok rs rfl⟩
  | bl b => exact ⟨b, rfl, h.ok rs rfl⟩
  | int i => exact ⟨_, rfl, h.ok rs rfl⟩
  | str x =>
    by_cases hz : x.length ≤ sizeLine
    · rw [truA, if_pos hz] at h
      exact ⟨_, ⟨hz, rfl⟩, h.ok rs rfl⟩
    · rw [truA, if_neg hz] at h
      exact h.elim
  | tup q q2 => exact ⟨_, .inr (.inl ⟨_, q.sq, rfl⟩), h.ok rs (by rw [q2.empty])⟩
  | scr q q2 => exact ⟨_, .inl ⟨_, q.sq, rfl⟩, h.ok rs (by rw [q2.empty])⟩
  | @ref p i q =>
    unfold truA at h
    simp only at h
    cases e : st[i]? with
    | none => rw [e] at h; exact h.elim
    | some o =>
      cases o with
      | oth u => rw [e] at h; exact h.elim
      | lst ds =>
        rw [e] at h
        obtain ⟨xs, h1, h2⟩ := rs.lst q e
        exact ⟨_, .inl ⟨_, .inl (.inl h1), rfl⟩, h.ok rs (by rw [h2.empty])⟩
theorem mt_tru (ha : PE X a (tE X W ma)) (he : ∀ whole, isTrue a X.env whole = (do let v ← whole; standAt a.pos; holding [v] (truthy v)) := by intro _; rfl) : PT X a (tT X W (mTru ma)) := (pt_truth ha he).imp fun σ H Q ⟨φ, ρ, st, rs, re, h⟩ => by
  refine ⟨φ, ρ, st, rs, re, h.seq fun φ1 a x H1 st1 e1 rs1 rv1 h1 => ?_⟩
  exact tru_ok' rs1 rv1 h1
def getB : A → Store → R Bool
  | .bl b, st => .ok b st
  | _, _ => .bad
def mGB (ma : MX) : MT := fun ρ st => (ma ρ st).bind getB
theorem getB_ok {K : PySem.W.Frag} {mg : Str → Option Value} {W : WH} {φ : List Addr} {H : Hp} {st : Store} {x : V} {a : A} {Q : Bool → Hp → Prop} (rs : RS K w mg φ H st) (r : RV K φ H x a) (h : Pst K w mg rlB W φ H (getB a st) Q) : ∃ k, x = .bl k ∧ Q k H := by
  cases r with
  | bl b => exact ⟨b, rfl, h.ok rs rfl⟩
  | _ => exact (show False from h).elim
theorem mt_cmp {op : CmpOp} {r : R2} {g : A → A → Store → R A} (ho : OpR X (compareOp op) r) (hg : OpS X r g) (ha : PE X a (tE X W ma)) (hb : PE X b (tE X W mb)) (hm : behindInMarks op b = false := by first | exact nomark _ | rfl) : PT X (.Compare a [op] [b] pos) (tT X W (mGB (mBin g ma mb))) := (pt_cmpR ho ha hb hm).imp fun σ H Q h => by
  refine bin_ok (W := W) hg ?_
  obtain ⟨φ, ρ, st, rs, re, h⟩ := h
  exact ⟨φ, ρ, st, rs, re, h.seq fun φ1 a x H1 st1 e1 rs1 rv1 h1 => getB_ok rs1 rv1 h1⟩
variable {ta tb : MT} {rest : List Expr}
theorem mw_and1 (ha : PT X a (tT X W ta)) : L2.PW X (.BoolOp .And [a] pos) (tT X W ta) := pw_and1 ha
theorem mw_or1 (ha : PT X a (tT X W ta)) : L2.PW X (.BoolOp .Or [a] pos) (tT X W ta) := pw_or1 ha
theorem mw_and (ha : PT X a (tT X W ta)) (hb : L2.PW X (.BoolOp .And (b :: rest) pos) (tT X W tb)) : L2.PW X (.BoolOp .And (a :: b :: rest) pos) (tT X W (mAnd ta tb)) := PWimp (pw_and ha hb) fun σ H Q ⟨φ, ρ, st, rs, re, h⟩ => by
  refine ⟨φ, ρ, st, rs, re, h.seq fun φ1 a x H1 st1 e1 rs1 rv1 h1 => ?_⟩
  subst rv1
  cases x with
  | true => exact iteT ⟨φ1, ρ, st1, rs1, re.ext e1, h1⟩
  | false => exact iteF (h1.ok rs1 rfl)
theorem mw_or (ha : PT X a (tT X W ta)) (hb : L2.PW X (.BoolOp .Or (b :: rest) pos) (tT X W tb)) : L2.PW X (.BoolOp .Or (a :: b :: rest) pos) (tT X W (mOr ta tb)) := PWimp (pw_or ha hb) fun σ H Q ⟨φ, ρ, st, rs, re, h⟩ => by
  refine ⟨φ, ρ, st, rs, re, h.seq fun φ1 a x H1 st1 e1 rs1 rv1 h1 => ?_⟩
  subst rv1
  cases x with
  | false => exact iteF ⟨φ1, ρ, st1, rs1, re.ext e1, h1⟩
  | true => exact iteT (h1.ok rs1 rfl)
theorem mt_not (ha : PT X a (tT X W ta)) : PT X (.UnaryOp .Not a pos) (tT X W (mNot ta)) := (pt_not ha).imp fun σ H Q ⟨φ, ρ, st, rs, re, h⟩ => by
  refine ⟨φ, ρ, st, rs, re, h.seq fun φ1 a x H1 st1 e1 rs1 rv1 h1 => ?_⟩
  exact h1.ok rs1 (by rw [show x = a from rv1])
def mAndV (ma mb : MX) : MX := fun ρ st => (ma ρ st).bind fun x st1 => (getB x st1).bind fun k st2 => if k = true then mb ρ st2 else .ok (.bl false) st2
theorem me_one {op} (ha : PE X a (tE X W ma)) : PE X (.BoolOp op [a] pos) (tE X W ma) := pe_one ha
theorem getB_seq {K : PySem.W.Frag} {mg : Str → Option Value} {W : WH} {φ : List Addr} {H : Hp} {st : Store} {x : V} {a : A} {f : Bool → Store → R A} {Q : VK} (r : RV K φ H x a) (h : Pst K w mg (RV K) W φ H ((getB a st).bind f) Q) : ∃ k, x = .bl k ∧ Pst K w mg (RV K) W φ H (f k st) Q := by
  cases r with
  | bl b => exact ⟨b, rfl, h⟩
  | _ => exact (show False from h).elim
theorem me_and (ha : PE X a (tE X W ma)) (hb : PE X (.BoolOp .And (b :: rest) pos) (tE X W mb)) : PE X (.BoolOp .And (a :: b :: rest) pos) (tE X W (mAndV ma mb)) := (pe_and ha hb).imp fun σ H Q ⟨φ, ρ, st, rs, re, h⟩ => by
  refine ⟨φ, ρ, st, rs, re, h.seq fun φ1 a x H1 st1 e1 rs1 rv1 h1 => ?_⟩
  obtain ⟨k, hk, h2⟩ := getB_seq rv1 h1
  refine ⟨k, hk, ?_⟩
  cases k with
  | true => exact iteT ⟨φ1, ρ, st1, rs1, re.ext e1, h2⟩
  | false => exact iteF (h2.ok rs1 (.bl _))
def mNil : MA := fun _ st => .ok [] st
def mCons (ma : MX) (mr : MA) : MA := fun ρ st => (ma ρ st).bind fun x st1 => (mr ρ st1).bind fun xs st2 => .ok (x :: xs) st2
theorem ma_nil : PA X [] (tA X W mNil) := pa_nil.imp fun _ _ _ ⟨_, _, _, rs, _, h⟩ => h.ok rs .nil
variable {mr : MA}
theorem ma_cons (ha : PE X e (tE X W ma)) (hr : PA X es (tA X W mr)) (hs : starEach (e :: es) X.env = (false, eval e X.env) :: starEach es X.env := by rfl) : PA X (e :: es) (tA X W (mCons ma mr)) := (pa_cons ha hr hs).imp fun σ H Q ⟨φ, ρ, st, rs, re, h⟩ =>
  ⟨φ, ρ, st, rs, re, h.seq fun φ1 a x H1 st1 e1 rs1 rv1 h1 => ⟨φ1, ρ, st1, rs1, re.ext e1, h1.seq fun φ2 b y H2 st2 e2 rs2 rv2 h2 => h2.ok rs2 (.cons (rv1.ext e2) rv2)⟩⟩
def mTup (ms : MA) : MX := fun ρ st => (ms ρ st).bind fun xs st1 => if xs.length ≤ sizeLine then .ok (.tup xs) st1 else .bad
def mLst (ms : MA) : MX := fun ρ st => (ms ρ st).bind fun xs st1 => if xs.length ≤ sizeLine then .ok (.ref st1.length) (st1 ++ [.lst xs]) else .bad
theorem me_tup {x1} (h : PA X es (tA X W mr)) : PE X (.Tuple es x1 pos) (tE X W (mTup mr)) := (pe_tupP h).imp fun σ H Q ⟨φ, ρ, st, rs, re, h⟩ => by
  refine ⟨φ, ρ, st, rs, re, h.seq fun φ1 as xs H1 st1 e1 rs1 rv1 h1 => ?_⟩
  by_cases hz : as.length ≤ sizeLine
  · rw [if_pos hz] at h1
    exact ⟨by rw [rv1.length]; exact hz, fun p o hd hp => h1 φ1 _ _ (ext_new hp) (rs1.new hp) (.newTup rs1 hd hp rv1)⟩
  · rw [if_neg hz] at h1
    exact h1.elim
theorem me_lst (h : PA X es (tA X W mr)) : PE X (.List es pos) (tE X W (mLst mr)) := (pe_lst h).imp fun σ H Q ⟨φ, ρ, st, rs, re, h⟩ => by
  refine ⟨φ, ρ, st, rs, re, h.seq fun φ1 as xs H1 st1 e1 rs1 rv1 h1 => ?_⟩
  by_cases hz : as.length ≤ sizeLine
  · rw [if_pos hz] at h1
    exact ⟨by rw [rv1.length]; exact hz, fun p hp => h1 _ _ _ (ext_alloc rs1 hp) (rs1.alloc hp rv1) (.newLst rs1)⟩
  · rw [if_neg hz] at h1
    exact h1.elim
end
section
open PyProof.Rows
theorem tuple_mul_same (l : Addr) (items : Array Value) (n : Nat) (dd : Option Addr) (sl : Array (Option Value)) (x : Int) (u : Tok) (c0 : (decide (x < -(2 ^ 63)) || decide (x ≥ 2 ^ 63)) = false) (c1 : (items.isEmpty || x == 1) = true) :
    Meets (Builtin.«tuple.__mul__» ⟨[.ref l, .int x u], []⟩) (fun _ R s => s.heap.get? l = some { cls := .type "tuple", dict := dd, data := .seq items n, slots := sl } ∧
      R (.ok (.ret (Value.ref l))) s) :=
  .of_wp fun prog w A R s h => by
    obtain ⟨hp, g, d, tk, os⟩ := s
    obtain ⟨hl, h⟩ := h
    have f1 := AutoSeq1.idx_int
    wp_walk using wpAny_loadPart' hl
    repeat (first
      | (refine wpAny_ite_false (decide_eq_false (by rw [c0]; exact Bool.false_ne_true)) ?_; wp_walk using wpAny_loadPart' hl)
      | (refine wpAny_ite_true (decide_eq_true (by rw [c1])) ?_; wp_walk using wpAny_loadPart' hl))
    exact ⟨_, rfl, h⟩
theorem tuple_mul_none (l : Addr) (items : Array Value) (n : Nat) (dd : Option Addr) (sl : Array (Option Value)) (x : Int) (u : Tok) (c0 : (decide (x < -(2 ^ 63)) || decide (x ≥ 2 ^ 63)) = false) (c1 : (items.isEmpty || x == 1) = false) (c2 : (decide (x ≤ 0) || items.isEmpty) = true) :
    Meets (Builtin.«tuple.__mul__» ⟨[.ref l, .int x u], []⟩) (fun _ R s => s.heap.get? l = some { cls := .type "tuple", dict := dd, data := .seq items n, slots := sl } ∧
      R (.ok (.ret (Value.ref s.heap.objs.size))) { s with heap := s.heap.push { cls := Value.type "tuple", data := Data.seq #[] }, toks := s.toks }) :=
  .of_wp fun prog w A R s h => by
    obtain ⟨hp, g, d, tk, os⟩ := s
    obtain ⟨hl, h⟩ := h
    have f1 := AutoSeq1.idx_int
    wp_walk using wpAny_loadPart' hl
    repeat (first
      | (refine wpAny_ite_false (decide_eq_false (by rw [c0]; exact Bool.false_ne_true)) ?_; wp_walk using wpAny_loadPart' hl)
      | (refine wpAny_ite_false (decide_eq_false (by rw [c1]; exact Bool.false_ne_true)) ?_; wp_walk using wpAny_loadPart' hl)
      | (refine wpAny_ite_true (decide_eq_true (by rw [c2])) ?_; wp_walk using wpAny_loadPart' hl))
    exact ⟨_, rfl, h⟩
def rRepU (K : PySem.W.Frag) : R2 := fun x y H Q => ∃ l k xs, x = .ref l ∧ y = .int k ∧ SqT K H l xs ∧ 0 ≤ k ∧ k ≤ 1000000 ∧ xs.length * k.toNat ≤ sizeLine ∧
  (((xs = [] ∨ k = 1) ∧ Q (.ref l) H) ∨ (xs ≠ [] ∧ k ≠ 1 ∧ NewT H (List.replicate k.toNat xs).flatten Q))
section
variable {X : Cx}
theorem op_repU : OpR X (binaryOp .Mult) (rRepU X.K) := by
  intro pins s σ H x y v u Q I rx ry h
  obtain ⟨l, k, xs, rfl, rfl, hT, h1, h2, hz, q⟩ := h
  cases rx
  obtain ⟨t, rfl⟩ := ry
  obtain ⟨its, r, ⟨⟨cls, dd, data, sl⟩, ho, hc, n, hd⟩, hs⟩ := I.tuple hT
  simp only at hc hd
  subst hc hd
  have hle : its.length = xs.length := r.length.symm
  have hsz0 : its.toArray.size = xs.length := by rw [List.size_toArray, hle]
  have c0 : (decide (k < -(2 ^ 63)) || decide (k ≥ 2 ^ 63)) = false := by
    rw [decide_eq_false (by omega), decide_eq_false (by omega)] <;> rfl
  rcases q with ⟨hq, q⟩ | ⟨hne, hk1, q⟩
  · have c1 : (its.toArray.isEmpty || k == 1) = true := by
      rcases hq with e | e
      · subst e
        have : its = [] := List.eq_nil_of_length_eq_zero (by rw [hle]; rfl)
        subst this
        rfl
      · subst e
        simp
    refine wpAny_binaryOp_repeat_ref (T := "tuple") (U := "int") (by decide) ⟨_, ho, rfl⟩ (fun s' => typeIs_int s' k t) noFill_tuple_mul F.fills_int_mul F.slot_int_rmul repeat_tuple F.slot_int_index.lookup
      (call_meets F.slot_int_rmul (typeIs_int s k t) F.entry_int_rmul (F.args_int_rmul_2 _ _) (int_rmul_tuple k t l its.toArray n dd sl)
        ⟨ho, rfl, ⟨_, ho, rfl⟩, call_meets F.slot_tuple_mul ⟨_, ho, rfl⟩ F.entry_tuple_mul (F.args_tuple_mul_2 _ _) (tuple_mul_same l its.toArray n dd sl k t c0 c1) ⟨ho, ?_⟩⟩)
    exact ⟨.ref l, H, I, rfl, q⟩
  · have hn : its ≠ [] := fun e => hne (by
      rw [e] at hle
      exact List.eq_nil_of_length_eq_zero hle.symm)
    have hi : its.toArray.isEmpty = false := by
      cases its with
      | nil => exact absurd rfl hn
      | cons a b => rfl
    have c1 : (its.toArray.isEmpty || k == 1) = false := by
      rw [hi, Bool.false_or]
      exact beq_eq_false_iff_ne.mpr hk1
    by_cases k0 : k = 0
    · subst k0
      have c2 : (decide ((0 : Int) ≤ 0) || its.toArray.isEmpty) = true := by simp
      refine wpAny_binaryOp_repeat_ref (T := "tuple") (U := "int") (by decide) ⟨_, ho, rfl⟩ (fun s' => typeIs_int s' 0 t) noFill_tuple_mul F.fills_int_mul F.slot_int_rmul repeat_tuple F.slot_int_index.lookup
        (call_meets F.slot_int_rmul (typeIs_int s 0 t) F.entry_int_rmul (F.args_int_rmul_2 _ _) (int_rmul_tuple 0 t l its.toArray n dd sl)
          ⟨ho, rfl, ⟨_, ho, rfl⟩, call_meets F.slot_tuple_mul ⟨_, ho, rfl⟩ F.entry_tuple_mul (F.args_tuple_mul_2 _ _) (tuple_mul_none l its.toArray n dd sl 0 t c0 c1 c2) ⟨ho, ?_⟩⟩)
      exact new_tup (its := []) (xs := []) I .nil (Nat.zero_le _) q
    · have c2 : (decide (k ≤ 0) || its.toArray.isEmpty) = false := by
        rw [hi, Bool.or_false]
        exact decide_eq_false (by omega)
      have hm : ((its.toArray.size : Nat) : Int) * k ≤ 16777216 := by
        rw [hsz0]
        have e1 : ((xs.length * k.toNat : Nat) : Int) = ((xs.length : Nat) : Int) * k := by
          rw [Int.natCast_mul, Int.toNat_of_nonneg h1]
        rw [← e1]
        rw [sizeLine_eq] at hz
        omega
      have flen : (List.replicate k.toNat its).flatten.length ≤ sizeLine := by
        rw [PyProof.Rows.lm_len_rep_flat, hle, Nat.mul_comm]
        exact hz
      have c4 : Builtin.Tuple.tupleTooMany (((its.toArray.size : Nat) : Int) * k) = false := by
        unfold Builtin.Tuple.tupleTooMany
        rw [sizeLine_eq]
        exact decide_eq_false (by omega)
      refine wpAny_binaryOp_repeat_ref (T := "tuple") (U := "int") (by decide) ⟨_, ho, rfl⟩ (fun s' => typeIs_int s' k t) noFill_tuple_mul F.fills_int_mul F.slot_int_rmul repeat_tuple F.slot_int_index.lookup
        (call_meets F.slot_int_rmul (typeIs_int s k t) F.entry_int_rmul (F.args_int_rmul_2 _ _) (int_rmul_tuple k t l its.toArray n dd sl)
          ⟨ho, rfl, ⟨_, ho, rfl⟩, call_meets F.slot_tuple_mul ⟨_, ho, rfl⟩ F.entry_tuple_mul (F.args_tuple_mul_2 _ _) (tuple_mulW l its.toArray n dd sl k t c0 c1 c2 (by omega) c4 (by rw [size_rep, List.size_toArray]; exact flen)) ⟨ho, ?_⟩⟩)
      rw [size_rep]
      exact new_tup I (r.rep k.toNat) (by rw [PyProof.Rows.lm_len_rep_flat, Nat.mul_comm]; exact hz) q
end
end
section
variable {X : Cx}
def rCatP (K : PySem.W.Frag) : R2 := fun x y H Q => ∃ a b xs ys, x = .ref a ∧ y = .ref b ∧ SqT K H a xs ∧ SqT K H b ys ∧ xs.length + ys.length ≤ sizeLine ∧ (xs = [] → Q (.ref b) H) ∧ (ys = [] → Q (.ref a) H) ∧ NewT H (xs ++ ys) Q
theorem op_catP : OpR X (binaryOp .Add) (rCatP X.K) := by
  intro pins s σ H x y v u Q I rx ry ⟨a, b, xs, ys, ex, ey, ha, hb, hz, q0, q1, q2⟩
  subst ex ey
  cases rx
  cases ry
  obtain ⟨its, r1, p1, _⟩ := I.tuple ha
  obtain ⟨jts, r2, p2, _⟩ := I.tuple hb
  by_cases hx : xs = []
  · subst hx
    cases r1
    exact cat_tup0 p1 p2 ⟨.ref b, H, I, rfl, q0 rfl⟩
  · exact HT.cat_tup p1 p2 (fun z => hx (r1.nil_iff.mp z)) (fun z => ⟨.ref a, H, I, rfl, q1 (r2.nil_iff.mp z)⟩) (fun z => new_tup I (r1.append r2) (by rw [List.length_append]; exact hz) q2) (by rw [← r1.length, ← r2.length]; exact hz)
abbrev rAddU (K : PySem.W.Frag) : R2 := fun x y H Q => (rI0 (fun i j => .int (i + j)) x y H Q ∨ (∃ i j, x = .str i ∧ y = .str j ∧ i.length + j.length ≤ sizeLine ∧ Q (.str (i ++ j)) H)) ∨ (rCatP K x y H Q ∨ rCat x y H Q)
theorem op_addU : OpR X (binaryOp .Add) (rAddU X.K) := OpR.or (OpR.or op_add op_add_str) (OpR.or op_catP op_cat)
theorem os_add : OpS X (rAddU X.K) addA := fun W φ H st x y a b Q rs ra rb h => by
  cases ra with
  | int i =>
    cases rb with
    | int j => exact .inl (.inl ⟨i, j, rfl, rfl, h.ok rs (.int _)⟩)
    | _ => exact (show False from h).elim
  | str i =>
    cases rb with
    | str j =>
      unfold addA at h
      simp only at h
      split at h
      · rename_i hz
        exact .inl (.inr ⟨i, j, rfl, rfl, hz, h.ok rs (.str _)⟩)
      · exact (show False from h).elim
    | _ => exact (show False from h).elim
  | @tup p xs ds q qs =>
    cases rb with
    | @tup p2 ys es q' qs' =>
      unfold addA at h
      simp only at h
      split at h
      · rename_i hz
        rw [← qs.length, ← qs'.length] at hz
        refine .inr (.inl ⟨p, p2, xs, ys, rfl, rfl, q.sq, q'.sq, hz, fun e => ?_, fun e => ?_, fun p3 o hd hp => ?_⟩)
        · subst e
          cases qs
          exact h.ok rs (.tup q' qs')
        · subst e
          cases qs'
          rw [List.append_nil] at h
          exact h.ok rs (.tup q qs)
        · exact h _ _ _ (ext_new hp) (rs.new hp) (.newTup rs hd hp (qs.app qs'))
      · exact (show False from h).elim
    | _ => exact (show False from h).elim
  | @ref p i q =>
    cases rb with
    | @ref p2 j q2 =>
      unfold addA at h
      simp only at h
      cases e1 : st[i]? with
      | none => rw [e1] at h; exact h.elim
      | some o1 =>
        cases o1 with
        | oth u => rw [e1] at h; exact h.elim
        | lst xs =>
          cases e2 : st[j]? with
          | none => rw [e1, e2] at h; exact h.elim
          | some o2 =>
            cases o2 with
            | oth u => rw [e1, e2] at h; exact h.elim
            | lst ys =>
              rw [e1, e2] at h
              simp only at h
              obtain ⟨vs, h1, h1'⟩ := rs.lst q e1
              obtain ⟨ws, h2, h2'⟩ := rs.lst q2 e2
              split at h
              · rename_i hz
                rw [← h1'.length, ← h2'.length] at hz
                exact .inr (.inr ⟨p, p2, vs, ws, rfl, rfl, h1, h2, hz, fun p3 hp => h _ _ _ (ext_alloc rs hp) (rs.alloc hp (h1'.app h2')) (.newLst rs)⟩)
              · exact (show False from h).elim
    | _ => exact (show False from h).elim
  | _ => exact (show False from h).elim
theorem os_int {C : Int → Int → Prop} [∀ i j, Decidable (C i j)] {g : Int → Int → Int} {f : A → A → Store → R A} (hf : ∀ i j st, f (.int i) (.int j) st = if C i j then .ok (.int (g i j)) st else .bad)
    (hn : ∀ a b st, (∀ i j, ¬ (a = .int i ∧ b = .int j)) → f a b st = .bad) : OpS X (rI C fun i j => .int (g i j)) f := fun W φ H st x y a b Q rs ra rb h => by
  by_cases hab : ∃ i j, a = .int i ∧ b = .int j
  · obtain ⟨i, j, rfl, rfl⟩ := hab
    cases ra
    cases rb
    rw [hf] at h
    by_cases hc : C i j
    · rw [if_pos hc] at h
      exact ⟨i, j, rfl, rfl, hc, h.ok rs (.int _)⟩
    · rw [if_neg hc] at h
      exact h.elim
  · rw [hn a b st fun i j z => hab ⟨i, j, z⟩] at h
    exact h.elim
theorem os_int0 {g : Int → Int → Int} {f : A → A → Store → R A} (hf : ∀ i j st, f (.int i) (.int j) st = .ok (.int (g i j)) st)
    (hn : ∀ a b st, (∀ i j, ¬ (a = .int i ∧ b = .int j)) → f a b st = .bad) : OpS X (rI0 fun i j => .int (g i j)) f := fun W φ H st x y a b Q rs ra rb h => by
  by_cases hab : ∃ i j, a = .int i ∧ b = .int j
  · obtain ⟨i, j, rfl, rfl⟩ := hab
    cases ra
    cases rb
    rw [hf] at h
    exact ⟨i, j, rfl, rfl, h.ok rs (.int _)⟩
  · rw [hn a b st fun i j z => hab ⟨i, j, z⟩] at h
    exact h.elim
theorem os_intB {g : Int → Int → Bool} {f : A → A → Store → R A} (hf : ∀ i j st, f (.int i) (.int j) st = .ok (.bl (g i j)) st)
    (hn : ∀ a b st, (∀ i j, ¬ (a = .int i ∧ b = .int j)) → f a b st = .bad) : OpS X (rI0 fun i j => .bl (g i j)) f := fun W φ H st x y a b Q rs ra rb h => by
  by_cases hab : ∃ i j, a = .int i ∧ b = .int j
  · obtain ⟨i, j, rfl, rfl⟩ := hab
    cases ra
    cases rb
    rw [hf] at h
    exact ⟨i, j, rfl, rfl, h.ok rs (.bl _)⟩
  · rw [hn a b st fun i j z => hab ⟨i, j, z⟩] at h
    exact h.elim
theorem os_sub : OpS X (rI0 fun i j => .int (i - j)) subA := os_int0 (fun _ _ _ => rfl) fun a b st h => by
  cases a <;> cases b <;> first | rfl | exact absurd ⟨rfl, rfl⟩ (h _ _)
theorem os_le : OpS X (rI0 fun i j => .bl (decide (i ≤ j))) leA := os_intB (fun _ _ _ => rfl) fun a b st h => by
  cases a <;> cases b <;> first | rfl | exact absurd ⟨rfl, rfl⟩ (h _ _)
theorem os_pow : OpS X (rI CPow fun i j => .int (i ^ j.toNat)) powA := os_int (C := fun i j => 0 ≤ j ∧ j ≤ 1000000 ∧ i.natAbs < 2 ^ 64) (fun _ _ _ => rfl) fun a b st h => by
  cases a <;> cases b <;> first | rfl | exact absurd ⟨rfl, rfl⟩ (h _ _)
theorem os_fdiv : OpS X (rI CDivW fun i j => .int (i / j)) fdivA := os_int (C := fun _ j => 0 < j ∧ j.natAbs.log2 < 9000) (fun _ _ _ => rfl) fun a b st h => by
  cases a <;> cases b <;> first | rfl | exact absurd ⟨rfl, rfl⟩ (h _ _)
theorem op_modP : OpR X (binaryOp .Mod) (rI (fun _ j => 0 < j) fun i j => .int (i % j)) := fun pins s σ H x y v u Q I rx ry ⟨i, j, e1, e2, hc, q⟩ =>
  op_modN pins s σ H x y v u Q I rx ry ⟨i, j, e1, e2, (show j ≠ 0 from fun z => by subst z; exact absurd hc (by decide)), by show Q (.int (i.fmod j)) H; rw [Int.fmod_eq_emod_of_nonneg i (Int.le_of_lt hc)]; exact q⟩
theorem os_mod : OpS X (rI (fun _ j => 0 < j) fun i j => .int (i % j)) modA := os_int (C := fun _ j => 0 < j) (fun _ _ _ => rfl) fun a b st h => by
  cases a <;> cases b <;> first | rfl | exact absurd ⟨rfl, rfl⟩ (h _ _)
abbrev rMulU (K : PySem.W.Frag) : R2 := fun x y H Q => (rI CMul (fun i j => .int (i * j)) x y H Q ∨ rI CMulX (fun i j => .int (i * j)) x y H Q) ∨ (rRep x y H Q ∨ rRepU K x y H Q)
theorem op_mulU : OpR X (binaryOp .Mult) (rMulU X.K) := OpR.or (OpR.or op_mul op_mulX) (OpR.or op_rep op_repU)
theorem os_mul : OpS X (rMulU X.K) mulA := fun W φ H st x y a b Q rs ra rb h => by
  cases ra with
  | int i =>
    cases rb with
    | int j =>
      unfold mulA at h
      simp only at h
      split at h
      · rename_i hz
        exact hz.elim (fun hz => .inl (.inl ⟨i, j, rfl, rfl, hz, h.ok rs (.int _)⟩)) (fun hz => .inl (.inr ⟨i, j, rfl, rfl, hz, h.ok rs (.int _)⟩))
      · exact (show False from h).elim
    | _ => exact (show False from h).elim
  | @ref p i q =>
    cases rb with
    | int k =>
      unfold mulA at h
      simp only at h
      cases e1 : st[i]? with
      | none => rw [e1] at h; exact h.elim
      | some o1 =>
        cases o1 with
        | oth u => rw [e1] at h; exact h.elim
        | lst xs =>
          rw [e1] at h
          simp only at h
          obtain ⟨vs, h1, h1'⟩ := rs.lst q e1
          split at h
          · rename_i hz
            rw [← h1'.length] at hz
            exact .inr (.inl ⟨p, k, vs, rfl, rfl, h1, hz.1, hz.2.1, hz.2.2, fun p3 hp => h _ _ _ (ext_alloc rs hp) (rs.alloc hp (h1'.flat _)) (.newLst rs)⟩)
          · exact (show False from h).elim
    | _ => exact (show False from h).elim
  | @tup p xs ds q qs =>
    cases rb with
    | int k =>
      unfold mulA at h
      simp only at h
      split at h
      · rename_i hz
        rw [← qs.length] at hz
        refine .inr (.inr ⟨p, k, xs, rfl, rfl, q.sq, hz.1, hz.2.1, hz.2.2, ?_⟩)
        by_cases c : xs = [] ∨ k = 1
        · refine .inl ⟨c, ?_⟩
          rcases c with e | e
          · subst e
            cases qs
            have e2 : (List.replicate k.toNat ([] : List A)).flatten = [] := by simp
            rw [e2] at h
            exact h.ok rs (.tup q .nil)
          · subst e
            have e2 : (List.replicate (1 : Int).toNat ds).flatten = ds := by simp
            rw [e2] at h
            exact h.ok rs (.tup q qs)
        · refine .inr ⟨fun e => c (.inl e), fun e => c (.inr e), fun p3 o hd hp => ?_⟩
          exact h _ _ _ (ext_new hp) (rs.new hp) (.newTup rs hd hp (qs.flat _))
      · exact (show False from h).elim
    | _ => exact (show False from h).elim
  | _ => exact (show False from h).elim
abbrev rLtU : R2 := fun x y H Q => rI0 (fun i j => .bl (decide (i < j))) x y H Q ∨ (∃ i j : Str, x = .str i ∧ y = .str j ∧ Q (.bl (decide (i.cps.toList < j.cps.toList))) H)
abbrev rGtU : R2 := fun x y H Q => rI0 (fun i j => .bl (decide (j < i))) x y H Q ∨ (∃ i j : Str, x = .str i ∧ y = .str j ∧ Q (.bl (decide (j.cps.toList < i.cps.toList))) H)
theorem op_ltU : OpR X (compareOp .Lt) rLtU := OpR.or op_lt op_lt_str
theorem op_gtU : OpR X (compareOp .Gt) rGtU := OpR.or op_gt op_gt_str
theorem os_lt : OpS X rLtU ltA := fun W φ H st x y a b Q rs ra rb h => by
  cases ra with
  | int i =>
    cases rb with
    | int j => exact .inl ⟨i, j, rfl, rfl, h.ok rs (.bl _)⟩
    | _ => exact (show False from h).elim
  | str i =>
    cases rb with
    | str j => exact .inr ⟨i, j, rfl, rfl, h.ok rs (.bl _)⟩
    | _ => exact (show False from h).elim
  | _ => exact (show False from h).elim
theorem os_gt : OpS X rGtU gtA := fun W φ H st x y a b Q rs ra rb h => by
  cases ra with
  | int i =>
    cases rb with
    | int j => exact .inl ⟨i, j, rfl, rfl, h.ok rs (.bl _)⟩
    | _ => exact (show False from h).elim
  | str i =>
    cases rb with
    | str j => exact .inr ⟨i, j, rfl, rfl, h.ok rs (.bl _)⟩
    | _ => exact (show False from h).elim
  | _ => exact (show False from h).elim
abbrev rEqU (K : PySem.W.Frag) : R2 := fun x y H Q => rEq x y H Q ∨ rEqD K x y H Q
abbrev rNeU (K : PySem.W.Frag) : R2 := fun x y H Q => rNe x y H Q ∨ rNeD K x y H Q
theorem op_eqU (hu : X.A.units + 64 < cLine) : OpR X (compareOp .Eq) (rEqU X.K) := OpR.or op_eq (op_eqD hu)
theorem op_neU (hu : X.A.units + 64 < cLine) : OpR X (compareOp .NotEq) (rNeU X.K) := OpR.or op_ne (op_neD hu)
theorem eqB_ok {K : PySem.W.Frag} {φ : List Addr} {H : Hp} {st : Store} {x y : V} {a b : A} {k : Bool} (rs : RS K w mg φ H st) (ra : RV K φ H x a) (rb : RV K φ H y b) (h : eqB a b st = some k) :
    (scal x y = true ∧ decide (x = y) = k) ∨ ∃ d e, Dp K H x d ∧ Dp K H y e ∧ SeqAt.shaped d = true ∧ SeqAt.shaped e = true ∧ PyData.eqv d e = k := by
  unfold eqB at h
  cases e0 : eqS a b with
  | some b' => rw [e0] at h; cases h; exact .inl (eqS_ok ra rb e0)
  | none =>
    rw [e0] at h
    simp only at h
    cases e1 : dataOf st a with
    | none => rw [e1] at h; cases h
    | some d =>
      cases e2 : dataOf st b with
      | none => rw [e1, e2] at h; cases h
      | some e =>
        rw [e1, e2] at h
        simp only at h
        by_cases hs : SeqAt.shaped d = true ∧ SeqAt.shaped e = true
        · rw [if_pos hs] at h
          cases h
          exact .inr ⟨d, e, dataOf_ok rs ra e1, dataOf_ok rs rb e2, hs.1, hs.2, rfl⟩
        · rw [if_neg hs] at h
          cases h
theorem os_eq : OpS X (rEqU X.K) eqA := fun W φ H st x y a b Q rs ra rb h => by
  unfold eqA at h
  cases e : eqB a b st with
  | none => rw [e] at h; exact (show False from h).elim
  | some k =>
    rw [e] at h
    rcases eqB_ok rs ra rb e with ⟨h1, h2⟩ | ⟨d, e, h1, h2, h3, h4, h5⟩
    · exact .inl ⟨h1, by rw [h2]; exact h.ok rs (.bl _)⟩
    · exact .inr ⟨d, e, h1, h2, h3, h4, by rw [h5]; exact h.ok rs (.bl _)⟩
theorem os_ne : OpS X (rNeU X.K) neA := fun W φ H st x y a b Q rs ra rb h => by
  unfold neA at h
  cases e : eqB a b st with
  | none => rw [e] at h; exact (show False from h).elim
  | some k =>
    rw [e] at h
    rcases eqB_ok rs ra rb e with ⟨h1, h2⟩ | ⟨d, e, h1, h2, h3, h4, h5⟩
    · exact .inl ⟨h1, by rw [h2]; exact h.ok rs (.bl _)⟩
    · exact .inr ⟨d, e, h1, h2, h3, h4, by rw [h5]; exact h.ok rs (.bl _)⟩
theorem isNon_eq {K : PySem.W.Frag} {φ : List Addr} {H : Hp} {x : V} {a : A} (r : RV K φ H x a) : decide (x = .non) = isNonA a := by
  cases r <;> rfl
theorem os_isN : OpS X (fun x y H Q => y = .non ∧ Q (.bl (decide (x = .non))) H) isNA := fun W φ H st x y a b Q rs ra rb h => by
  cases rb with
  | non =>
    refine ⟨rfl, ?_⟩
    rw [isNon_eq ra]
    have h' : Pst X.K X.w X.mg (RV X.K) W φ H (.ok (A.bl (isNonA a)) st) Q := by cases a <;> exact h
    exact h'.ok rs (RV.bl _)
  | _ => cases a <;> exact (show False from h).elim
end
end ML
namespace ML
open PySem PySem.Spec L2
section
variable {X : Cx} {W : WX} {a b e : Expr} {es : List Expr} {ma mb : MX} {ms : MA} {pos : Pos}
theorem atI_rv {K : PySem.W.Frag} {φ : List Addr} {H : Hp} {vs : List V} {ds : List A} {i : Int} {d : A} (q : RVs K φ H vs ds) (h : atI ds i = some d) : ∃ v, atI vs i = some v ∧ RV K φ H v d := by
  unfold atI at h ⊢
  rw [q.length]
  cases e : ixN ds.length i with
  | none => rw [e] at h; cases h
  | some j =>
    rw [e] at h
    exact q.get h
def ixA : A → A → Store → R A
  | .tup xs, .int i, st => match atI xs i with
    | some d => .ok d st
    | none => .bad
  | .scr xs, .int i, st => match atI xs i with
    | some d => .ok d st
    | none => .bad
  | .str z, .int i, st => if z.length ≤ sizeLine then match atI z.cps.toList i with
    | some c => .ok (.str ⟨#[c]⟩) st
    | none => .bad else .bad
  | .ref r, .int i, st => match st[r]? with
    | some (.lst xs) => match atI xs i with
      | some d => .ok d st
      | none => .bad
    | _ => .bad
  | _, _, _ => .bad
theorem os_ix : OpS X (rIx X.K) ixA := fun W φ H st x y a b Q rs ra rb h => by
  cases ra with
  | @tup p xs ds q qs =>
    cases rb with
    | int i =>
      unfold ixA at h
      simp only at h
      cases e : atI ds i with
      | none => rw [e] at h; exact h.elim
      | some d =>
        rw [e] at h
        obtain ⟨v, h1, h2⟩ := atI_rv qs e
        exact .inr (.inl ⟨p, xs, i, v, rfl, rfl, q.sq, h1, h.ok rs h2⟩)
    | _ => exact (show False from h).elim
  | @scr p xs ds q qs =>
    cases rb with
    | int i =>
      unfold ixA at h
      simp only at h
      cases e : atI ds i with
      | none => rw [e] at h; exact h.elim
      | some d =>
        rw [e] at h
        obtain ⟨v, h1, h2⟩ := atI_rv qs e
        exact .inl ⟨p, xs, i, v, rfl, rfl, q.sq, h1, h.ok rs h2⟩
    | _ => exact (show False from h).elim
  | str z =>
    cases rb with
    | int i =>
      unfold ixA at h
      simp only at h
      split at h
      · rename_i hz
        cases e : atI z.cps.toList i with
        | none => rw [e] at h; exact h.elim
        | some c =>
          rw [e] at h
          exact .inr (.inr ⟨z, i, c, rfl, rfl, hz, e, h.ok rs (.str _)⟩)
      · exact h.elim
    | _ => exact (show False from h).elim
  | @ref p r q =>
    cases rb with
    | int i =>
      unfold ixA at h
      simp only at h
      cases e1 : st[r]? with
      | none => rw [e1] at h; exact h.elim
      | some o =>
        cases o with
        | oth u => rw [e1] at h; exact h.elim
        | lst ds =>
          rw [e1] at h
          simp only at h
          obtain ⟨vs, h1, h1'⟩ := rs.lst q e1
          cases e : atI ds i with
          | none => rw [e] at h; exact h.elim
          | some d =>
            rw [e] at h
            obtain ⟨v, h2, h3⟩ := atI_rv h1' e
            exact .inl ⟨p, vs, i, v, rfl, rfl, .inl (.inl h1), h2, h.ok rs h3⟩
    | _ => exact (show False from h).elim
  | _ => cases rb <;> exact (show False from h).elim
theorem me_ix (ha : PE X a (tE X W ma)) (hb : PE X b (tE X W mb)) (hs : PlainIx b := by exact fun _ _ => rfl) : PE X (.Subscript a b pos) (tE X W (mBin ixA ma mb)) := (pe_ix ix_seq ha hb hs).imp fun _ _ _ h => bin_ok os_ix h
abbrev MO := Env → Store → R (Option Int)
abbrev rlO : List Addr → Hp → Option Int → Option Int → Prop := fun _ _ x y => x = y
abbrev tO (X : Cx) (W : WX) (m : MO) : TO := tG X.K X.w X.mg rlO W m
def mNoPart : MO := fun _ st => .ok none st
def getI : A → Store → R Int
  | .int i, st => .ok i st
  | _, _ => .bad
def mPart (m : MX) : MO := fun ρ st => (m ρ st).bind fun x st1 => (getI x st1).bind fun i st2 => .ok (some i) st2
theorem POimp {o : Option Expr} {t t' : TO} (h : PO X o t) (k : ∀ σ H Q, t' σ H Q → t σ H Q) : PO X o t' := ⟨fun pins s σ H Q I q => h.run pins s σ H Q I (k _ _ _ q)⟩
theorem mo_none : PO X none (tO X W mNoPart) := POimp po_none fun _ _ _ ⟨_, _, _, rs, _, h⟩ => h.ok rs rfl
theorem mo_some (ha : PE X a (tE X W ma)) : PO X (some a) (tO X W (mPart ma)) := POimp (po_some ha) fun σ H Q ⟨φ, ρ, st, rs, re, h⟩ => by
  refine ⟨φ, ρ, st, rs, re, h.seq fun φ1 a x H1 st1 e1 rs1 rv1 h1 => ?_⟩
  cases rv1 with
  | int i => exact ⟨i, rfl, h1.ok rs1 rfl⟩
  | _ => exact (show False from h1).elim
def cutA {α : Type} (xs : List α) (lo hi : Option Int) : List α := (xs.drop (HT.sIx xs.length 0 lo)).take (HT.sIx xs.length xs.length hi - HT.sIx xs.length 0 lo)
def slA : A → Option Int → Option Int → Store → R A
  | .tup xs, lo, hi, st => .ok (.tup (cutA xs lo hi)) st
  | .scr xs, lo, hi, st => .ok (.ref st.length) (st ++ [.lst (cutA xs lo hi)])
  | .str z, lo, hi, st => if z.length ≤ sizeLine then .ok (.str (cutS z lo hi)) st else .bad
  | .ref r, lo, hi, st => match st[r]? with
    | some (.lst xs) => .ok (.ref st.length) (st ++ [.lst (cutA xs lo hi)])
    | _ => .bad
  | _, _, _, _ => .bad
theorem cut_rv {K : PySem.W.Frag} {φ : List Addr} {H : Hp} {vs : List V} {ds : List A} (q : RVs K φ H vs ds) (lo hi : Option Int) : RVs K φ H (cutV vs lo hi) (cutA ds lo hi) := by
  unfold cutV cutA
  rw [q.length]
  exact (q.drop _).take _
theorem cut_all {α : Type} {xs : List α} {lo hi : Option Int} (h : HT.sIx xs.length 0 lo = 0 ∧ HT.sIx xs.length xs.length hi = xs.length) : cutA xs lo hi = xs := by
  unfold cutA
  rw [h.1, h.2]
  simp
def rSlP (K : PySem.W.Frag) : V → Option Int → Option Int → Hp → VK → Prop := fun x lo hi H Q => ∃ a xs, x = .ref a ∧ SqT K H a xs ∧ (HT.sIx xs.length 0 lo = 0 ∧ HT.sIx xs.length xs.length hi = xs.length → Q (.ref a) H) ∧ NewT H (cutV xs lo hi) Q
theorem sl_tupP : SlR X (rSlP X.K) := by
  intro pins s σ H x v vl vu lo hi sl Q I rx hs pl pu ⟨a, xs, ex, hx, q1, q2⟩
  subst ex
  cases rx
  obtain ⟨its, r, ht, hz⟩ := I.tuple hx
  have hn : its.toArray.size = xs.length := by rw [List.size_toArray, r.length]
  refine ⟨"tuple", _, PyProof.Rows.slot_tuple_getitem.lookup, ht.typeIs, ?_⟩
  by_cases hw : HT.sIx xs.length 0 lo = 0 ∧ HT.sIx xs.length xs.length hi = xs.length
  · exact getItem_tuple_whole ht hs pl pu (by rw [hn]; exact hw) ⟨.ref a, H, I, rfl, q1 hw⟩
  · refine HT.getItem_tuple_cut ht hs pl pu (by rw [hn]; exact hw) ?_ (by rw [hn]; exact hz)
    rw [hn]
    exact new_tup I ((r.drop (HT.sIx xs.length 0 lo)).take (HT.sIx xs.length xs.length hi - HT.sIx xs.length 0 lo)) (Nat.le_trans (cutV_length xs lo hi) hz) q2
abbrev rSlU (K : PySem.W.Frag) : V → Option Int → Option Int → Hp → VK → Prop := fun x lo hi H Q => rSlL K x lo hi H Q ∨ (rSlP K x lo hi H Q ∨ rSlS x lo hi H Q)
theorem sl_U : SlR X (rSlU X.K) := sl_list.or (sl_tupP.or sl_str)
def mSl (ma : MX) (ml mh : MO) : MX := fun ρ st => (ma ρ st).bind fun x st1 => (ml ρ st1).bind fun lo st2 => (mh ρ st2).bind fun hi st3 => slA x lo hi st3
theorem me_slice {lo hi : Option Expr} {ml mh : MO} {p2 : Pos} (ha : PE X a (tE X W ma)) (hl : PO X lo (tO X W ml)) (hh : PO X hi (tO X W mh)) : PE X (.Subscript a (.Slice lo hi none p2) pos) (tE X W (mSl ma ml mh)) := (pe_slice sl_U ha hl hh).imp fun σ H Q ⟨φ, ρ, st, rs, re, h⟩ => by
  refine ⟨φ, ρ, st, rs, re, h.seq fun φ1 a x H1 st1 e1 rs1 rv1 h1 => ⟨φ1, ρ, st1, rs1, re.ext e1, h1.seq fun φ2 lo lo' H2 st2 e2 rs2 rv2 h2 => ⟨φ2, ρ, st2, rs2, (re.ext e1).ext e2, h2.seq fun φ3 hi hi' H3 st3 e3 rs3 rv3 h3 => ?_⟩⟩⟩
  have r := (rv1.ext e2).ext e3
  cases rv2
  cases rv3
  cases r with
  | @tup p xs ds q qs =>
    refine .inr (.inl ⟨p, xs, rfl, q.sq, fun hw => ?_, fun p2 o hd hp => ?_⟩)
    · rw [qs.length] at hw
      have h3' : Pst X.K X.w X.mg (RV X.K) (fun c d H' => W c d σ H') φ3 H3 (.ok (.tup ds) st3) Q := by
        rw [← cut_all hw]
        exact h3
      exact h3'.ok rs3 (.tup q qs)
    · exact h3 _ _ _ (ext_new hp) (rs3.new hp) (.newTup rs3 hd hp (cut_rv qs _ _))
  | @scr p xs ds q qs => exact .inl ⟨p, xs, rfl, q.sq, fun p2 hp => h3 _ _ _ (ext_alloc rs3 hp) (rs3.alloc hp (cut_rv qs _ _)) (.newLst rs3)⟩
  | str z =>
    unfold slA at h3
    simp only at h3
    split at h3
    · rename_i hz
      exact .inr (.inr ⟨z, rfl, hz, h3.ok rs3 (.str _)⟩)
    · exact (show False from h3).elim
  | @ref p r q =>
    unfold slA at h3
    simp only at h3
    cases e1 : st3[r]? with
    | none => rw [e1] at h3; exact h3.elim
    | some o =>
      cases o with
      | oth u => rw [e1] at h3; exact h3.elim
      | lst ds =>
        rw [e1] at h3
        simp only at h3
        obtain ⟨vs, h1, h1'⟩ := rs3.lst q e1
        exact .inl ⟨p, vs, rfl, .inl (.inl h1), fun p2 hp => h3 _ _ _ (ext_alloc rs3 hp) (rs3.alloc hp (cut_rv h1' _ _)) (.newLst rs3)⟩
  | _ => exact (show False from h3).elim
def CaS (X : Cx) (r : List V → Hp → VK → Prop) (g : List A → Store → R A) : Prop := ∀ (W : WH) (φ : List Addr) (H : Hp) (st : Store) (vs : List V) (as : List A) (Q : VK), RS X.K X.w X.mg φ H st → RVs X.K φ H vs as → Pst X.K X.w X.mg (RV X.K) W φ H (g as st) Q → r vs H Q
def mCa (g : List A → Store → R A) (ms : MA) : MX := fun ρ st => (ms ρ st).bind g
theorem ca_ok {r : List V → Hp → VK → Prop} {g : List A → Store → R A} (hg : CaS X r g) {σ : L2.St} {H : Hp} {Q : VK} (h : tE X W (mCa g ms) σ H Q) : tCB r (tA X W ms) σ H Q := by
  obtain ⟨φ, ρ, st, rs, re, h⟩ := h
  exact ⟨φ, ρ, st, rs, re, h.seq fun φ1 a x H1 st1 e1 rs1 rv1 h1 => hg _ _ _ _ _ _ _ rs1 rv1 h1⟩
theorem me_callB {id : String} {x : Str} {p : Pos} {r : List V → Hp → VK → Prop} {g : List A → Store → R A} (hc : CallR X (.builtin id) r) (hs : CaS X r g) (hv : bootBuiltins x = some (.builtin id)) (hm : X.mg x = none) (ha : PA X (e :: es) (tA X W ms)) (hg : Gl X x := by rfl) (hn : x ≠ "__name__" := by decide) (hdb : (x == ("__debug__" : Str)) = false := by decide)
    (he : starEach (e :: es) X.env = (false, eval e X.env) :: starEach es X.env := by rfl) (hpl : (backTo pos (starEach es X.env)).any (·.1) = false := by rfl) : PE X (.Call (.Name x p) (e :: es) [] pos) (tE X W (mCa g ms)) := (pe_callB hc hg hm hv ha hn hdb he hpl).imp fun _ _ _ h => ca_ok hs h
theorem me_callTy {T : String} {x : Str} {p : Pos} {r : List V → Hp → VK → Prop} {g : List A → Store → R A} (hc : CallR X (.type T) r) (hs : CaS X r g) (hv : bootBuiltins x = some (.type T)) (hm : X.mg x = none) (ha : PA X (e :: es) (tA X W ms)) (hg : Gl X x := by rfl) (hn : x ≠ "__name__" := by decide) (hdb : (x == ("__debug__" : Str)) = false := by decide)
    (he : starEach (e :: es) X.env = (false, eval e X.env) :: starEach es X.env := by rfl) (hpl : (backTo pos (starEach es X.env)).any (·.1) = false := by rfl) : PE X (.Call (.Name x p) (e :: es) [] pos) (tE X W (mCa g ms)) := (pe_callTy hc hg hm hv ha hn hdb he hpl).imp fun _ _ _ h => ca_ok hs h
def absA : List A → Store → R A
  | [.int i], st => .ok (.int (if i < 0 then -i else i)) st
  | _, _ => .bad
theorem one_rv {K : PySem.W.Frag} {φ : List Addr} {H : Hp} {vs : List V} {d : A} (q : RVs K φ H vs [d]) : ∃ v, vs = [v] ∧ RV K φ H v d := by
  cases q with
  | cons h t => cases t; exact ⟨_, rfl, h⟩
theorem two_rv {K : PySem.W.Frag} {φ : List Addr} {H : Hp} {vs : List V} {d d' : A} (q : RVs K φ H vs [d, d']) : ∃ v v', vs = [v, v'] ∧ RV K φ H v d ∧ RV K φ H v' d' := by
  cases q with
  | cons h t =>
    obtain ⟨v, rfl, h2⟩ := one_rv t
    exact ⟨_, _, rfl, h, h2⟩
theorem cs_abs : CaS X (fun xs H Q => ∃ i, xs = [.int i] ∧ Q (.int (if i < 0 then -i else i)) H) absA := fun W φ H st vs as Q rs rv h => by
  unfold absA at h
  split at h
  · obtain ⟨v, rfl, r⟩ := one_rv rv
    cases r
    exact ⟨_, rfl, h.ok rs (.int _)⟩
  · exact h.elim
def intA : List A → Store → R A
  | [.int i], st => .ok (.int i) st
  | [.bl k], st => .ok (.int (if k then 1 else 0)) st
  | _, _ => .bad
theorem cs_int : CaS X (fun xs H Q => (∃ i, xs = [.int i] ∧ Q (.int i) H) ∨ ∃ k, xs = [.bl k] ∧ Q (.int (if k then 1 else 0)) H) intA := fun W φ H st vs as Q rs rv h => by
  unfold intA at h
  split at h
  · obtain ⟨v, rfl, r⟩ := one_rv rv
    cases r
    exact .inl ⟨_, rfl, h.ok rs (.int _)⟩
  · obtain ⟨v, rfl, r⟩ := one_rv rv
    cases r
    exact .inr ⟨_, rfl, h.ok rs (.int _)⟩
  · exact h.elim
def intsOf : List A → Option (List Int)
  | [] => some []
  | .int i :: r => (intsOf r).map (i :: ·)
  | _ => none
theorem intsOf_eq : ∀ {ds : List A} {ns : List Int}, intsOf ds = some ns → ds = ns.map A.int
  | [], _, h => by cases h; rfl
  | .int i :: r, ns, h => by
    simp only [intsOf] at h
    cases e : intsOf r with
    | none => rw [e] at h; cases h
    | some ms =>
      rw [e] at h
      cases h
      rw [List.map_cons, intsOf_eq e]
  | .non :: _, _, h => by cases h
  | .bl _ :: _, _, h => by cases h
  | .str _ :: _, _, h => by cases h
  | .tup _ :: _, _, h => by cases h
  | .scr _ :: _, _, h => by cases h
  | .ref _ :: _, _, h => by cases h
def itemsL : A → Store → Option (List A)
  | .scr xs, _ => some xs
  | .ref r, st => match st[r]? with
    | some (.lst xs) => some xs
    | _ => none
  | _, _ => none
theorem itemsL_ok {K : PySem.W.Frag} {φ : List Addr} {H : Hp} {st : Store} {v : V} {a : A} {ds : List A} (rs : RS K w mg φ H st) (r : RV K φ H v a) (h : itemsL a st = some ds) : ∃ p xs, v = .ref p ∧ SqL K H p xs ∧ RVs K φ H xs ds := by
  cases r with
  | scr q qs => cases h; exact ⟨_, _, rfl, q.sq, qs⟩
  | @ref p i q =>
    unfold itemsL at h
    simp only at h
    cases e : st[i]? with
    | none => rw [e] at h; cases h
    | some o =>
      cases o with
      | oth u => rw [e] at h; cases h
      | lst xs =>
        rw [e] at h
        cases h
        obtain ⟨vs, h1, h2⟩ := rs.lst q e
        exact ⟨p, vs, rfl, .inl (.inl h1), h2⟩
  | _ => cases h
def itemsQ : A → Store → Option (List A)
  | .tup xs, _ => some xs
  | a, st => itemsL a st
theorem itemsQ_ok {K : PySem.W.Frag} {φ : List Addr} {H : Hp} {st : Store} {v : V} {a : A} {ds : List A} (rs : RS K w mg φ H st) (r : RV K φ H v a) (h : itemsQ a st = some ds) : ∃ p xs, v = .ref p ∧ (SqL K H p xs ∨ SqT K H p xs) ∧ RVs K φ H xs ds := by
  cases r with
  | tup q qs => cases h; exact ⟨_, _, rfl, .inr q.sq, qs⟩
  | scr q qs =>
    obtain ⟨p, xs, h1, h2, h3⟩ := itemsL_ok rs (.scr q qs) h
    exact ⟨p, xs, h1, .inl h2, h3⟩
  | ref q =>
    obtain ⟨p, xs, h1, h2, h3⟩ := itemsL_ok rs (.ref q) h
    exact ⟨p, xs, h1, .inl h2, h3⟩
  | _ => cases h
def maxL : List Int → Option Int
  | [] => none
  | n :: r => some (r.foldl max n)
def minL : List Int → Option Int
  | [] => none
  | n :: r => some (r.foldl min n)
def maxA : List A → Store → R A
  | [.int i, .int j], st => .ok (.int (if j > i then j else i)) st
  | [x], st => match (itemsL x st).bind intsOf with
    | some ns => match maxL ns with
      | some m => .ok (.int m) st
      | none => .bad
    | none => .bad
  | _, _ => .bad
def minA : List A → Store → R A
  | [.int i, .int j], st => .ok (.int (if j < i then j else i)) st
  | [x], st => match (itemsL x st).bind intsOf with
    | some ns => match minL ns with
      | some m => .ok (.int m) st
      | none => .bad
    | none => .bad
  | _, _ => .bad
theorem foldmax_mem : ∀ (r : List Int) (n : Int), r.foldl max n ∈ n :: r ∧ ∀ y ∈ n :: r, y ≤ r.foldl max n
  | [], n => ⟨List.mem_singleton_self n, fun y hy => by rw [List.mem_singleton.mp hy]; exact Int.le_refl _⟩
  | m :: r, n => by
    obtain ⟨h1, h2⟩ := foldmax_mem r (max n m)
    rw [List.foldl_cons]
    refine ⟨?_, fun y hy => ?_⟩
    · rcases List.mem_cons.mp h1 with h | h
      · rw [h]
        by_cases c : n ≤ m
        · rw [Int.max_eq_right c]; exact List.mem_cons_of_mem _ List.mem_cons_self
        · rw [Int.max_eq_left (by omega)]; exact List.mem_cons_self
      · exact List.mem_cons_of_mem _ (List.mem_cons_of_mem _ h)
    · have h3 := h2 _ List.mem_cons_self
      rcases List.mem_cons.mp hy with h | h
      · subst h; exact Int.le_trans (Int.le_max_left _ _) h3
      · rcases List.mem_cons.mp h with h | h
        · subst h; exact Int.le_trans (Int.le_max_right _ _) h3
        · exact h2 _ (List.mem_cons_of_mem _ h)
theorem foldmin_mem : ∀ (r : List Int) (n : Int), r.foldl min n ∈ n :: r ∧ ∀ y ∈ n :: r, r.foldl min n ≤ y
  | [], n => ⟨List.mem_singleton_self n, fun y hy => by rw [List.mem_singleton.mp hy]; exact Int.le_refl _⟩
  | m :: r, n => by
    obtain ⟨h1, h2⟩ := foldmin_mem r (min n m)
    rw [List.foldl_cons]
    refine ⟨?_, fun y hy => ?_⟩
    · rcases List.mem_cons.mp h1 with h | h
      · rw [h]
        by_cases c : n ≤ m
        · rw [Int.min_eq_left c]; exact List.mem_cons_self
        · rw [Int.min_eq_right (by omega)]; exact List.mem_cons_of_mem _ List.mem_cons_self
      · exact List.mem_cons_of_mem _ (List.mem_cons_of_mem _ h)
    · have h3 := h2 _ List.mem_cons_self
      rcases List.mem_cons.mp hy with h | h
      · subst h; exact Int.le_trans h3 (Int.min_le_left _ _)
      · rcases List.mem_cons.mp h with h | h
        · subst h; exact Int.le_trans h3 (Int.min_le_right _ _)
        · exact h2 _ (List.mem_cons_of_mem _ h)
abbrev rMaxU (K : PySem.W.Frag) : List V → Hp → VK → Prop := fun xs H Q => (∃ i j, xs = [.int i, .int j] ∧ Q (.int (if j > i then j else i)) H) ∨ rMax K xs H Q
abbrev rMinU (K : PySem.W.Frag) : List V → Hp → VK → Prop := fun xs H Q => (∃ i j, xs = [.int i, .int j] ∧ Q (.int (if j < i then j else i)) H) ∨ rMin K xs H Q
theorem call_maxU (hc : X.calm = true) : CallR X (.builtin "max") (rMaxU X.K) := CallR.or (call_max2 hc) (cr_max hc)
theorem call_minU (hc : X.calm = true) : CallR X (.builtin "min") (rMinU X.K) := CallR.or (call_min2 hc) (cr_min hc)
theorem cs_max : CaS X (rMaxU X.K) maxA := fun W φ H st vs as Q rs rv h => by
  unfold maxA at h
  split at h
  · obtain ⟨v, v', rfl, r, r'⟩ := two_rv rv
    cases r
    cases r'
    exact .inl ⟨_, _, rfl, h.ok rs (.int _)⟩
  · rename_i x
    obtain ⟨v, rfl, r⟩ := one_rv rv
    cases e : itemsL x st with
    | none => rw [e] at h; exact h.elim
    | some ds =>
      rw [e] at h
      simp only [Option.bind_some] at h
      cases e2 : intsOf ds with
      | none => rw [e2] at h; exact h.elim
      | some ns =>
        rw [e2] at h
        obtain ⟨p, xs, rfl, hq, hs⟩ := itemsL_ok rs r e
        rw [intsOf_eq e2] at hs
        rw [hs.ints] at hq
        cases ns with
        | nil => exact h.elim
        | cons n ns =>
          refine .inr ⟨p, n :: ns, rfl, hq, by simp, fun m hm hle => ?_⟩
          have ⟨h1, h2⟩ := foldmax_mem ns n
          have em : m = ns.foldl max n := Int.le_antisymm (h2 m hm) (hle _ h1)
          rw [em]
          exact Pst.ok (show Pst X.K X.w X.mg (RV X.K) W φ H (.ok (.int (ns.foldl max n)) st) Q from h) rs (.int _)
  · exact h.elim
theorem cs_min : CaS X (rMinU X.K) minA := fun W φ H st vs as Q rs rv h => by
  unfold minA at h
  split at h
  · obtain ⟨v, v', rfl, r, r'⟩ := two_rv rv
    cases r
    cases r'
    exact .inl ⟨_, _, rfl, h.ok rs (.int _)⟩
  · rename_i x
    obtain ⟨v, rfl, r⟩ := one_rv rv
    cases e : itemsL x st with
    | none => rw [e] at h; exact h.elim
    | some ds =>
      rw [e] at h
      simp only [Option.bind_some] at h
      cases e2 : intsOf ds with
      | none => rw [e2] at h; exact h.elim
      | some ns =>
        rw [e2] at h
        obtain ⟨p, xs, rfl, hq, hs⟩ := itemsL_ok rs r e
        rw [intsOf_eq e2] at hs
        rw [hs.ints] at hq
        cases ns with
        | nil => exact h.elim
        | cons n ns =>
          refine .inr ⟨p, n :: ns, rfl, hq, by simp, fun m hm hle => ?_⟩
          have ⟨h1, h2⟩ := foldmin_mem ns n
          have em : m = ns.foldl min n := Int.le_antisymm (hle _ h1) (h2 m hm)
          rw [em]
          exact Pst.ok (show Pst X.K X.w X.mg (RV X.K) W φ H (.ok (.int (ns.foldl min n)) st) Q from h) rs (.int _)
  · exact h.elim
def lenA : List A → Store → R A
  | [.str z], st => if z.length ≤ sizeLine then .ok (.int (z.length : Nat)) st else .bad
  | [x], st => match itemsQ x st with
    | some xs => .ok (.int (xs.length : Nat)) st
    | none => .bad
  | _, _ => .bad
abbrev rLenU (K : PySem.W.Frag) : List V → Hp → VK → Prop := fun xs H Q => ∃ x n, xs = [x] ∧ LenV K x H n ∧ Q (.int n) H
theorem cs_len : CaS X (rLenU X.K) lenA := fun W φ H st vs as Q rs rv h => by
  unfold lenA at h
  split at h
  · obtain ⟨v, rfl, r⟩ := one_rv rv
    cases r
    split at h
    · rename_i hz
      exact ⟨_, _, rfl, ⟨hz, rfl⟩, h.ok rs (.int _)⟩
    · exact h.elim
  · rename_i x _
    obtain ⟨v, rfl, r⟩ := one_rv rv
    cases e : itemsQ x st with
    | none => rw [e] at h; exact h.elim
    | some ds =>
      rw [e] at h
      obtain ⟨p, xs, rfl, hq, hs⟩ := itemsQ_ok rs r e
      have hl := hs.length
      rcases hq with hq | hq
      · exact ⟨_, _, rfl, .inl ⟨xs, hq, rfl⟩, by rw [hl]; exact h.ok rs (.int _)⟩
      · exact ⟨_, _, rfl, .inr ⟨xs, hq, rfl⟩, by rw [hl]; exact h.ok rs (.int _)⟩
  · exact h.elim
def listA : List A → Store → R A
  | [x], st => match itemsQ x st with
    | some xs => .ok (.ref st.length) (st ++ [.lst xs])
    | none => .bad
  | _, _ => .bad
theorem cs_list : CaS X (fun xs H Q => ∃ p ys, xs = [.ref p] ∧ (SqL X.K H p ys ∨ SqT X.K H p ys) ∧ ∀ l, H l = none → Q (.ref l) (upd H l (.lst ys))) listA := fun W φ H st vs as Q rs rv h => by
  unfold listA at h
  split at h
  · rename_i x
    obtain ⟨v, rfl, r⟩ := one_rv rv
    cases e : itemsQ x st with
    | none => rw [e] at h; exact h.elim
    | some ds =>
      rw [e] at h
      obtain ⟨p, xs, rfl, hq, hs⟩ := itemsQ_ok rs r e
      exact ⟨p, xs, rfl, hq, fun l hp => h _ _ _ (ext_alloc rs hp) (rs.alloc hp hs) (.newLst rs)⟩
  · exact h.elim
def tupleA : List A → Store → R A
  | [.tup xs], st => .ok (.tup xs) st
  | [x], st => match itemsL x st with
    | some xs => .ok (.tup xs) st
    | none => .bad
  | _, _ => .bad
def rTupP (K : PySem.W.Frag) : List V → Hp → VK → Prop := fun xs H Q => ∃ p ys, xs = [.ref p] ∧ ((SqL K H p ys ∧ NewT H ys Q) ∨ (SqT K H p ys ∧ Q (.ref p) H))
theorem call_tupleP : CallR X (.type "tuple") (rTupP X.K) := by
  intro pins s σ H xs us Q I r ⟨p, ys, ex, h⟩
  subst ex
  obtain ⟨u, rfl, rx⟩ := vals1 r
  cases rx
  rcases h with ⟨hq, q⟩ | ⟨hq, q⟩
  · obtain ⟨its, r', pl, hz⟩ := I.list hq
    have hn := r'.length
    exact call_tuple_list pl.isList (fun h' kp => new_tup (s := { s with heap := h' }) (I.kept (t' := s.toks) kp) r' hz q) (by rw [List.size_toArray]; omega)
  · obtain ⟨its, _, pl, _⟩ := I.tuple hq
    exact call_tuple_same pl ⟨.ref p, H, I, rfl, q⟩
theorem cs_tuple : CaS X (rTupP X.K) tupleA := fun W φ H st vs as Q rs rv h => by
  unfold tupleA at h
  split at h
  · obtain ⟨v, rfl, r⟩ := one_rv rv
    cases r with
    | tup q qs => exact ⟨_, _, rfl, .inr ⟨q.sq, h.ok rs (.tup q qs)⟩⟩
  · rename_i x _
    obtain ⟨v, rfl, r⟩ := one_rv rv
    cases e : itemsL x st with
    | none => rw [e] at h; exact h.elim
    | some ds =>
      rw [e] at h
      obtain ⟨p, xs, rfl, hq, hs⟩ := itemsL_ok rs r e
      exact ⟨p, xs, rfl, .inl ⟨hq, fun l o hd hp => h _ _ _ (ext_new hp) (rs.new hp) (.newTup rs hd hp hs)⟩⟩
  · exact h.elim
inductive Ty where
  | tup | str | int | bool | list
def Ty.nm : Ty → String
  | .tup => "tuple"
  | .str => "str"
  | .int => "int"
  | .bool => "bool"
  | .list => "list"
def Ty.isL : Ty → Bool
  | .list => true
  | _ => false
def isTy : Ty → A → Store → Option Bool
  | .tup, .tup _, _ => some true
  | .str, .str _, _ => some true
  | .int, .int _, _ => some true
  | .int, .bl _, _ => some true
  | .bool, .bl _, _ => some true
  | .list, .scr _, _ => some true
  | T, .ref r, st => match st[r]? with
    | some (.lst _) => some T.isL
    | _ => none
  | _, _, _ => some false
def isiA (T : Ty) (x : A) (st : Store) : R A := match isTy T x st with
  | some b => .ok (.bl b) st
  | none => .bad
theorem tyX_of {K : PySem.W.Frag} {φ : List Addr} {H : Hp} {st : Store} {v : V} {a : A} {T : Ty} {b : Bool} (rs : RS K w mg φ H st) (r : RV K φ H v a) (h : isTy T a st = some b) : ∃ t, TyX K H v (.type t) ∧ kitB t T.nm = some b := by
  cases r with
  | non => refine ⟨"NoneType", .base .non, ?_⟩; cases T <;> (cases h; decide +kernel)
  | bl k => refine ⟨"bool", .base (.bl k), ?_⟩; cases T <;> (cases h; decide +kernel)
  | int k => refine ⟨"int", .base (.int k), ?_⟩; cases T <;> (cases h; decide +kernel)
  | str k => refine ⟨"str", .base (.str k), ?_⟩; cases T <;> (cases h; decide +kernel)
  | tup q qs =>
    refine ⟨"tuple", ?_, by cases T <;> (cases h; decide +kernel)⟩
    rcases q with ⟨⟨o, _, q⟩, _⟩ | ⟨o, its, n, q1, q2, _⟩
    · exact .fTuple q
    · exact .kTuple q1 q2
  | scr q qs =>
    refine ⟨"list", ?_, by cases T <;> (cases h; decide +kernel)⟩
    rcases q with ⟨⟨o, q⟩, _⟩ | ⟨o, its, n, q1, q2, _⟩
    · exact .base (.frz q)
    · exact .kList q1 q2
  | @ref p i q =>
    have h' : (match st[i]? with | some (.lst _) => some T.isL | _ => none) = some b := by cases T <;> exact h
    cases e : st[i]? with
    | none => rw [e] at h'; cases h'
    | some o =>
      cases o with
      | oth u => rw [e] at h'; cases h'
      | lst ds =>
        rw [e] at h'
        obtain ⟨xs, h1, _⟩ := rs.lst q e
        refine ⟨"list", .base (.lst h1), ?_⟩
        cases T <;> (have hb := Option.some.inj h'; subst hb; decide +kernel)
theorem me_isi (T : Ty) {p p2 pos : Pos} {x n : Str} (ha : PE X a (tE X W ma)) (hx : x = "isinstance") (hn : n = Str.ofString T.nm) (hm : X.mg x = none) (hm2 : X.mg n = none) (hv2 : bootBuiltins n = some (.type T.nm)) (hg : Gl X x := by rfl) (hg2 : Gl X n := by rfl) (hn1 : n ≠ "__name__" := by decide) (hd1 : (n == ("__debug__" : Str)) = false := by decide)
    (he2 : starEach [.Name n p2] X.env = (false, eval (.Name n p2) X.env) :: starEach [] X.env := by rfl) (he : starEach (a :: [.Name n p2]) X.env = (false, eval a X.env) :: starEach [.Name n p2] X.env := by rfl) (hpl : (backTo pos (starEach [.Name n p2] X.env)).any (·.1) = false := by rfl) :
    PE X (.Call (.Name x p) [a, .Name n p2] [] pos) (tE X W (mUn (isiA T) ma)) := by
  subst hx
  refine (pe_callB call_isi hg hm PyProof.Rows.boot_isinstance (pa_cons ha (pa_cons (pe_bltn (v := .ty T.nm) hg2 hm2 hv2 rfl hn1 hd1) pa_nil he2) he) (by decide) (by decide) he hpl).imp fun σ H Q ⟨φ, ρ, st, rs, re, h⟩ => ?_
  refine ⟨φ, ρ, st, rs, re, h.seq fun φ1 d v H1 st1 e1 rs1 rv1 h1 => ?_⟩
  unfold isiA at h1
  cases e : isTy T d st1 with
  | none => rw [e] at h1; exact h1.elim
  | some b =>
    rw [e] at h1
    obtain ⟨t, h2, h3⟩ := tyX_of rs1 rv1 e
    exact ⟨v, .ty T.nm, .type t, .type T.nm, b, rfl, .ty _, h2, kit_ty h3, h1.ok rs1 (.bl b)⟩
def isL : A → Store → Bool
  | .ref r, st => match st[r]? with
    | some (.lst _) => true
    | _ => false
  | _, _ => false
theorem isL_ok {K : PySem.W.Frag} {φ : List Addr} {H : Hp} {st : Store} {v : V} {a : A} (rs : RS K w mg φ H st) (r : RV K φ H v a) (h : isL a st = true) : tyV K "list" v H := by
  cases r with
  | @ref p i q =>
    unfold isL at h
    simp only at h
    cases e : st[i]? with
    | none => rw [e] at h; cases h
    | some o =>
      cases o with
      | oth u => rw [e] at h; cases h
      | lst ds =>
        obtain ⟨xs, h1, _⟩ := rs.lst q e
        exact .inl ⟨rfl, xs, .inl (.inl h1)⟩
  | _ => cases h
def MtS (X : Cx) (r : V → List V → Hp → VK → Prop) (g : A → List A → Store → R A) : Prop := ∀ (W : WH) (φ : List Addr) (H : Hp) (st : Store) (v : V) (a : A) (vs : List V) (as : List A) (Q : VK), RS X.K X.w X.mg φ H st → RV X.K φ H v a → RVs X.K φ H vs as → Pst X.K X.w X.mg (RV X.K) W φ H (g a as st) Q → r v vs H Q
def mBm (g : A → List A → Store → R A) (mo : MX) (ms : MA) : MX := fun ρ st => (mo ρ st).bind fun x st1 => if isL x st1 = true then (ms ρ st1).bind fun xs st2 => g x xs st2 else .bad
theorem me_bm {o : Expr} {mo : MX} {name : Str} {id : String} {apos : Pos} {r : V → List V → Hp → VK → Prop} {g : A → List A → Store → R A} (slot : Slot "list" name id) (hty : typeOf (.builtin id) = pure (.type "method_descriptor")) (hm : MtR X id r) (hs : MtS X r g) (ho : PE X o (tE X W mo)) (ha : PA X (e :: es) (tA X W ms))
    (hbase : attributeBase o name X.env (eval o X.env) = eval o X.env := by rfl)
    (hfew : ((backTo pos (starEach (e :: es) X.env)).all (fun x => !x.1) && (backToKw pos (keywordEach [] X.env)).all (fun x => x.1.isSome)
      && decide ((e :: es).length + ([] : List Keyword).length + (if ([] : List Keyword).isEmpty then 0 else 1) < 30)) = true := by rfl)
    (hline : (apos.endLine == pos.line) = true := by rfl) (he : starEach (e :: es) X.env = (false, eval e X.env) :: starEach es X.env := by rfl) (hpl : (backTo pos (starEach es X.env)).any (·.1) = false := by rfl) :
    PE X (.Call (.Attribute o name apos) (e :: es) [] pos) (tE X W (mBm g mo ms)) := by
  refine (pe_bm PySem.F.plainAttrs_list slot hty hm ho ha hbase hfew hline he hpl).imp fun σ H Q ⟨φ, ρ, st, rs, re, h⟩ => ?_
  refine ⟨φ, ρ, st, rs, re, h.seq fun φ1 d v H1 st1 e1 rs1 rv1 h1 => ?_⟩
  cases c : isL d st1 with
  | false => rw [if_neg (by rw [c]; exact Bool.false_ne_true)] at h1; exact h1.elim
  | true =>
    rw [if_pos c] at h1
    exact ⟨isL_ok rs1 rv1 c, φ1, ρ, st1, rs1, re.ext e1, h1.seq fun φ2 ds vs H2 st2 e2 rs2 rv2 h2 => hs _ _ _ _ _ _ _ _ _ rs2 (rv1.ext e2) rv2 h2⟩
def appendA : A → List A → Store → R A
  | .ref r, [x], st => match st[r]? with
    | some (.lst xs) => if xs.length < sizeLine then .ok .non (st.set r (.lst (xs ++ [x]))) else .bad
    | _ => .bad
  | _, _, _ => .bad
theorem ms_append : MtS X rAppend appendA := fun W φ H st v a vs as Q rs ra rv h => by
  unfold appendA at h
  split at h
  · rename_i r x
    obtain ⟨y, rfl, ry⟩ := one_rv rv
    cases ra with
    | @ref p _ q =>
      cases e : st[r]? with
      | none => rw [e] at h; exact h.elim
      | some o =>
        cases o with
        | oth u => rw [e] at h; exact h.elim
        | lst ds =>
          rw [e] at h
          simp only at h
          obtain ⟨xs, h1, h2⟩ := rs.lst q e
          split at h
          · rename_i hz
            obtain ⟨e2, rs2⟩ := rs.write q e (h2.app (.cons ry .nil))
            exact ⟨p, xs, y, rfl, rfl, h1, by rw [h2.length]; exact hz, h _ _ _ e2 rs2 .non⟩
          · exact h.elim
  · exact h.elim
def extendA : A → List A → Store → R A
  | .ref r, [.ref q], st => match st[r]?, st[q]? with
    | some (.lst xs), some (.lst ys) => if xs.length + ys.length ≤ sizeLine then .ok .non (st.set r (.lst (xs ++ ys))) else .bad
    | _, _ => .bad
  | .ref r, [.tup ys], st => match st[r]? with
    | some (.lst xs) => if xs.length + ys.length ≤ sizeLine then .ok .non (st.set r (.lst (xs ++ ys))) else .bad
    | _ => .bad
  | _, _, _ => .bad
theorem list_extend_tupW (l : Addr) (items : Array Value) (n : Nat) (b : Addr) (items2 : Array Value) (n2 : Nat) (dd : Option Addr) (sl : Array (Option Value)) (hs0 : ¬(!items.isEmpty && Builtin.List.listTooLong (items.size + items2.size)) = true) (hs1 : items.size ≤ sizeLine) (hs2 : items.size + items2.size ≤ sizeLine + 1) :
    Meets (Builtin.«list.extend» ⟨[.ref l, .ref b], []⟩) (fun _ R s => s.heap.get? l = some { cls := .type "list", dict := none, data := .seq items n, slots := #[] } ∧ s.heap.get? b = some { cls := .type "tuple", dict := dd, data := .seq items2 n2, slots := sl } ∧ R (.ok (.ret Value.none)) { s with heap := s.heap.update l (Obj.mapSeq fun x => x ++ items2), toks := s.toks }) :=
  .of_wp fun prog w A R s h => by
    obtain ⟨hp, g, d, tk, os⟩ := s; obtain ⟨hl, hb, h⟩ := h; have f1 := AutoSeq1.idx_int; have f2 := AutoSeq1.sub_tuple_tuple; have f3 := AutoSeq1.sub_list_list; have f4 := AutoSeq1.sub_tuple_list; have f5 := AutoSeq1.sub_list_tuple;
    have hz' : (items ++ items2).size ≤ sizeLine + 1 := by rw [Array.size_append]; exact hs2
    wp_walk using (wpAny_updateSeq hl rfl (hz := hs1) (_hz' := hz')), wpAny_loadPart' hl, wpAny_loadPart' hb; exact ⟨_, rfl, h⟩
def rExtendT (K : PySem.W.Frag) : V → List V → Hp → VK → Prop := fun x vs H Q => ∃ l b xs zs, x = .ref l ∧ vs = [.ref b] ∧ H l = some (.lst xs) ∧ SqT K H b zs ∧ xs.length + zs.length ≤ sizeLine ∧ Q .non (upd H l (.lst (xs ++ zs)))
theorem mt_extendT : MtM X "list.extend" (rExtendT X.K) := by
  intro pins s σ H x vs v us Q I rx rv h
  obtain ⟨l, b, xs, zs, rfl, rfl, hH, hB, hz, q⟩ := h
  cases rx
  obtain ⟨u, rfl, ru⟩ := rv.one
  cases ru
  obtain ⟨z, its, n, r, hl, e⟩ := I.lstM hH
  obtain ⟨its2, r2, ⟨⟨cls, dd, data, sl⟩, e2, hc, n2, hd⟩, hs⟩ := I.tuple hB
  simp only at hc hd
  subst hc hd
  have hl2 : its2.length = zs.length := r2.length.symm
  have hsz : its.toArray.size + its2.toArray.size ≤ sizeLine := by rw [List.size_toArray, List.size_toArray]; omega
  have hlong : ¬ (!its.toArray.isEmpty && Builtin.List.listTooLong (its.toArray.size + its2.toArray.size)) = true := by
    rw [notLongL hsz, Bool.and_false]
    exact Bool.false_ne_true
  refine call_meets F.slot_list_extend ⟨_, e, rfl⟩ F.entry_list_extend (F.args_list_extend_2 _ _)
    (list_extend_tupW l its.toArray n b its2.toArray n2 dd sl hlong (by rw [List.size_toArray]; omega) (by omega)) ⟨e, e2, ?_⟩
  refine ⟨.non, _, I.lset (its' := its ++ its2) hH e (by simp) (r.append r2) ?_, rfl, q⟩
  rw [List.length_append]
  omega
abbrev rExtendU (K : PySem.W.Frag) : V → List V → Hp → VK → Prop := fun x vs H Q => rExtend x vs H Q ∨ rExtendT K x vs H Q
theorem mt_extendU : MtM X "list.extend" (rExtendU X.K) := fun pins s σ H x vs v us Q I rx rv h => h.elim (mt_extend pins s σ H x vs v us Q I rx rv) (mt_extendT pins s σ H x vs v us Q I rx rv)
theorem ms_extend : MtS X (rExtendU X.K) extendA := fun W φ H st v a vs as Q rs ra rv h => by
  unfold extendA at h
  split at h
  · rename_i r x
    obtain ⟨y, rfl, ry⟩ := one_rv rv
    cases ra with
    | @ref p _ q =>
      cases ry with
      | @ref p2 _ q2 =>
        cases e : st[r]? with
        | none => rw [e] at h; exact h.elim
        | some o =>
          cases o with
          | oth u => rw [e] at h; exact h.elim
          | lst ds =>
            cases e' : st[x]? with
            | none => rw [e, e'] at h; exact h.elim
            | some o' =>
              cases o' with
              | oth u => rw [e, e'] at h; exact h.elim
              | lst es =>
                rw [e, e'] at h
                simp only at h
                obtain ⟨xs, h1, h2⟩ := rs.lst q e
                obtain ⟨ys, h1', h2'⟩ := rs.lst q2 e'
                split at h
                · rename_i hz
                  obtain ⟨e2, rs2⟩ := rs.write q e (h2.app h2')
                  exact .inl ⟨p, p2, xs, ys, rfl, rfl, h1, h1', by rw [h2.length, h2'.length]; exact hz, h _ _ _ e2 rs2 .non⟩
                · exact h.elim
  · rename_i r ys
    obtain ⟨y, rfl, ry⟩ := one_rv rv
    cases ra with
    | @ref p _ q =>
      cases ry with
      | @tup p2 zs _ q2 qs =>
        cases e : st[r]? with
        | none => rw [e] at h; exact h.elim
        | some o =>
          cases o with
          | oth u => rw [e] at h; exact h.elim
          | lst ds =>
            rw [e] at h
            simp only at h
            obtain ⟨xs, h1, h2⟩ := rs.lst q e
            split at h
            · rename_i hz
              obtain ⟨e2, rs2⟩ := rs.write q e (h2.app qs)
              exact .inr ⟨p, p2, xs, zs, rfl, rfl, h1, q2.sq, by rw [h2.length, qs.length]; exact hz, h _ _ _ e2 rs2 .non⟩
            · exact h.elim
  · exact h.elim
abbrev MF := List A → Store → R A
def spM (K : PySem.W.Frag) (w : World) (mg : Str → Option Value) (m : MF) : Sp := fun vs H Q E => ∃ φ as st, RS K w mg φ H st ∧ RVs K φ H vs as ∧ Pst K w mg (RV K) E φ H (m as st) Q
structure Cal (P : Program) (w : World) (K : PySem.W.Frag) (mg : Str → Option Value) (base : Heap) (x : Str) (k : Nat) (m : MF) : Prop where
  ex : ∃ (f : Addr) (fd : FuncData) (ps : List Str), mg x = some (.ref f) ∧ PySem.W.keepIn K (.ref f) = true ∧ Binds K fd ps [] ∧ FnOk P w K mg base (L2.CX P w) k f fd ps (spM K w mg m)
def mCall (m : MF) (ms : MA) : MX := fun ρ st => (ms ρ st).bind m
theorem me_call {k : Nat} {m : MF} {x : Str} {p : Pos} (C : Cal X.prog X.w X.K X.mg X.base x k m) (hr : Room k X.A) (tk : Takes X W) (ha : PA X (e :: es) (tA X W ms)) (hg : Gl X x := by rfl)
    (hdb : (x == ("__debug__" : Str)) = false := by decide) (he : starEach (e :: es) X.env = (false, eval e X.env) :: starEach es X.env := by rfl) (hpl : (backTo pos (starEach es X.env)).any (·.1) = false := by rfl) :
    PE X (.Call (.Name x p) (e :: es) [] pos) (tE X W (mCall m ms)) := by
  obtain ⟨f, fd, ps, hm, hk, hb, F⟩ := C.ex
  refine (pe_callS F hr hg hm hk hb (E := WE W) (fun σ => passAt tk σ) ha hdb he hpl).imp fun σ H Q ⟨φ, ρ, st, rs, re, h⟩ => ?_
  exact ⟨φ, ρ, st, rs, re, h.seq fun φ1 ds vs H1 st1 e1 rs1 rv1 h1 => ⟨φ1, ds, st1, rs1, rv1, h1⟩⟩
end
end ML
namespace ML
open PySem PySem.Spec L2
inductive SR where
  | nx (ρ : Env) (st : Store) | bk (ρ : Env) (st : Store) | ct (ρ : Env) (st : Store) | rt (a : A) (st : Store) | er (e : Er) (ρ : Env) (st : Store) | bad
abbrev MS := Env → Store → SR
def SPst (K : PySem.W.Frag) (w : World) (mg : Str → Option Value) (W : WX) (φ : List Addr) (H : Hp) (r : SR) (D : Ends) : Prop := match r with
  | .nx ρ st => ∀ φ' σ' H', Ext φ H φ' H' → RS K w mg φ' H' st → RE K φ' H' σ' ρ → D.nx σ' H'
  | .bk ρ st => ∀ φ' σ' H', Ext φ H φ' H' → RS K w mg φ' H' st → RE K φ' H' σ' ρ → D.bk σ' H'
  | .ct ρ st => ∀ φ' σ' H', Ext φ H φ' H' → RS K w mg φ' H' st → RE K φ' H' σ' ρ → D.ct σ' H'
  | .rt a st => ∀ φ' v H', Ext φ H φ' H' → RS K w mg φ' H' st → RV K φ' H' v a → D.rt v H'
  | .er e ρ st => ∀ φ' c d σ' H', Ext φ H φ' H' → RS K w mg φ' H' st → RE K φ' H' σ' ρ → RErr K mg φ' H' c d e → W c d σ' H'
  | .bad => False
def tS (X : Cx) (W : WX) (m : MS) : TS := fun D σ H => ∃ φ ρ st, RS X.K X.w X.mg φ H st ∧ RE X.K φ H σ ρ ∧ SPst X.K X.w X.mg W φ H (m ρ st) D
def R.toS {α : Type} (r : R α) (ρ : Env) (f : α → Store → SR) : SR := match r with
  | .ok a st => f a st
  | .er e st => .er e ρ st
  | .bad => .bad
section
variable {K : PySem.W.Frag} {w : World} {φ φ' : List Addr} {H H' : Hp} {st : Store} {mg : Str → Option Value} {α β : Type} {W : WX} {D : Ends} {σ : L2.St} {ρ : Env}
theorem SPst.mono {r : SR} (h : SPst K w mg W φ H r D) (e : Ext φ H φ' H') : SPst K w mg W φ' H' r D := by
  cases r with
  | nx ρ st => exact fun φ2 σ2 H2 e2 s q => h φ2 σ2 H2 (e.trans e2) s q
  | bk ρ st => exact fun φ2 σ2 H2 e2 s q => h φ2 σ2 H2 (e.trans e2) s q
  | ct ρ st => exact fun φ2 σ2 H2 e2 s q => h φ2 σ2 H2 (e.trans e2) s q
  | rt a st => exact fun φ2 v H2 e2 s q => h φ2 v H2 (e.trans e2) s q
  | er x ρ st => exact fun φ2 c d σ2 H2 e2 s q => h φ2 c d σ2 H2 (e.trans e2) s q
  | bad => exact h
theorem SPst.exp {Rl : List Addr → Hp → β → α → Prop} {r : R α} {f : α → Store → SR} {Q1 : β → Hp → Prop} (h : SPst K w mg W φ H (r.toS ρ f) D) (re : RE K φ H σ ρ)
    (k : ∀ φ1 a x H1 st1, Ext φ H φ1 H1 → RS K w mg φ1 H1 st1 → Rl φ1 H1 x a → SPst K w mg W φ1 H1 (f a st1) D → Q1 x H1) : Pst K w mg Rl (fun c d H' => W c d σ H') φ H r Q1 := by
  cases r with
  | ok a st => exact fun φ1 v H1 e s q => k φ1 a v H1 st e s q (SPst.mono h e)
  | er x st => exact fun φ1 c d H1 e s q => h φ1 c d σ H1 e s (re.ext e) q
  | bad => exact h
end
section
variable {X : Cx} {W : WX} {s : Stmt} {ss rest : List Stmt} {t t' : TS} {a b e : Expr} {ma mb : MX} {pos : Pos} {m m1 m2 : MS}
theorem _root_.L2.PS.imp (h : PS X s t) (k : ∀ D σ H, t' D σ H → t D σ H) : PS X s t' := ⟨fun pins s σ H D I q => h.run pins s σ H D I (k _ _ _ q)⟩
theorem _root_.L2.PSs.imp (h : PSs X ss t) (k : ∀ D σ H, t' D σ H → t D σ H) : PSs X ss t' := ⟨fun pins s σ H D I q => h.run pins s σ H D I (k _ _ _ q)⟩
def mSeq (m1 m2 : MS) : MS := fun ρ st => match m1 ρ st with
  | .nx ρ1 st1 => m2 ρ1 st1
  | r => r
def mNext : MS := fun ρ st => .nx ρ st
theorem mss_nil : PSs X [] (tS X W mNext) := pss_nil.imp fun D σ H ⟨φ, ρ, st, rs, re, h⟩ => h φ σ H .refl rs re
theorem mss_cons (h1 : PS X s (tS X W m1)) (h2 : PSs X rest (tS X W m2)) : PSs X (s :: rest) (tS X W (mSeq m1 m2)) := (pss_cons h1 h2).imp fun D σ H ⟨φ, ρ, st, rs, re, h⟩ => by
  refine ⟨φ, ρ, st, rs, re, ?_⟩
  unfold mSeq at h
  cases e : m1 ρ st with
  | nx ρ1 st1 =>
    rw [e] at h
    exact fun φ' σ' H' ex rs' re' => ⟨φ', ρ1, st1, rs', re', SPst.mono h ex⟩
  | bk ρ1 st1 => rw [e] at h; exact h
  | ct ρ1 st1 => rw [e] at h; exact h
  | rt a st1 => rw [e] at h; exact h
  | er x ρ1 st1 => rw [e] at h; exact h
  | bad => rw [e] at h; exact h
theorem mss_one (h1 : PS X s (tS X W m)) : PSs X [s] (tS X W m) := pss_one h1
def mExpr (ma : MX) : MS := fun ρ st => (ma ρ st).toS ρ fun _ st1 => .nx ρ st1
theorem ms_expr (ha : PE X a (tE X W ma)) (hs : swapsWith a none pos.line X.env = pure false := by rfl) : PS X (.Expr a pos) (tS X W (mExpr ma)) := (ps_expr ha hs).imp fun D σ H ⟨φ, ρ, st, rs, re, h⟩ =>
  ⟨φ, ρ, st, rs, re, h.exp re fun φ1 a x H1 st1 e1 rs1 rv1 h1 => h1 φ1 σ H1 .refl rs1 (re.ext e1)⟩
def mRet (ma : MX) : MS := fun ρ st => (ma ρ st).toS ρ fun a st1 => .rt a st1
theorem ms_ret (ha : PE X a (tE X W ma)) : PS X (.Return (some a) pos) (tS X W (mRet ma)) := (ps_ret ha).imp fun D σ H ⟨φ, ρ, st, rs, re, h⟩ =>
  ⟨φ, ρ, st, rs, re, h.exp re fun φ1 a x H1 st1 e1 rs1 rv1 h1 => h1 φ1 x H1 .refl rs1 rv1⟩
def mIfS (c : MT) (m1 m2 : MS) : MS := fun ρ st => (c ρ st).toS ρ fun b st1 => if b = true then m1 ρ st1 else m2 ρ st1
theorem ms_if {c : Expr} {mc : MT} {s1 s2 : List Stmt} (hc : PT X c (tT X W mc)) (h1 : PSs X s1 (tS X W m1)) (h2 : PSs X s2 (tS X W m2)) : PS X (.If c s1 s2 pos) (tS X W (mIfS mc m1 m2)) := (ps_if hc h1 h2).imp fun D σ H ⟨φ, ρ, st, rs, re, h⟩ => by
  refine ⟨φ, ρ, st, rs, re, h.exp re fun φ1 b x H1 st1 e1 rs1 rv1 h1 => ?_⟩
  subst rv1
  cases x with
  | true => exact iteT ⟨φ1, ρ, st1, rs1, re.ext e1, h1⟩
  | false => exact iteF ⟨φ1, ρ, st1, rs1, re.ext e1, h1⟩
def RVw (K : PySem.W.Frag) (φ : List Addr) (H : Hp) : Bool → V → A → Prop
  | false, v, a => RV K φ H v a
  | true, v, a => ∃ p xs ds, v = .ref p ∧ a = .tup ds ∧ SqT K H p xs ∧ RVs K φ H xs ds
inductive Tg where
  | one (i : Nat) | many (is : List Nat) | nest (i : Nat) (is : List Nat)
def setsV (σ : L2.St) : List Nat → List V → L2.St
  | i :: is, v :: vs => setsV (σ.set i (some v)) is vs
  | _, _ => σ
def setsA (ρ : Env) : List Nat → List A → Env
  | i :: is, v :: vs => setsA (ρ.set i (some v)) is vs
  | _, _ => ρ
def gNames : List Nat → TGs
  | [] => gNil
  | i :: is => gCons (gName i) (gNames is)
def gOf (K : PySem.W.Frag) : Tg → TG
  | .one i => gName i
  | .many is => gTup K is.length (gNames is)
  | .nest i is => gTup K 2 (gCons (gName i) (gCons (gTup K is.length (gNames is)) gNil))
def asgT : Tg → A → Env → Store → Option Env
  | .one i, a, ρ, _ => some (ρ.set i (some a))
  | .many is, .tup as, ρ, _ => if as.length = is.length then some (setsA ρ is as) else none
  | .many _, _, _, _ => none
  | .nest i is, .tup [a, .tup bs], ρ, _ => if bs.length = is.length then some (setsA (ρ.set i (some a)) is bs) else none
  | .nest _ _, _, _, _ => none
def Tg.slots : Tg → List Nat
  | .one i => [i]
  | .many is => is
  | .nest i is => i :: is
theorem gNames_run {Q : L2.St → Hp → Prop} {H : Hp} : ∀ {is : List Nat} {vs : List V} {σ : L2.St}, vs.length = is.length → Q (setsV σ is vs) H → gNames is vs σ H Q
  | [], [], σ, _, h => ⟨rfl, h⟩
  | i :: is, v :: vs, σ, hl, h => ⟨v, vs, rfl, gNames_run (by simpa using hl) h⟩
  | [], _ :: _, _, hl, _ => by simp at hl
  | _ :: _, [], _, hl, _ => by simp at hl
theorem RE.sets {K : PySem.W.Frag} {φ : List Addr} {H : Hp} : ∀ {is : List Nat} {vs : List V} {as : List A} {σ : L2.St} {ρ : Env}, RE K φ H σ ρ → RVs K φ H vs as → RE K φ H (setsV σ is vs) (setsA ρ is as)
  | [], _, _, _, _, r, q => by cases q <;> exact r
  | _ :: _, _, _, _, _, r, .nil => r
  | i :: is, _, _, _, _, r, .cons h q => RE.sets (is := is) (r.set h i) q
theorem asgT_nest {i : Nat} {is : List Nat} {d : A} {ρ ρ' : Env} {st : Store} (h : asgT (.nest i is) d ρ st = some ρ') : ∃ a bs, d = .tup [a, .tup bs] ∧ bs.length = is.length ∧ ρ' = setsA (ρ.set i (some a)) is bs := by
  cases d with
  | tup ds =>
    match ds with
    | [] => cases h
    | [_] => cases h
    | [a, b] =>
      cases b with
      | tup bs =>
        unfold asgT at h
        simp only at h
        split at h
        · rename_i hl
          cases h
          exact ⟨a, bs, rfl, hl, rfl⟩
        · cases h
      | _ => cases h
    | _ :: b :: _ :: _ => cases b <;> first | (cases h; done) | simp [asgT] at h
  | _ => cases h
theorem gOf_run {K : PySem.W.Frag} {φ : List Addr} {H : Hp} {tg : Tg} {v : V} {d : A} {σ : L2.St} {ρ ρ' : Env} {st : Store} {Q : L2.St → Hp → Prop} (r : RV K φ H v d) (re : RE K φ H σ ρ) (h : asgT tg d ρ st = some ρ')
    (k : ∀ xs, RE K φ H (setsV σ tg.slots xs) ρ' → Q (setsV σ tg.slots xs) H) : gOf K tg v σ H Q := by
  cases tg with
  | one i =>
    cases h
    exact k [v] (re.set r i)
  | many is =>
    cases r with
    | @tup p xs ds q qs =>
      unfold asgT at h
      simp only at h
      split at h
      · rename_i hl
        cases h
        have hl' : xs.length = is.length := by rw [qs.length]; exact hl
        exact ⟨p, xs, rfl, q.sq, hl', gNames_run hl' (k xs (re.sets qs))⟩
      · cases h
    | _ => cases h
  | nest i is =>
    obtain ⟨a, bs, rfl, hl, rfl⟩ := asgT_nest h
    cases r with
    | @tup p xs ds q qs =>
      cases qs with
      | cons r1 qs2 =>
        cases qs2 with
        | cons r2 qs3 =>
          cases qs3
          cases r2 with
          | @tup p2 ys ds2 q2 qq =>
            have hl' : ys.length = is.length := by rw [qq.length]; exact hl
            refine ⟨p, _, rfl, q.sq, rfl, _, _, rfl, _, _, rfl, ⟨p2, ys, rfl, q2.sq, hl', gNames_run hl' ⟨rfl, ?_⟩⟩⟩
            exact k (_ :: ys) ((re.set r1 i).sets qq)
def Tg.isOne : Tg → Bool
  | .one _ => true
  | _ => false
theorem gOf_runB {K : PySem.W.Frag} {φ : List Addr} {H : Hp} {wk : Bool} {tg : Tg} {v : V} {d : A} {σ : L2.St} {ρ ρ' : Env} {st : Store} {Q : L2.St → Hp → Prop} (hw : wk = false ∨ tg.isOne = false) (r : RVw K φ H wk v d) (re : RE K φ H σ ρ) (h : asgT tg d ρ st = some ρ')
    (k : ∀ xs, RE K φ H (setsV σ tg.slots xs) ρ' → Q (setsV σ tg.slots xs) H) : gOf K tg v σ H Q := by
  cases wk with
  | false => exact gOf_run r re h k
  | true =>
    obtain ⟨p, xs, ds, rfl, rfl, q, qs⟩ := r
    cases tg with
    | one i => exact hw.elim (fun z => by cases z) fun z => by cases z
    | many is =>
      unfold asgT at h
      simp only at h
      split at h
      · rename_i hl
        cases h
        have hl' : xs.length = is.length := by rw [qs.length]; exact hl
        exact ⟨p, xs, rfl, q, hl', gNames_run hl' (k xs (re.sets qs))⟩
      · cases h
    | nest i is =>
      obtain ⟨a, bs, e, hl, rfl⟩ := asgT_nest h
      cases e
      cases qs with
      | cons r1 qs2 =>
        cases qs2 with
        | cons r2 qs3 =>
          cases qs3
          cases r2 with
          | @tup p2 ys ds2 q2 qq =>
            have hl' : ys.length = is.length := by rw [qq.length]; exact hl
            refine ⟨p, _, rfl, q, rfl, _, _, rfl, _, _, rfl, ⟨p2, ys, rfl, q2.sq, hl', gNames_run hl' ⟨rfl, ?_⟩⟩⟩
            exact k (_ :: ys) ((re.set r1 i).sets qq)
theorem mg_one {i : Nat} {x : Str} (hN : X.N.Nodup) (hi : X.N[i]? = some x := by rfl) (hx : Loc X.env.scope x := by first | exact Or.inl rfl | exact Or.inr rfl) (hf : X.fn x = true ∨ X.env.scope.names.lookup x = some .local := by first | exact .inl rfl | exact .inr rfl | assumption) : PG X (.Name x pos) (gOf X.K (.one i)) := pg_name hN hi hx hf
def mAsg (tg : Tg) (ma : MX) : MS := fun ρ st => (ma ρ st).toS ρ fun d st1 => match asgT tg d ρ st1 with
  | some ρ' => .nx ρ' st1
  | none => .bad
theorem asg_ok {tg : Tg} {D : Ends} {σ : L2.St} {H : Hp} (h : tS X W (mAsg tg ma) D σ H) : tAsg (tE X W ma) (gOf X.K tg) D σ H := by
  obtain ⟨φ, ρ, st, rs, re, h⟩ := h
  refine ⟨φ, ρ, st, rs, re, h.exp re fun φ1 d x H1 st1 e1 rs1 rv1 h1 => ?_⟩
  cases q : asgT tg d ρ st1 with
  | none => simp only [q] at h1; exact h1.elim
  | some ρ' =>
    simp only [q] at h1
    exact gOf_run rv1 (re.ext e1) q fun xs re' => h1 φ1 _ H1 .refl rs1 re'
def mSet (i : Nat) (ma : MX) : MS := fun ρ st => (ma ρ st).toS ρ fun d st1 => .nx (ρ.set i (some d)) st1
theorem set_ok {i : Nat} {D : Ends} {σ : L2.St} {H : Hp} (h : tS X W (mSet i ma) D σ H) : tAsg (tE X W ma) (gName i) D σ H := asg_ok (tg := .one i) h
theorem ms_set {i : Nat} {x : Str} {pos' : Pos} (hN : X.N.Nodup) (he : PE X e (tE X W ma)) (hi : X.N[i]? = some x := by rfl) (hx : Loc X.env.scope x := by first | exact Or.inl rfl | exact Or.inr rfl) (hs : swapsWith e (some (.Name x pos')) pos.line X.env = pure false := by rfl)
    (hf : X.fn x = true ∨ X.env.scope.names.lookup x = some .local := by first | exact .inl rfl | exact .inr rfl | assumption) : PS X (.Assign [.Name x pos'] e pos) (tS X W (mSet i ma)) := (ps_set hN hi hx he hs hf).imp fun _ _ _ h => set_ok h
def setA : A → A → A → Store → Option Store
  | .ref r, .int k, d, st => match st[r]? with
    | some (.lst xs) => match ixN xs.length k with
      | some j => some (st.set r (.lst (xs.set j d)))
      | none => none
    | _ => none
  | _, _, _, _ => none
def mPut (mo mi ma : MX) : MS := fun ρ st => (ma ρ st).toS ρ fun d st1 => (mo ρ st1).toS ρ fun o st2 => (mi ρ st2).toS ρ fun i st3 => match setA o i d st3 with
  | some st4 => .nx ρ st4
  | none => .bad
theorem ms_put {o i : Expr} {mo mi : MX} {p2 : Pos} (ho : PE X o (tE X W mo)) (hi : PE X i (tE X W mi)) (he : PE X e (tE X W ma))
    (ha : ∀ v, assign (.Subscript o i p2) X.env v = (do
      let ov ← holding [v] (eval o X.env)
      let iv ← holding [v, ov] (eval i X.env)
      standAt p2
      holding [v, ov, iv] (setItem ov iv v)
      release [v, ov, iv] []) := by intro _; rfl) (hs : swapsWithSole [.Subscript o i p2] e pos.line X.env = pure false := by rfl) (hw : swappedStores [.Subscript o i p2] e X.env = pure none := by rfl)
    (h1 : (assignEach [.Subscript o i p2] X.env).map (·.2) = [assign (.Subscript o i p2) X.env] := by rfl) : PS X (.Assign [.Subscript o i p2] e pos) (tS X W (mPut mo mi ma)) := (ps_asg he (pg_sub ho hi set_list ha) hs hw h1).imp fun D σ H ⟨φ, ρ, st, rs, re, h⟩ => by
  refine ⟨φ, ρ, st, rs, re, h.exp re fun φ1 d x H1 st1 e1 rs1 rv1 h1 => ?_⟩
  refine ⟨φ1, ρ, st1, rs1, re.ext e1, h1.exp (re.ext e1) fun φ2 o y H2 st2 e2 rs2 rv2 h2 => ?_⟩
  refine ⟨φ2, ρ, st2, rs2, (re.ext e1).ext e2, h2.exp ((re.ext e1).ext e2) fun φ3 i z H3 st3 e3 rs3 rv3 h3 => ?_⟩
  cases q : setA o i d st3 with
  | none => simp only [q] at h3; exact h3.elim
  | some st4 =>
    simp only [q] at h3
    unfold setA at q
    split at q
    · rename_i r k
      cases rv3
      have rv2' := rv2.ext e3
      cases rv2' with
      | @ref p _ qp =>
        cases e5 : st3[r]? with
        | none => rw [e5] at q; cases q
        | some ob =>
          cases ob with
          | oth u => rw [e5] at q; cases q
          | lst ds =>
            rw [e5] at q
            simp only at q
            cases e6 : ixN ds.length k with
            | none => rw [e6] at q; cases q
            | some j =>
              rw [e6] at q
              cases q
              obtain ⟨vs, g1, g2⟩ := rs3.lst qp e5
              obtain ⟨e7, rs4⟩ := rs3.write qp e5 (g2.set ((rv1.ext e2).ext e3) j)
              exact ⟨p, vs, k, j, rfl, rfl, g1, by rw [g2.length]; exact e6, h3 φ3 σ _ e7 rs4 ((((re.ext e1).ext e2).ext e3).ext e7)⟩
    · cases q
inductive Src where
  | vals (xs : List A) | lst (r : Nat) | rng (lo : Int) (n : Nat) | chars (x : Str) | zipv (xs ys : List A) | zipl (r q : Nat) | revl (r n : Nat) | enul (r : Nat)
def stL (st : Store) (r : Nat) : Option (List A) := match st[r]? with
  | some (.lst xs) => some xs
  | _ => none
def Src.at (s : Src) (i : Nat) (st : Store) : Option (Option A) := match s with
  | .vals xs => some xs[i]?
  | .lst r => match stL st r with
    | some xs => some xs[i]?
    | none => none
  | .rng lo n => some (if i < n then some (.int (lo + (i : Nat))) else none)
  | .chars x => some (x.cps[i]?.map fun c => .str ⟨#[c]⟩)
  | .zipv xs ys => some (match xs[i]?, ys[i]? with
    | some a, some b => some (.tup [a, b])
    | _, _ => none)
  | .zipl r q => match stL st r, stL st q with
    | some xs, some ys => some (match xs[i]?, ys[i]? with
      | some a, some b => some (.tup [a, b])
      | _, _ => none)
    | _, _ => none
  | .revl r n => if i < n then (match stL st r with
    | some xs => (match xs[n - 1 - i]? with
      | some x => some (some x)
      | none => none)
    | none => none) else some none
  | .enul r => match stL st r with
    | some xs => some (match xs[i]? with
      | some a => some (.tup [.int (i : Nat), a])
      | none => none)
    | none => none
def Src.size (s : Src) (st : Store) : Nat := match s with
  | .vals xs => xs.length
  | .lst r => ((stL st r).getD []).length
  | .rng _ n => n
  | .chars x => x.cps.size
  | .zipv xs _ => xs.length
  | .zipl r _ => ((stL st r).getD []).length
  | .revl _ n => n
  | .enul r => ((stL st r).getD []).length
structure SimB (K : PySem.W.Frag) (w : World) (mg : Str → Option Value) (wk : Bool) (φ0 : List Addr) (H0 : Hp) (J : It) (s : Src) : Prop where
  stop : ∀ i φ H st, Ext φ0 H0 φ H → RS K w mg φ H st → s.at i st = some none → J.stop i H
  go : ∀ i φ H st a, Ext φ0 H0 φ H → RS K w mg φ H st → s.at i st = some (some a) → J.go i H ∧ ∀ x H', J.yld i H x H' → Ext φ H φ H' ∧ RS K w mg φ H' st ∧ RVw K φ H' wk x a
abbrev SimS (K : PySem.W.Frag) (w : World) (mg : Str → Option Value) := SimB K w mg false
abbrev tI (X : Cx) (W : WX) (ms : Env → Store → R Src) : TI := tG X.K X.w X.mg (SimS X.K X.w X.mg) W ms
theorem PIimp {tg iter : Expr} {t t' : TI} (h : PI X tg iter t) (k : ∀ σ H R, t' σ H R → t σ H R) : PI X tg iter t' := ⟨fun pins s σ H R I q => h.run pins s σ H R I (k _ _ _ q)⟩
theorem PIor {tg iter : Expr} {t t' : TI} (h : PI X tg iter t) (h' : PI X tg iter t') : PI X tg iter (fun σ H R => t σ H R ∨ t' σ H R) := ⟨fun pins s σ H R I q => q.elim (h.run pins s σ H R I) (h'.run pins s σ H R I)⟩
def srcA : A → Store → R Src
  | .tup xs, st => .ok (.vals xs) st
  | .scr xs, st => .ok (.vals xs) st
  | .str x, st => .ok (.chars x) st
  | .ref r, st => match st[r]? with
    | some (.lst _) => .ok (.lst r) st
    | _ => .bad
  | _, _ => .bad
def mSrc (ma : MX) : Env → Store → R Src := fun ρ st => (ma ρ st).bind srcA
end
section
variable {K : PySem.W.Frag} {w : World} {mg : Str → Option Value} {φ0 : List Addr} {H0 : Hp}
theorem sim_tup {a : Addr} {xs : List V} {ds : List A} (q : StT K φ0 H0 a xs) (qs : RVs K φ0 H0 xs ds) : SimS K w mg φ0 H0 (Itt K a) (.vals ds) where
  stop := fun i φ H st e rs h => ⟨xs, (q.ext e).sq, by
    have h1 : ds[i]? = none := Option.some.inj h
    rw [qs.length]
    exact List.getElem?_eq_none_iff.mp h1⟩
  go := fun i φ H st d e rs h => by
    have h1 : ds[i]? = some d := Option.some.inj h
    obtain ⟨v, h2, h3⟩ := qs.get h1
    refine ⟨⟨xs, v, (q.ext e).sq, h2⟩, fun x H' y => ?_⟩
    obtain ⟨rfl, y⟩ := y
    have e3 := (y xs (q.ext e).sq).symm.trans h2
    cases e3
    exact ⟨.refl, rs, h3.ext e⟩
theorem sim_scr {a : Addr} {xs : List V} {ds : List A} (q : StL K φ0 H0 a xs) (qs : RVs K φ0 H0 xs ds) : SimS K w mg φ0 H0 (Itl K a) (.vals ds) where
  stop := fun i φ H st e rs h => ⟨xs, (q.ext e).sq, by
    have h1 : ds[i]? = none := Option.some.inj h
    rw [qs.length]
    exact List.getElem?_eq_none_iff.mp h1⟩
  go := fun i φ H st d e rs h => by
    have h1 : ds[i]? = some d := Option.some.inj h
    obtain ⟨v, h2, h3⟩ := qs.get h1
    refine ⟨⟨xs, v, (q.ext e).sq, h2⟩, fun x H' y => ?_⟩
    obtain ⟨rfl, y⟩ := y
    have e3 := (y xs (q.ext e).sq).symm.trans h2
    cases e3
    exact ⟨.refl, rs, h3.ext e⟩
theorem stL_eq {st : Store} {r : Nat} {xs : List A} (h : stL st r = some xs) : st[r]? = some (.lst xs) := by
  unfold stL at h
  split at h
  · rename_i ys e
    cases h
    exact e
  · cases h
theorem sim_lst {a : Addr} {r : Nat} (q : φ0[r]? = some a) : SimS K w mg φ0 H0 (Itl K a) (.lst r) where
  stop := fun i φ H st e rs h => by
    unfold Src.at at h
    simp only at h
    cases e1 : stL st r with
    | none => rw [e1] at h; cases h
    | some ds =>
      rw [e1] at h
      obtain ⟨xs, h1, h2⟩ := rs.lst (e.get q) (stL_eq e1)
      have h3 : ds[i]? = none := Option.some.inj h
      exact ⟨xs, .inl (.inl h1), by rw [h2.length]; exact List.getElem?_eq_none_iff.mp h3⟩
  go := fun i φ H st d e rs h => by
    unfold Src.at at h
    simp only at h
    cases e1 : stL st r with
    | none => rw [e1] at h; cases h
    | some ds =>
      rw [e1] at h
      obtain ⟨xs, h1, h2⟩ := rs.lst (e.get q) (stL_eq e1)
      have h3 : ds[i]? = some d := Option.some.inj h
      obtain ⟨v, h4, h5⟩ := h2.get h3
      refine ⟨⟨xs, v, .inl (.inl h1), h4⟩, fun x H' y => ?_⟩
      obtain ⟨rfl, y⟩ := y
      have e3 := (y xs (.inl (.inl h1))).symm.trans h4
      cases e3
      exact ⟨.refl, rs, h5⟩
theorem sim_rng {lo : Int} {n : Nat} : SimS K w mg φ0 H0 (Itr lo n) (.rng lo n) where
  stop := fun i φ H st e rs h => by
    unfold Src.at at h
    simp only [Option.some.injEq] at h
    split at h
    · cases h
    · rename_i hn
      exact Nat.le_of_not_lt hn
  go := fun i φ H st d e rs h => by
    unfold Src.at at h
    simp only [Option.some.injEq] at h
    split at h
    · rename_i hn
      cases h
      refine ⟨hn, fun x H' y => ?_⟩
      obtain ⟨rfl, rfl⟩ := y
      exact ⟨.refl, rs, .int _⟩
    · cases h
theorem sim_chars {z : Str} : SimS K w mg φ0 H0 (Its z) (.chars z) where
  stop := fun i φ H st e rs h => by
    unfold Src.at at h
    simp only [Option.some.injEq, Option.map_eq_none_iff] at h
    exact Array.getElem?_eq_none_iff.mp h
  go := fun i φ H st d e rs h => by
    unfold Src.at at h
    simp only [Option.some.injEq, Option.map_eq_some_iff] at h
    obtain ⟨c, hc, rfl⟩ := h
    refine ⟨(Array.getElem?_eq_some_iff.mp hc).1, fun x H' y => ?_⟩
    obtain ⟨rfl, c', hc', rfl⟩ := y
    rw [hc] at hc'
    cases hc'
    exact ⟨.refl, rs, .str _⟩
end
section
variable {X : Cx} {W : WX} {a b e tg : Expr} {ma mb : MX} {ms : MA} {pos : Pos}
theorem mi_it (ha : PE X a (tE X W ma)) : PI X tg a (tI X W (mSrc ma)) := PIimp (PIor (pi_list ha) (PIor (pi_tup ha) (pi_str ha))) fun σ H Q ⟨φ, ρ, st, rs, re, h⟩ => by
  unfold mSrc at h
  cases e : ma ρ st with
  | bad => rw [e] at h; exact h.elim
  | er x st1 =>
    rw [e] at h
    exact .inl ⟨φ, ρ, st, rs, re, by rw [e]; exact h⟩
  | ok d st1 =>
    rw [e] at h
    have h : Pst X.K X.w X.mg (SimS X.K X.w X.mg) (fun c d H' => W c d σ H') φ H (srcA d st1) Q := h
    cases d with
    | tup ds =>
      refine .inr (.inl ⟨φ, ρ, st, rs, re, ?_⟩)
      rw [e]
      intro φ1 v H1 e1 rs1 rv1
      cases rv1 with
      | tup q qs => exact ⟨_, rfl, ⟨_, q.sq⟩, h φ1 _ H1 e1 rs1 (sim_tup q qs)⟩
    | scr ds =>
      refine .inl ⟨φ, ρ, st, rs, re, ?_⟩
      rw [e]
      intro φ1 v H1 e1 rs1 rv1
      cases rv1 with
      | scr q qs => exact ⟨_, rfl, ⟨_, q.sq⟩, h φ1 _ H1 e1 rs1 (sim_scr q qs)⟩
    | str z =>
      refine .inr (.inr ⟨φ, ρ, st, rs, re, ?_⟩)
      rw [e]
      intro φ1 v H1 e1 rs1 rv1
      cases rv1
      exact ⟨_, rfl, h φ1 _ H1 e1 rs1 sim_chars⟩
    | ref r =>
      refine .inl ⟨φ, ρ, st, rs, re, ?_⟩
      rw [e]
      intro φ1 v H1 e1 rs1 rv1
      unfold srcA at h
      simp only at h
      cases e2 : st1[r]? with
      | none => rw [e2] at h; exact h.elim
      | some o =>
        cases o with
        | oth u => rw [e2] at h; exact h.elim
        | lst ds =>
          rw [e2] at h
          cases rv1 with
          | ref q =>
            obtain ⟨xs, h1, _⟩ := rs1.lst q e2
            exact ⟨_, rfl, ⟨_, .inl (.inl h1)⟩, h φ1 _ H1 e1 rs1 (sim_lst q)⟩
    | _ => exact h.elim
def rngA : List A → Store → R Src
  | [.int j], st => if -(2 ^ 62) ≤ j ∧ j < 2 ^ 62 then .ok (.rng 0 j.toNat) st else .bad
  | [.int i, .int j], st => if -(2 ^ 62) ≤ i ∧ i < 2 ^ 62 ∧ -(2 ^ 62) ≤ j ∧ j < 2 ^ 62 then .ok (.rng i (j - i).toNat) st else .bad
  | _, _ => .bad
def mRng (ms : MA) : Env → Store → R Src := fun ρ st => (ms ρ st).bind rngA
theorem mi_range1 {p : Pos} {x : Str} (hm : X.mg "range" = none) (ha : PA X [a] (tA X W ms)) (hg : Gl X "range" := by rfl) (hs : starEach [a] X.env = [(false, eval a X.env)] := by rfl) (hn : ∀ ρ st as st', ms ρ st = .ok as st' → as.length = 1) : PI X tg (.Call (.Name "range" p) [a] [] pos) (tI X W (mRng ms)) := PIimp (pi_range1 hg hm ha hs) fun σ H Q ⟨φ, ρ, st, rs, re, h⟩ => by
  have hn' := hn ρ st
  refine ⟨φ, ρ, st, rs, re, ?_⟩
  unfold mRng at h
  cases e : ms ρ st with
  | bad => rw [e] at h; exact h.elim
  | er x st1 => rw [e] at h; exact h
  | ok ds st1 =>
    rw [e] at h
    have hl := hn' ds st1 e
    intro φ1 vs H1 e1 rs1 rv1
    have h1 : Pst X.K X.w X.mg (SimS X.K X.w X.mg) (fun c d H' => W c d σ H') φ H (rngA ds st1) Q := h
    unfold rngA at h1
    split at h1
    · split at h1
      · rename_i hz
        obtain ⟨v, rfl, r⟩ := one_rv rv1
        cases r
        exact ⟨_, rfl, hz.1, hz.2, h1 φ1 _ H1 e1 rs1 sim_rng⟩
      · exact h1.elim
    · simp at hl
    · exact h1.elim
theorem cons1 {mx : MX} (ρ : Env) (st : Store) (as : List A) (st' : Store) (h : mCons mx mNil ρ st = .ok as st') : as.length = 1 := by
  unfold mCons at h
  cases e : mx ρ st with
  | ok d st1 => rw [e] at h; cases h; rfl
  | er x st1 => rw [e] at h; cases h
  | bad => rw [e] at h; cases h
def loopF (s : Src) (tg : Tg) (body : MS) : Nat → Nat → MS
  | 0, _, _, _ => .bad
  | n + 1, i, ρ, st => match s.at i st with
    | none => .bad
    | some none => .nx ρ st
    | some (some d) => match asgT tg d ρ st with
      | none => .bad
      | some ρ1 => match body ρ1 st with
        | .nx ρ2 st2 => loopF s tg body n (i + 1) ρ2 st2
        | .ct ρ2 st2 => loopF s tg body n (i + 1) ρ2 st2
        | .bk ρ2 st2 => .nx ρ2 st2
        | r => r
def mFor (ms : Env → Store → R Src) (tg : Tg) (body : MS) : MS := fun ρ st => (ms ρ st).toS ρ fun s st1 => loopF s tg body (s.size st1 + 1) 0 ρ st1
theorem ms_for {iter : Expr} {body : List Stmt} {wk : Bool} {mi : Env → Store → R Src} {T : Tg} {mb : MS} (hp : PassesOwn (model X.prog X.w) X.A X.env X.xe) (hi : PI X tg iter (tG X.K X.w X.mg (SimB X.K X.w X.mg wk) W mi)) (hg : PG X tg (gOf X.K T)) (hb : PSs X body (tS X W mb))
    (hc : X.calm = true := by rfl) (hs : ∀ x, foldedSetIterable iter X.env x = pure x := by intro _; rfl) (hw : wk = false ∨ T.isOne = false := by first | exact Or.inl rfl | exact Or.inr rfl) : PS X (.For tg iter body [] pos) (tS X W (mFor mi T mb)) := (ps_for hp hc hi hg hb hs).imp fun D σ H ⟨φ, ρ, st, rs, re, h⟩ => by
  refine ⟨φ, ρ, st, rs, re, h.exp re fun φ1 s J H1 st1 e1 rs1 sim h1 => ?_⟩
  refine ⟨fun i m σ H => ∃ φ ρ st, Ext φ1 H1 φ H ∧ RS X.K X.w X.mg φ H st ∧ RE X.K φ H σ ρ ∧ SPst X.K X.w X.mg W φ H (loopF s T mb m i ρ st) D, ⟨_, φ1, ρ, st1, .refl, rs1, re.ext e1, h1⟩, ?_⟩
  rintro i m σ H ⟨φ, ρ, st, ex, rs, re, h⟩
  cases m with
  | zero => exact h.elim
  | succ m =>
    unfold loopF at h
    cases q : s.at i st with
    | none => rw [q] at h; exact h.elim
    | some o =>
      cases o with
      | none =>
        rw [q] at h
        exact .inl ⟨sim.stop i φ H st ex rs q, h φ σ H .refl rs re⟩
      | some d =>
        rw [q] at h
        simp only at h
        cases q2 : asgT T d ρ st with
        | none => rw [q2] at h; exact h.elim
        | some ρ1 =>
          rw [q2] at h
          simp only at h
          obtain ⟨g1, g2⟩ := sim.go i φ H st d ex rs q
          refine .inr ⟨g1, fun σ' H' => ∃ φ ρ st, Ext φ1 H1 φ H' ∧ RS X.K X.w X.mg φ H' st ∧ RE X.K φ H' σ' ρ ∧ SPst X.K X.w X.mg W φ H' (loopF s T mb m (i + 1) ρ st) D, fun σ' H' w => ⟨m, Nat.lt_succ_self m, w⟩, fun x H' y => ?_⟩
          obtain ⟨ex2, rs2, rv2⟩ := g2 x H' y
          refine gOf_runB hw rv2 (re.ext ex2) q2 fun xs re2 => ⟨φ, ρ1, st, rs2, re2, ?_⟩
          cases q3 : mb ρ1 st with
          | nx ρ2 st2 =>
            rw [q3] at h
            exact fun φ' σ' H' e4 rs' re' => ⟨φ', ρ2, st2, (ex.trans ex2).trans e4, rs', re', SPst.mono h (ex2.trans e4)⟩
          | ct ρ2 st2 =>
            rw [q3] at h
            exact fun φ' σ' H' e4 rs' re' => ⟨φ', ρ2, st2, (ex.trans ex2).trans e4, rs', re', SPst.mono h (ex2.trans e4)⟩
          | bk ρ2 st2 => rw [q3] at h; exact SPst.mono h ex2
          | rt a st2 => rw [q3] at h; exact SPst.mono h ex2
          | er x ρ2 st2 => rw [q3] at h; exact SPst.mono h ex2
          | bad => rw [q3] at h; exact h
def mYes : MT := fun _ st => .ok true st
def loopC (s : Src) (tg : Tg) (own : List Nat) (tt : MT) (elt : MX) (ρ0 : Env) : Nat → Nat → Store → List A → R (List A)
  | 0, _, _, _ => .bad
  | n + 1, i, st, acc => match s.at i st with
    | none => .bad
    | some none => .ok acc st
    | some (some d) => match asgT tg d ρ0 st with
      | none => .bad
      | some ρ1 => match tt ρ1 st with
        | .ok b st1 => if b = true then match elt ρ1 st1 with
            | .ok y st2 => if acc.length < sizeLine then loopC s tg own tt elt ρ0 n (i + 1) st2 (acc ++ [y]) else .bad
            | _ => .bad else loopC s tg own tt elt ρ0 n (i + 1) st1 acc
        | _ => .bad
def mLc (mi : Env → Store → R Src) (tg : Tg) (own : List Nat) (tt : MT) (elt : MX) : MX := fun ρ st => (mi ρ st).bind fun s st1 => (loopC s tg own tt elt (wipeA ρ own) (s.size st1 + 1) 0 st1 []).bind fun xs st2 => .ok (.ref st2.length) (st2 ++ [.lst xs])
abbrev W0 : WX := fun _ _ _ _ => False
theorem wipe_get {σ : L2.St} {j : Nat} : ∀ {vs : List Nat}, (wipe σ vs)[j]? = if j ∈ vs then σ[j]?.map (fun _ => none) else σ[j]?
  | [] => by simp [wipe]
  | v :: vs => by
    unfold wipe
    by_cases e : v = j
    · subst e
      rw [List.getElem?_set_self', wipe_get (vs := vs)]
      simp only [List.mem_cons, true_or, if_true]
      split <;> cases σ[v]? <;> rfl
    · rw [List.getElem?_set_ne e, wipe_get (vs := vs)]
      have : (j ∈ v :: vs) ↔ j ∈ vs := by simp [show ¬ j = v from fun z => e z.symm]
      simp only [this]
theorem setsV_get {j : Nat} : ∀ {is : List Nat} {xs : List V} {σ : L2.St}, j ∉ is → (setsV σ is xs)[j]? = σ[j]?
  | [], _, _, _ => by unfold setsV; rfl
  | _ :: _, [], _, _ => by unfold setsV; rfl
  | i :: is, x :: xs, σ, h => by
    unfold setsV
    rw [setsV_get fun z => h (List.mem_cons_of_mem _ z), List.getElem?_set_ne fun z => h (by rw [z]; exact List.mem_cons_self)]
theorem setsV_len : ∀ {is : List Nat} {xs : List V} {σ : L2.St}, (setsV σ is xs).length = σ.length
  | [], _, _ => by unfold setsV; rfl
  | _ :: _, [], _ => by unfold setsV; rfl
  | i :: is, x :: xs, σ => by
    unfold setsV
    rw [setsV_len, List.length_set]
theorem wipe_sets {σ : L2.St} {own is : List Nat} {xs : List V} (h : ∀ i ∈ is, i ∈ own) : wipe (setsV (wipe σ own) is xs) own = wipe σ own := by
  refine List.ext_getElem? fun j => ?_
  rw [wipe_get]
  by_cases c : j ∈ own
  · rw [if_pos c, wipe_get, if_pos c]
    by_cases l : j < σ.length
    · rw [List.getElem?_eq_getElem l, List.getElem?_eq_getElem (by rw [setsV_len, wipe_length]; exact l)]
      rfl
    · have e1 : σ[j]? = none := List.getElem?_eq_none (by omega)
      have e2 : (setsV (wipe σ own) is xs)[j]? = none := List.getElem?_eq_none (by rw [setsV_len, wipe_length]; omega)
      rw [e1, e2]
  · rw [if_neg c, setsV_get fun z => c (h j z)]
theorem lc_ok {wk : Bool} {mi : Env → Store → R Src} {T : Tg} {own : List Nat} {tt : MT} {me : MX} {σ : L2.St} {H : Hp} {Q : VK} (hw : wk = false ∨ T.isOne = false) (ho : ∀ i ∈ T.slots, i ∈ own) (h : tE X W (mLc mi T own tt me) σ H Q) : tLc (tG X.K X.w X.mg (SimB X.K X.w X.mg wk) W mi) (gOf X.K T) (tT X W0 tt) (tE X W0 me) own σ H Q := by
  obtain ⟨φ, ρ, st, rs, re, h⟩ := h
  refine ⟨φ, ρ, st, rs, re, h.seq fun φ1 s J H1 st1 e1 rs1 sim h1 => fun D hD => ?_⟩
  have re1 := (re.ext e1).wipe own
  have nD1 : D ∉ φ1 := rs1.notin hD
  have fin : ∀ {φ2 : List Addr} {H2 : Hp} {st2 : Store} {vs : List V} {as : List A}, Ext φ1 H1 φ2 H2 → D ∉ φ2 → H2 D = some (.lst vs) → RS X.K X.w X.mg φ2 H2 st2 → RVs X.K φ2 H2 vs as →
      Ext φ1 H1 (φ2 ++ [D]) H2 ∧ RS X.K X.w X.mg (φ2 ++ [D]) H2 (st2 ++ [.lst as]) := fun {φ2 H2 st2 vs as} ex nD hv rs2 rv => by
    have e0 : Ext φ1 H1 (φ2 ++ [D]) H2 := by
      obtain ⟨⟨t, rfl⟩, f, fz⟩ := ex
      refine ⟨⟨t ++ [D], by simp⟩, fun a o n q => ?_, fz⟩
      obtain ⟨q1, q2⟩ := f a o n q
      refine ⟨q1, fun z => ?_⟩
      rcases List.mem_append.mp z with z | z
      · exact q2 z
      · have : a = D := by simpa using z
        subst this
        rw [hD] at q
        cases q
    -- data over the longer φ
    have up : ∀ {v : V} {d : A}, RV X.K φ2 H2 v d → RV X.K (φ2 ++ [D]) H2 v d := fun {v d} r => by
      have hst : ∀ {a xs}, StT X.K φ2 H2 a xs → StT X.K (φ2 ++ [D]) H2 a xs := fun {a xs} q => by
        rcases q with ⟨q, n⟩ | q
        · refine .inl ⟨q, fun z => ?_⟩
          rcases List.mem_append.mp z with z | z
          · exact n z
          · have : a = D := by simpa using z
            subst this
            obtain ⟨o, _, q⟩ := q
            rw [hv] at q
            cases q
        · exact .inr q
      have hsl : ∀ {a xs}, StL X.K φ2 H2 a xs → StL X.K (φ2 ++ [D]) H2 a xs := fun {a xs} q => by
        rcases q with ⟨⟨o, q⟩, n⟩ | q
        · refine .inl ⟨⟨o, q⟩, fun z => ?_⟩
          rcases List.mem_append.mp z with z | z
          · exact n z
          · have : a = D := by simpa using z
            subst this
            rw [hv] at q
            cases q
        · exact .inr q
      exact RV.rec (motive_1 := fun v d _ => RV X.K (φ2 ++ [D]) H2 v d) (motive_2 := fun vs ds _ => RVs X.K (φ2 ++ [D]) H2 vs ds) .non .bl .int .str (fun q _ ih => .tup (hst q) ih) (fun q _ ih => .scr (hsl q) ih)
        (fun {a i} q => .ref (by rw [List.getElem?_append_left (List.getElem?_eq_some_iff.mp q).1]; exact q)) .nil (fun _ _ a b => .cons a b) r
    have ups : ∀ {vs : List V} {ds : List A}, RVs X.K φ2 H2 vs ds → RVs X.K (φ2 ++ [D]) H2 vs ds := fun {vs ds} r => by
      induction vs generalizing ds with
      | nil => cases r; exact .nil
      | cons v vs ih =>
        cases r with
        | cons h q => exact .cons (up h) (ih q)
    refine ⟨e0, by simp [rs2.len], ?_, fun i a o h1 h2 => ?_⟩
    · rw [List.nodup_append]
      refine ⟨rs2.nd, by simp, fun a ha b hb z => ?_⟩
      have : b = D := by simpa using hb
      subst this
      subst z
      exact nD ha
    · by_cases hi : i < φ2.length
      · rw [List.getElem?_append_left hi] at h1
        rw [List.getElem?_append_left (by rw [← rs2.len]; exact hi)] at h2
        have h3 := rs2.all i a o h1 h2
        cases o with
        | oth u => exact RO2.map (fun _ _ => up) (fun _ _ => ups) rfl (fun dx o n q nl => ⟨q, fun z => (List.mem_append.mp z).elim n fun z => by
            have z : dx = D := by simpa using z
            rw [z, hv] at q
            exact nl _ (Option.some.inj q).symm⟩) h3
        | lst ds' =>
          obtain ⟨ys, y1, y2⟩ := h3
          exact ⟨ys, y1, ups y2⟩
      · have hi2 : i = φ2.length := by
          have := (List.getElem?_eq_some_iff.mp h1).1
          rw [List.length_append, List.length_singleton] at this
          omega
        subst hi2
        rw [List.getElem?_append_right (Nat.le_refl _)] at h1
        rw [List.getElem?_append_right (by rw [rs2.len]; exact Nat.le_refl _)] at h2
        simp at h1
        rw [rs2.len] at h2
        simp at h2
        subst h1
        subst h2
        exact ⟨vs, hv, ups rv⟩
  refine ⟨fun i m H2 => ∃ φ2 st2 vs as, Ext φ1 H1 φ2 H2 ∧ D ∉ φ2 ∧ H2 D = some (.lst vs) ∧ RS X.K X.w X.mg φ2 H2 st2 ∧ RVs X.K φ2 H2 vs as ∧
    Pst X.K X.w X.mg (RV X.K) (fun c d H' => W c d σ H') φ1 H1 ((loopC s T own tt me (wipeA ρ own) m i st2 as).bind fun xs st2 => .ok (.ref st2.length) (st2 ++ [.lst xs])) Q,
    ⟨_, φ1, st1, [], [], ext_new hD, nD1, upd_same, rs1.new hD, .nil, h1⟩, ?_⟩
  rintro i m H2 ⟨φ2, st2, vs, as, ex, nD, hv, rs2, rv2, h2⟩
  cases m with
  | zero => exact h2.elim
  | succ m =>
    unfold loopC at h2
    cases q : s.at i st2 with
    | none => simp only [q] at h2; exact h2.elim
    | some o =>
      cases o with
      | none =>
        simp only [q] at h2
        obtain ⟨e0, rs3⟩ := fin ex nD hv rs2 rv2
        exact .inl ⟨sim.stop i φ2 H2 st2 ex rs2 q, h2 _ _ _ e0 rs3 (.newLst rs2)⟩
      | some d =>
        simp only [q] at h2
        cases q2 : asgT T d (wipeA ρ own) st2 with
        | none => simp only [q2] at h2; exact h2.elim
        | some ρ1 =>
          simp only [q2] at h2
          obtain ⟨g1, g2⟩ := sim.go i φ2 H2 st2 d ex rs2 q
          refine .inr ⟨g1, fun H' => ∃ φ2 st2 vs as, Ext φ1 H1 φ2 H' ∧ D ∉ φ2 ∧ H' D = some (.lst vs) ∧ RS X.K X.w X.mg φ2 H' st2 ∧ RVs X.K φ2 H' vs as ∧
            Pst X.K X.w X.mg (RV X.K) (fun c d H' => W c d σ H') φ1 H1 ((loopC s T own tt me (wipeA ρ own) m (i + 1) st2 as).bind fun xs st2 => .ok (.ref st2.length) (st2 ++ [.lst xs])) Q, fun H' w => ⟨m, Nat.lt_succ_self m, w⟩, fun x H' y => ?_⟩
          obtain ⟨ex2, rs3, rv3⟩ := g2 x H' y
          obtain ⟨hv', nD'⟩ := ex2.fr D _ nD hv
          refine gOf_runB hw rv3 ((re1.ext ex).ext ex2) q2 fun xs re2 => ⟨wipe_sets ho, φ2, ρ1, st2, rs3, re2, ?_⟩
          cases q3 : tt ρ1 st2 with
          | bad => simp only [q3] at h2; exact h2.elim
          | er z st3 => simp only [q3] at h2; exact h2.elim
          | ok b st3 =>
            simp only [q3] at h2
            intro φ3 b' H3 ex3 rs4 eb
            subst eb
            obtain ⟨hv3, nD3⟩ := ex3.fr D _ nD' hv'
            have exs := (ex.trans ex2).trans ex3
            cases b' with
            | false =>
              simp only [Bool.false_eq_true, if_false] at h2
              exact iteF ⟨φ3, st3, vs, as, exs, nD3, hv3, rs4, (rv2.ext ex2).ext ex3, h2⟩
            | true =>
              simp only [if_true] at h2
              refine iteT ⟨φ3, ρ1, st3, rs4, re2.ext ex3, ?_⟩
              cases q4 : me ρ1 st3 with
              | bad => simp only [q4] at h2; exact h2.elim
              | er z st4 => simp only [q4] at h2; exact h2.elim
              | ok d4 st4 =>
                simp only [q4] at h2
                intro φ4 v4 H4 ex4 rs5 rv4
                obtain ⟨hv4, nD4⟩ := ex4.fr D _ nD3 hv3
                by_cases hz : as.length < sizeLine
                · rw [if_pos hz] at h2
                  have e5 : Ext φ4 H4 φ4 (upd H4 D (.lst (vs ++ [v4]))) → True := fun _ => trivial
                  have e6 : Ext φ1 H1 φ4 (upd H4 D (.lst (vs ++ [v4]))) := ⟨(exs.trans ex4).pre, fun a o n q => by
                    obtain ⟨y1, y2⟩ := (exs.trans ex4).fr a o n q
                    exact ⟨by rw [upd_ne (ne_of_none q hD)]; exact y1, y2⟩, fun a o u q => by rw [upd_ne (ne_of_none q hD)]; exact (exs.trans ex4).fz _ _ _ q⟩
                  -- data of H4 over the heap where D has grown
                  have hst : ∀ {a ys}, StT X.K φ4 H4 a ys → StT X.K φ4 (upd H4 D (.lst (vs ++ [v4]))) a ys := fun {a ys} q => by
                    rcases q with ⟨q, n⟩ | q
                    · obtain ⟨o, hd, q⟩ := q
                      have na : a ≠ D := fun z => by
                        subst z
                        rw [hv4] at q
                        cases q
                      exact .inl ⟨⟨o, hd, by rw [upd_ne na]; exact q⟩, n⟩
                    · exact .inr q
                  have hsl : ∀ {a ys}, StL X.K φ4 H4 a ys → StL X.K φ4 (upd H4 D (.lst (vs ++ [v4]))) a ys := fun {a ys} q => by
                    rcases q with ⟨⟨o, q⟩, n⟩ | q
                    · have na : a ≠ D := fun z => by
                        subst z
                        rw [hv4] at q
                        cases q
                      exact .inl ⟨⟨o, by rw [upd_ne na]; exact q⟩, n⟩
                    · exact .inr q
                  have up : ∀ {v : V} {d : A}, RV X.K φ4 H4 v d → RV X.K φ4 (upd H4 D (.lst (vs ++ [v4]))) v d := fun {v d} r =>
                    RV.rec (motive_1 := fun v d _ => RV X.K φ4 (upd H4 D (.lst (vs ++ [v4]))) v d) (motive_2 := fun vs' ds _ => RVs X.K φ4 (upd H4 D (.lst (vs ++ [v4]))) vs' ds) .non .bl .int .str (fun q _ ih => .tup (hst q) ih) (fun q _ ih => .scr (hsl q) ih)
                      (fun q => .ref q) .nil (fun _ _ a b => .cons a b) r
                  have ups : ∀ {ws : List V} {ds : List A}, RVs X.K φ4 H4 ws ds → RVs X.K φ4 (upd H4 D (.lst (vs ++ [v4]))) ws ds := fun {ws ds} r => by
                    induction ws generalizing ds with
                    | nil => cases r; exact .nil
                    | cons v ws ih =>
                      cases r with
                      | cons h q => exact .cons (up h) (ih q)
                  have rs6 : RS X.K X.w X.mg φ4 (upd H4 D (.lst (vs ++ [v4]))) st4 := ⟨rs5.len, rs5.nd, fun j a o k1 k2 => by
                    have k3 := rs5.all j a o k1 k2
                    have na : a ≠ D := fun z => nD4 (z ▸ List.mem_of_getElem? k1)
                    cases o with
                    | oth u => exact RO2.map (fun _ _ => up) (fun _ _ => ups) (upd_ne na) (fun dx o n q nl => ⟨by
                        rw [upd_ne (fun z => by rw [z, hv4] at q; exact nl _ (Option.some.inj q).symm)]
                        exact q, n⟩) k3
                    | lst ds' =>
                      obtain ⟨ys, y1, y2⟩ := k3
                      exact ⟨ys, by rw [upd_ne na]; exact y1, ups y2⟩⟩
                  exact ⟨vs, hv4, by rw [rv2.length]; exact hz, φ4, st4, _, as ++ [d4], e6, nD4, upd_same, rs6, ups ((((rv2.ext ex2).ext ex3).ext ex4).app (.cons rv4 .nil)), h2⟩
                · rw [if_neg hz] at h2
                  exact h2.elim
theorem mts_nil {X : Cx} : PTs X [] (tT X W0 mYes) := ⟨fun pins s σ H Q I ⟨φ, ρ, st, rs, re, h⟩ => pts_nil.run pins s σ H Q I (h.ok rs rfl)⟩
theorem mts_one {X : Cx} {c : Expr} {t : MT} (h : PT X c (tT X W0 t)) : PTs X [c] (tT X W0 t) := pts_one h
theorem me_lc {elt iter : Expr} {ifs : List Expr} {scope : Scope} (own : List (Str × Nat)) {wk : Bool} {mi : Env → Store → R Src} {T : Tg} {tt : MT} {me : MX} (hN : X.N.Nodup) (hi : PI X tg iter (tG X.K X.w X.mg (SimB X.K X.w X.mg wk) W mi)) (ok : BlkOk X.N X.env.scope scope own)
    (hg : ∀ (s : Shared) (H : Hp) (C : Addr) (cl : List (Str × Addr)) (fp : List Addr), PG (X.blk s H scope (compEnvC scope cl C X.env) fp) tg (gOf X.K T)) (ht : ∀ (s : Shared) (H : Hp) (C : Addr) (cl : List (Str × Addr)) (fp : List Addr), PTs (X.blk s H scope (compEnvC scope cl C X.env) fp) ifs (tT (X.blk s H scope (compEnvC scope cl C X.env) fp) W0 tt))
    (he : ∀ (s : Shared) (H : Hp) (C : Addr) (cl : List (Str × Addr)) (fp : List Addr), PE (X.blk s H scope (compEnvC scope cl C X.env) fp) elt (tE (X.blk s H scope (compEnvC scope cl C X.env) fp) W0 me)) (hc : X.calm = true := by rfl) (hs : ∀ x, foldedSetIterable iter X.env x = pure x := by intro _; rfl)
    (ho : ∀ i ∈ T.slots, i ∈ own.map (·.2) := by decide) (hw : wk = false ∨ T.isOne = false := by first | exact Or.inl rfl | exact Or.inr rfl) : PE X (.ListComp elt [⟨tg, iter, ifs, 0⟩] scope pos) (tE X W (mLc mi T (own.map (·.2)) tt me)) :=
  (pe_lc hc hN hi ok hg ht he hs).imp fun _ _ _ h => lc_ok hw ho h
theorem ms_setLc {i : Nat} {y : Str} {py : Pos} {spos : Pos} {elt iter : Expr} {ifs : List Expr} {scope : Scope} (own : List (Str × Nat)) {wk : Bool} {mi : Env → Store → R Src} {T : Tg} {tt : MT} {me : MX} (hN : X.N.Nodup) (hsw : swapsWith (.ListComp elt [⟨tg, iter, ifs, 0⟩] scope pos) (some (.Name y py)) spos.line X.env = pure true) (hi : PI X tg iter (tG X.K X.w X.mg (SimB X.K X.w X.mg wk) W mi)) (ok : BlkOk X.N X.env.scope scope own)
    (hg : ∀ (s : Shared) (H : Hp) (C : Addr) (cl : List (Str × Addr)) (fp : List Addr), PG (X.blk s H scope (compEnvC scope cl C X.env) fp) tg (gOf X.K T)) (ht : ∀ (s : Shared) (H : Hp) (C : Addr) (cl : List (Str × Addr)) (fp : List Addr), PTs (X.blk s H scope (compEnvC scope cl C X.env) fp) ifs (tT (X.blk s H scope (compEnvC scope cl C X.env) fp) W0 tt))
    (he : ∀ (s : Shared) (H : Hp) (C : Addr) (cl : List (Str × Addr)) (fp : List Addr), PE (X.blk s H scope (compEnvC scope cl C X.env) fp) elt (tE (X.blk s H scope (compEnvC scope cl C X.env) fp) W0 me)) (hy : X.N[i]? = some y := by rfl) (hyl : X.env.scope.names.lookup y = some .local := by rfl) (hc : X.calm = true := by rfl) (hs : ∀ x, foldedSetIterable iter X.env x = pure x := by intro _; rfl)
    (ho : ∀ i ∈ T.slots, i ∈ own.map (·.2) := by decide) (hw : wk = false ∨ T.isOne = false := by first | exact Or.inl rfl | exact Or.inr rfl) : PS X (.Assign [.Name y py] (.ListComp elt [⟨tg, iter, ifs, 0⟩] scope pos) spos) (tS X W (mSet i (mLc mi T (own.map (·.2)) tt me))) := by
  refine (ps_setLc (te := tE X W0 me) (tt := tT X W0 tt) hc hN hy hyl hsw hi ok hg ht he hs).imp fun D σ H h => ?_
  have h2 := set_ok h
  exact lc_ok hw ho h2
end
def mFn (N np : Nat) (body : MS) : MF := fun as st => if as.length = np then match body (as.map some ++ List.replicate (N - np) none) st with
  | .nx _ st' => .ok .non st'
  | .rt a st' => .ok a st'
  | .er e _ st' => .er e st'
  | _ => .bad else .bad
section
variable {P : Program} {w : World} {K : PySem.W.Frag} {mg : Str → Option Value} {base : Heap}
theorem RE.start {φ : List Addr} {H : Hp} {vs : List V} {as : List A} (q : RVs K φ H vs as) (n : Nat) : RE K φ H (vs.map some ++ List.replicate n none) (as.map some ++ List.replicate n none) := ⟨by simp [q.length], fun i d h => by
  by_cases hi : i < as.length
  · rw [List.getElem?_append_left (by simpa using hi), List.getElem?_map] at h
    cases e : as[i]? with
    | none => rw [e] at h; cases h
    | some d' =>
      rw [e] at h
      cases h
      obtain ⟨v, h1, h2⟩ := q.get e
      exact ⟨v, by rw [List.getElem?_append_left (by simp [q.length, hi]), List.getElem?_map, h1]; rfl, h2⟩
  · rw [List.getElem?_append_right (by simpa using Nat.le_of_not_lt hi), List.getElem?_replicate] at h
    split at h <;> cases h⟩
theorem fn_ok {x qual : Str} {st : Stmt} {f : Addr} {fd : FuncData} {N ps : List Str} {k : Nat} {body : MS} (F : Fun K x qual st f fd) (S : FnScope N ps (defScope st))
    (hb : ∀ (cdv : Value) (A : Around) (outer : List PySem.Env) (s : Shared) (H : Hp) (E : XK), Room k (A.deeper (PyProof.Rows.envOfC qual (defScope st) s.heap.objs.size f cdv)) →
      PSs (cxOf (L2.CX P w) P w K mg base N qual (defScope st) f cdv A outer s H E) (defBody st) (tS (cxOf (L2.CX P w) P w K mg base N qual (defScope st) f cdv A outer s H E) (fun c d _ H' => E c d H') body)) :
    FnOk P w K mg base (L2.CX P w) (k + 1) f fd ps (spM K w mg (mFn N.length ps.length body)) := by
  have len : ∀ vs H Q E, spM K w mg (mFn N.length ps.length body) vs H Q E → vs.length = ps.length := fun vs H Q E ⟨φ, as, st, rs, rv, h⟩ => by
    unfold mFn at h
    split at h
    · rename_i hl
      rw [rv.length]
      exact hl
    · exact h.elim
  refine F.okX S len fun cdv A outer s H vs Q E hr h => ⟨_, hb cdv A outer s H E hr, ?_⟩
  obtain ⟨φ, as, st, rs, rv, h⟩ := h
  unfold mFn at h
  split at h
  · rename_i hl
    have hl2 : vs.length = ps.length := by rw [rv.length]; exact hl
    refine ⟨φ, as.map some ++ List.replicate (N.length - ps.length) none, st, rs, ?_, ?_⟩
    · unfold L2.start
      rw [hl2]
      exact RE.start rv _
    · cases e : body (as.map some ++ List.replicate (N.length - ps.length) none) st with
      | nx ρ st' => rw [e] at h; exact fun φ' σ' H' ex rs' re' => h φ' .non H' ex rs' .non
      | rt a st' => rw [e] at h; exact fun φ' v H' ex rs' rv' => h φ' v H' ex rs' rv'
      | er x ρ st' => rw [e] at h; exact fun φ' c d σ' H' ex rs' re' rx => h φ' c d H' ex rs' rx
      | bk ρ st' => rw [e] at h; exact h.elim
      | ct ρ st' => rw [e] at h; exact h.elim
      | bad => rw [e] at h; exact h.elim
  · exact h.elim
structure GF (K : PySem.W.Frag) (mg : Str → Option Value) (x : Str) (st : Stmt) (ps : List Str) : Prop where
  ex : ∃ (f : Addr) (fd : FuncData), mg x = some (.ref f) ∧ Fun K x x st f fd ∧ Binds K fd ps []
theorem cal_of {x : Str} {st : Stmt} {N ps : List Str} {k : Nat} {body : MS} (G : GF K mg x st ps) (S : FnScope N ps (defScope st))
    (hb : ∀ (f : Addr) (cdv : Value) (A : Around) (outer : List PySem.Env) (s : Shared) (H : Hp) (E : XK), Room k (A.deeper (PyProof.Rows.envOfC x (defScope st) s.heap.objs.size f cdv)) →
      PSs (cxOf (L2.CX P w) P w K mg base N x (defScope st) f cdv A outer s H E) (defBody st) (tS (cxOf (L2.CX P w) P w K mg base N x (defScope st) f cdv A outer s H E) (fun c d _ H' => E c d H') body)) :
    Cal P w K mg base x (k + 1) (mFn N.length ps.length body) := by
  obtain ⟨f, fd, h1, F, b⟩ := G.ex
  exact ⟨f, fd, ps, h1, F.kp, b, fn_ok F S (hb f)⟩
theorem Cal.mono {x : Str} {k j : Nat} {m : MF} (C : Cal P w K mg base x j m) (h : j ≤ k) : Cal P w K mg base x k m := by
  obtain ⟨f, fd, ps, h1, h2, h3, F⟩ := C.ex
  exact ⟨f, fd, ps, h1, h2, h3, F.mono h⟩
theorem takesE {N : List Str} {qual : Str} {sc : Scope} {f : Addr} {cdv : Value} {A : Around} {outer : List PySem.Env} {s : Shared} {H : Hp} {E : XK} : Takes (cxOf (L2.CX P w) P w K mg base N qual sc f cdv A outer s H E) (fun c d _ H' => E c d H') := takes_of rfl rfl rfl rfl
theorem passesE {N : List Str} {qual : Str} {sc : Scope} {f : Addr} {cdv : Value} {A : Around} {outer : List PySem.Env} {s : Shared} {H : Hp} {E : XK} : PassesOwn (model P w) (A.deeper (PyProof.Rows.envOfC qual sc s.heap.objs.size f cdv)) (PyProof.Rows.envOfC qual sc s.heap.objs.size f cdv) (cxOf (L2.CX P w) P w K mg base N qual sc f cdv A outer s H E).xe := passes_of (X := cxOf (L2.CX P w) P w K mg base N qual sc f cdv A outer s H E) rfl
end
end ML
namespace ML
open PySem PySem.Spec L2
theorem units_ok {k : Nat} {A : Around} (hr : Room k A) : A.units + 64 < cLine := hr.units
section
variable {P : Program} {w : World} {K : PySem.W.Frag} {mg : Str → Option Value} {base : Heap}
theorem cal_bad {x : Str} {st : Stmt} {ps : List Str} {k : Nat} (G : GF K mg x st ps) : Cal P w K mg base x k (fun _ _ => .bad) := by
  obtain ⟨f, fd, h1, F, b⟩ := G.ex
  exact ⟨f, fd, ps, h1, F.kp, b, fun vs H Q E ⟨_, _, _, _, _, h⟩ => h.elim, fun A outer s H args us vs Q E hr e0 hb hv ⟨_, _, _, _, _, h⟩ => h.elim⟩
theorem Cal.cast {x : Str} {j k : Nat} {m : MF} (e : j = k) (C : Cal P w K mg base x j m) : Cal P w K mg base x k m := e ▸ C
def spLaw (K : PySem.W.Frag) : Sp := fun vs H Q _ => ∃ (a : Addr) (ns : List Int), vs = [.ref a] ∧ SqL K H a (ns.map V.int) ∧ Only H ∧ ns.length ≤ 63 ∧ (∀ z ∈ ns, Builtin.Int.intBits z ≤ 1048576) ∧ ∀ H', Q (.bl true) H'
def LawTrue (m : MF) : Prop := ∀ ns : List Int, ns.length ≤ 63 → (∀ z ∈ ns, Builtin.Int.intBits z ≤ 1048576) → ∃ st, m [.scr (ns.map A.int)] [] = .ok (.bl true) st
theorem law_imp {m : MF} (hm : LawTrue m) (vs : List V) (H : Hp) (Q : VK) (E : XK) (h : spLaw K vs H Q E) : spM K w mg m vs H Q E := by
  obtain ⟨a, ns, rfl, hs, ho, hl, hb, hq⟩ := h
  obtain ⟨st, he⟩ := hm ns hl hb
  have hq' : StL K [] H a (ns.map V.int) := by
    rcases hs with (h | ⟨o, h⟩) | h
    · rcases ho a with z | ⟨o, xs, z⟩
      · rw [z] at h; cases h
      · rw [z] at h; cases h
    · exact .inl ⟨⟨o, h⟩, by simp⟩
    · exact .inr h
  refine ⟨[], [.scr (ns.map A.int)], [], ⟨rfl, List.nodup_nil, fun i a o h => by simp at h⟩, .cons (.scr hq' (RVs.mkInts ns)) .nil, ?_⟩
  rw [he]
  intro φ' v H' _ _ r
  cases r
  exact hq H'
theorem law_end {l : PySem.W.OpenLaw} {k : Nat} {q : Program} {loose : List Str} {XP : (Str → Option Value) → Heap → Prop} {YP : World → Heap → Prop} {d : DefRec} {K : Params → PySem.W.Frag} {x : Str} {m : MF}
    (hn : l.most = some 63) (hdf : d.params.defaults = []) (hr : Room k callerA)
    (hY : ∀ (w : World) (h : Heap), YP w h → (K w.params).In h) (hm : LawTrue m)
    (F : ∀ (w : World) (mg : Str → Option Value) (fa : Addr) (h : Heap), (K w.params).In h → h.Ns mainGlobals mg → mg d.name = some (.ref fa) →
      ∃ fd : FuncData, (∀ (s : Shared) (u : Value), BindsTo s fd ⟨[u], []⟩ [(x, u)]) ∧ ∀ base : Heap, (K w.params).In base → base.Ns mainGlobals mg → FnOk l.prog w (K w.params) mg base (L2.CX l.prog w) k fa fd [x] (spM (K w.params) w mg m)) :
    PySem.W.WalkO q loose XP YP l.row.toRowW d [] (fun f vs => PySem.call f vs) :=
  L2.walk_ofB (n := 63) (k := k) (x := x) (CX := fun w => L2.CX l.prog w) (sp := fun w => spLaw (K w.params)) hn (by decide) hdf hr hY
    (fun w mg fa h KX G hmg => by
      obtain ⟨fd, hb, hF⟩ := F w mg fa h KX G hmg
      exact ⟨fd, hb, fun base k1 k2 => (hF base k1 k2).imp (law_imp hm)⟩)
    (fun w H a ns hl hb ho hs => ⟨a, ns, rfl, hs, ho, hl, hb, fun _ => rfl⟩)
    (fun w H s e s' h => by obtain ⟨_, _, _, _, _, _, _, _, _, _, _, _, z⟩ := h; exact z)
end
end ML
namespace PySem
namespace SupX
open PySem.W PySem.Calls PyProof.Rows PySem.HandSPX
def iA (f : Str) (p1 p2 : Pos) : Arguments := { posonlyargs := [], args := [{ arg := "self", annotation := none, pos := p1 }, { arg := f, annotation := none, pos := p2 }], vararg := none, kwonlyargs := [], kw_defaults := [], kwarg := none, defaults := [] }
def iB (f msg : Str) (q0 q1 q2 q3 q4 q5 q6 q7 q8 q9 : Pos) : List Stmt := [.Expr (.Call (.Attribute (.Call (.Name "super" q0) [] [] q1) "__init__" q2) [.Constant (.str msg) 0 q3] [] q4) q5, .Assign [.Attribute (.Name "self" q6) f q7] (.Name f q8) q9]
def iS (f : Str) : Scope := { kind := .function, names := [(PySem.Str.ofString "self", .local), (f, .local), (PySem.Str.ofString "__class__", .free), (PySem.Str.ofString "super", .globalImplicit)], isGenerator := false, isCoroutine := false, more := [] }
abbrev FldOk (f : Str) : Prop := f = "place" ∨ f = "count"
structure SupTxt (prog : Program) (K : Frag) (mg : Str → Option Value) (x f msg : Str) (C fI : Addr) : Prop where
  fok : FldOk f
  gC : mg x = some (.ref C)
  cls : ∃ nm q N bs bm sn sub ab col dd k0 k1 k2 k3 k5, K.lookup C = some (excClassObj nm q C N bs bm true sn sub ab col dd k0 k1 k2 k3 k5 "ValueError.__new__") ∧ refsVE bm = true
  sa : findIn K (.ref C) "__setattr__" = some (some (.builtin "object.__setattr__"))
  ga : findIn K (.ref C) "__getattribute__" = some (some (.builtin "BaseException.__getattribute__"))
  gg : findIn K (.ref C) "__getattr__" = some none
  noN : findIn K (.ref C) f = some none
  iC : findIn K (.ref C) "__init__" = some (some (.ref fI))
  tC : typeIn K (.ref fI) = some (.type "function")
  kC : keepIn K (.ref C) = true
  exC : subIn K (.ref C) (.type "BaseException") = some true
  tyC : typeIn K (.ref C) = some (.type "type")
  hdC : hasDictIn K C = true
  sup : ks_superIn K C C "__init__" = some (some (.builtin "ValueError.__init__"))
  veC : subIn K (.ref C) (.type "ValueError") = some true
  slf : mroIn K C (.ref C) = some true
  third : nsIn K cStatics "thirdparty.any" = some none
  nosup : mg "super" = none
  top : (prog.main.scope.names.lookup ("super" : Str)).isSome = false
  fn : ∃ (oc : Value) (od : Option Addr) (doc pm ct : Value) (an : Option Addr) (cda cc : Addr) (osl : Array (Option Value)) (q : Str) (p1 p2 q0 q1 q2 q3 q4 q5 q6 q7 q8 q9 : Pos),
    K.lookup fI = some ⟨oc, od, .func (ksFn "__init__" q (iA f p1 p2) (iB f msg q0 q1 q2 q3 q4 q5 q6 q7 q8 q9) (iS f) .none .none doc pm an (.ref cda) ct cc), osl⟩ ∧ codeIn K (.ref cda) q = true ∧
    (∀ env : Env, ∃ pl : Sem Bool, eval (.Call (.Attribute (.Call (.Name "super" q0) [] [] q1) "__init__" q2) [.Constant (.str msg) 0 q3] [] q4) env = (do
      let ov ← attributeBase (.Call (.Name "super" q0) [] [] q1) "__init__" env (eval (.Call (.Name "super" q0) [] [] q1) env)
      standAt q2.atName
      let (g, first) ← holding [ov] (getMethod ov "__init__" pl)
      callWith q4 g first (backTo q4 (starEach [.Constant (.str msg) 0 q3] env)) [])) ∧
    (∃ cl cld csl, K.lookup cc = some ⟨cl, cld, .cell (some (.ref C)), csl⟩) ∧
    ∃ ccl cdd vs ccs file tf, K.lookup cda = some ⟨ccl, cdd, .fields vs, ccs⟩ ∧ vs[2]? = some (.str file tf) ∧ ((prog.main.file : Str) == file) = true
theorem one_size (v : Value) : [v].length ≤ sizeLine := by
  rw [sizeLine_eq]
  exact (by decide : 1 ≤ 16777216)
structure InitEnd (f : Str) (h h' : Heap) (x C dx t1 : Addr) (v : Value) : Prop where
  keep : ∀ b o, b ≠ x → h.get? b = some o → h'.get? b = some o
  obj : h'.get? x = some { cls := .ref C, dict := some dx, data := .fields #[.ref t1, .none, .none, .none, .bool false, .none] }
  dbig : h.objs.size ≤ dx
  dne : dx ≠ x
  ns : h'.Ns1 dx (fun y => if y = f then some v else none)
structure OwnMade (f : Str) (h h' : Heap) (e C d : Addr) (v : Value) : Prop where
  keep : ∀ b o, h.get? b = some o → h'.get? b = some o
  new : h.objs.size ≤ e
  obj : ∃ oe vs, h'.get? e = some oe ∧ oe.cls = .ref C ∧ oe.dict = some d ∧ oe.data = .fields vs ∧ vs[1]? = some .none
  dbig : h.objs.size ≤ d
  dne : d ≠ e
  ns : h'.Ns1 d (fun y => if y = f then some v else none)
section
variable {prog : Program} {w : World} {A : Around} {E : Value → Shared → Prop} {R : Result → Shared → Prop} {s : Shared} {K : Frag} {mg : Str → Option Value} {x : Str} {f msg : Str} {C fI : Addr}
theorem call_mw {h : Heap} {g : Array GenState} {d : Drawn} {t : Nat} {os : OsState} {nm q : Str} {N : Addr} {bs bm : List Value} {hdct : Bool} {sn : List Str} {sub : List Value} {ab : Bool} {col : Option Bool} {dd : Option Addr} {k0 k1 k2 k3 k5 : Option Value} {u e t0 : Addr} {rest : List Value} {Q : Value → Shared → Prop}
    (hC : h.get? C = some (excClassObj nm q C N bs bm hdct sn sub ab col dd k0 k1 k2 k3 k5 "ValueError.__new__")) (he : h.get? e = some (HandSPX.excO C t0)) (hu : h.get? u = some (kxs_mw "ValueError.__init__" e)) (hrest : rest.length ≤ sizeLine)
    (hq : ∀ h' t1, (∀ b o, b ≠ e → h.get? b = some o → h'.get? b = some o) → h'.get? e = some (HandSPX.excO C t1) → Q .none ⟨h', g, d, t, os⟩) :
    wpAny (model prog w) A (call (.ref u) rest) Q E ⟨h, g, d, t, os⟩ := by
  refine wpAny_call (codeAny_of_tree ?_)
  show wpAny _ A.in1 (callAny (.ref u) ⟨rest, []⟩) _ _ _
  simp only [callAny]
  refine wpAny_bind (wpAny_load hu ?_)
  simp only [kxs_mw, show (Value.type "method-wrapper" == Value.type "method" || Value.type "method-wrapper" == Value.type "builtin_function_or_method" || Value.type "method-wrapper" == Value.type "method-wrapper") = true by decide, if_true]
  refine KFB.if_so (by decide) ?_
  refine wpAny_bind (check_bound_init F.excBase_ValueError.toExcCallFacts hC he rfl ?_)
  refine wpAny_bind (wpAny_pure (wpAny_pure ?_))
  refine ⟨plainId_quiet F.excBase_ValueError.init.plain _, codeAny_builtin F.excBase_ValueError.initEntry ?_⟩
  wp_walk
  refine hq _ h.objs.size (fun b o hb ho => ?_) ?_
  · rw [Heap.get?_update_other _ _ (Ne.symm hb)]
    exact Heap.get?_push_of_some _ ho
  · rw [Heap.get?_update_self _ (Heap.get?_push_of_some _ he) rfl]
    rfl
theorem sup_initG (T : SupTxt prog K mg x f msg C fI) {e t0 : Addr} {v : Value} (X : K.In s.heap) (G : s.heap.Ns mainGlobals mg) (B : ∃ mb, s.heap.Ns builtinsNs mb ∧ mb "super" = some (.type "super")) (hlim : s.heap.NoLimit) (hx : s.heap.get? e = some (excO C t0)) (hnx : K.lookup e = none) (hroom : A.depth < recursionLimit)
    (hl1 : (iS f).names.lookup ("super" : Str) = some .globalImplicit) (hl2 : (iS f).names.lookup ("__class__" : Str) = some .free) (hl3 : (iS f).names.lookup ("self" : Str) = some .local) (hl4 : (iS f).names.lookup f = some .local) (hl5 : ∀ y ∈ (iS f).names, y.2 ≠ .cell) (hb1 : ([((f : Str), v), (("self" : Str), Value.ref e)] : List (Str × Value)).lookup ("self" : Str) = some (.ref e)) (hb2 : ([((f : Str), v), (("self" : Str), Value.ref e)] : List (Str × Value)).lookup f = some v) (hdb : (f == ("__debug__" : Str)) = false)
    (hbt : ∀ (q : Str) (body : List Stmt) (doc pm ct : Value) (an : Option Addr) (cda cc : Addr) (p1 p2 : Pos), BindsTo s (ksFn "__init__" q (iA f p1 p2) body (iS f) .none .none doc pm an (.ref cda) ct cc) ⟨[.ref e, v], []⟩ [("self", .ref e), (f, v)])
    (hq : ∀ h' tk dx t1, InitEnd f s.heap h' e C dx t1 v → R (.ok (.ret .none)) { s with heap := h', toks := tk }) :
    codeAny (model prog w) A (.call (.ref fI) ⟨[.ref e, v], []⟩) R s := by
  obtain ⟨oc, od, doc, pm, ct, an, cda, cc, osl, q, p1, p2, q0, q1, q2, q3, q4, q5, q6, q7, q8, q9, ho, hcd, hev, ⟨cl, cld, csl, hcell⟩, ccl, cdd, vs, ccs, file, tf, hcode, hvs, hfile⟩ := T.fn
  obtain ⟨nm, qn, N, bs, bm, sn, sub, ab, col, dd, k0, k1, k2, k3, k5, hC, hbm⟩ := T.cls
  have hcl : clsIn K C = some { name := nm, bases := bs, mro := .ref C :: bm, ns := N, qualname := qn, hasDict := true, slotNames := sn, subclasses := sub, abstract := ab, collection := col, hasDel := false } := by unfold clsIn; rw [hC] <;> rfl
  obtain ⟨mb, hB, hBs⟩ := B
  have hsuper : alongIn K "__init__" ((((Value.ref C :: bm : List Value)).dropWhile (· != .ref C)).drop 1) = some (some (.builtin "ValueError.__init__")) := by
    have := T.sup
    unfold ks_superIn at this
    rw [hcl] at this
    exact this
  refine ks_codeAny_call_defAt (fd := ksFn "__init__" q (iA f p1 p2) (iB f msg q0 q1 q2 q3 q4 q5 q6 q7 q8 q9) (iS f) .none .none doc pm an (.ref cda) ct cc) (body := iB f msg q0 q1 q2 q3 q4 q5 q6 q7 q8 q9) (binds := [("self", .ref e), (f, v)]) hroom (X _ _ ho) rfl hlim (codeRec_of X hcd) rfl (hbt _ _ _ _ _ _ _ _ p1 p2) hl5 (fun y hy => by
      rcases List.mem_cons.mp hy with rfl | hy
      · exact hl3
      · rcases List.mem_cons.mp hy with rfl | hy
        · exact hl4
        · cases hy) (fun h₁ hns k => ?_)
  have hxL : s.heap.objs.size ≠ e := Nat.ne_of_gt (Heap.lt_size hx)
  have X₁ : K.In h₁ := X.keeps k
  have hx₁ := k _ _ hx
  have hns' : h₁.Ns s.heap.objs.size (fun y => ([((f : Str), v), (("self" : Str), Value.ref e)] : List (Str × Value)).lookup y) := hns
  change PySem.wpAt (model prog w) _ (.func (iB f msg q0 q1 q2 q3 q4 q5 q6 q7 q8 q9) (ksEnv q (iS f) s.heap.objs.size fI (.ref cda) cc)) (execs (iB f msg q0 q1 q2 q3 q4 q5 q6 q7 q8 q9) (ksEnv q (iS f) s.heap.objs.size fI (.ref cda) cc)) _ _ _
  obtain ⟨pl, hev⟩ := hev (ksEnv q (iS f) s.heap.objs.size fI (.ref cda) cc)
  refine ks_wpAt_execs_cons (ks_wpAt_Expr_any (ks_wpAt_MethodCall (pl := pl) ?_ hev))
  refine ks_wpAt_super_base (env := ksEnv q (iS f) s.heap.objs.size fI (.ref cda) cc) hl1 hl2 rfl rfl (X₁ _ _ ho) rfl rfl rfl (X₁ _ _ hcode) rfl hvs hfile T.top ?_
  refine ks_loadName_global rfl hl1 (loadGlobal_builtin (env := ksEnv q (iS f) s.heap.objs.size fI (.ref cda) cc) (G.keeps k) T.nosup (hB.keeps k) hBs ⟨rfl, ?_⟩)
  refine wpAny_loadName_free rfl hl2 rfl ⟨_, X₁ _ _ hcell, rfl⟩ ?_
  refine wpAny_loadName_local rfl hl3 hns' hb1 ?_
  obtain ⟨oD, hD1, hD2⟩ : ∃ oD, h₁.get? C = some oD ∧ oD.data = .cls { name := nm, bases := bs, mro := .ref C :: bm, ns := N, qualname := qn, hasDict := true, slotNames := sn, subclasses := sub, abstract := ab, collection := col, hasDel := false } := ⟨_, X₁ _ _ hC, rfl⟩
  refine ks_wpAny_isType_cls hD1 hD2 ⟨rfl, ?_⟩
  refine ks_wpAny_call_super hD1 hD2 hx₁ rfl (fun c z => by cases z) (looks_mroIn X₁ T.slf) (fun h₂ e₂ k₂ => ?_)
  have X₂ : K.In h₂ := X₁.keeps k₂
  have hx₂ := k₂ _ _ hx₁
  have I : InstAt h₂ e (excO C t0) C none := ⟨hx₂, rfl, rfl, trivial⟩
  have hI : Looks (model prog w) h₂ (isInstance (.ref e) (.type "ValueError")) true := I.type.andThen (looks_subIn X₂ T.veC)
  refine kxs_getMethod kxs_ValueError e₂ (looks_opaque X₂ T.third) (l₀ := .ref C :: bm) (fun A Q E s k q => wpAny_bind ((looks_clsIn X₂ hcl) A _ E s k (wpAny_pure q))) rfl X₂ hsuper hI (ks_ne X₂ I hcl) rfl ?_
  refine kxs_callWith (i := "ValueError.__init__") (x := e) rfl ?_
  refine evalArgs_plain (x := eval (.Constant (.str msg) 0 q3) (ksEnv q (iS f) s.heap.objs.size fI (.ref cda) cc)) (rest := []) ?_
  refine Calls.spliced_cons (Calls.Constant_str ?_)
  refine Calls.spliced_nil ?_
  have hp2 : ∀ b o, h₂.get? b = some o → (h₂.push (kxs_mw "ValueError.__init__" e)).get? b = some o := fun b o z => Heap.get?_push_of_some _ z
  have hu : (h₂.push (kxs_mw "ValueError.__init__" e)).get? h₂.objs.size = some (kxs_mw "ValueError.__init__" e) := Heap.get?_push_at rfl rfl
  refine ⟨hu, ?_⟩
  refine call_mw (hp2 _ _ (X₂ _ _ hC)) (hp2 _ _ hx₂) hu (one_size _) (fun h₃ t1 k₃ hx₃ => ?_)
  have kk : ∀ b o, b ≠ e → h₁.get? b = some o → h₃.get? b = some o := fun b o z hb => k₃ b o z (hp2 b o (k₂ b o hb))
  have X₃ : K.In h₃ := fun a o z => kk a o (fun y => by rw [y, hnx] at z; cases z) (X₁ a o z)
  have hns₃ : h₃.Ns s.heap.objs.size (fun y => ([((f : Str), v), (("self" : Str), Value.ref e)] : List (Str × Value)).lookup y) := by
    obtain ⟨oL, es, ep, hL, r⟩ := hns'
    exact ⟨oL, es, ep, kk _ _ hxL hL, r⟩
  refine wpAt_of_wpAny ?_
  -- self.f = f
  refine wpAny_execs_cons (plainObj_wpAny_Assign_Attribute ?_)
  refine wpAny_Name (wpAny_loadName_local rfl hl4 hns₃ hb2 ?_) hdb
  refine wpAny_Name (wpAny_loadName_local rfl hl3 hns₃ hb1 ?_) (by decide)
  refine set_plain X₃ (ox := excO C t1) (od := none) ⟨hx₃, rfl, rfl, trivial⟩ T.sa ?_
  refine exc_osa X₃ hx₃ hcl (show refsVE (.ref C :: bm) = true from hbm) rfl T.noN (fun h₄ tk₄ dx k₄ dn dne hx₄ hn₄ => ?_)
  have z : s.heap.objs.size < h₃.objs.size := hns₃.lt
  exact wpAny_execs_nil (hq h₄ tk₄ dx t1 ⟨fun b o hb y => k₄ b o hb (kk b o hb (k b o y)), hx₄, Nat.le_of_lt (Nat.lt_of_lt_of_le z dn), dne, hn₄⟩)
theorem sup_init (T : SupTxt prog K mg x f msg C fI) {e t0 : Addr} {v : Value} (X : K.In s.heap) (G : s.heap.Ns mainGlobals mg) (B : ∃ mb, s.heap.Ns builtinsNs mb ∧ mb "super" = some (.type "super")) (hlim : s.heap.NoLimit) (hx : s.heap.get? e = some (excO C t0)) (hnx : K.lookup e = none) (hroom : A.depth < recursionLimit)
    (hq : ∀ h' tk dx t1, InitEnd f s.heap h' e C dx t1 v → R (.ok (.ret .none)) { s with heap := h', toks := tk }) :
    codeAny (model prog w) A (.call (.ref fI) ⟨[.ref e, v], []⟩) R s := by
  rcases T.fok with hf | hf
  · subst hf
    exact sup_initG T X G B hlim hx hnx hroom rfl rfl rfl rfl (by decide) rfl rfl (by decide) (fun _ _ _ _ _ _ _ _ _ _ => .of_eq (by first | rfl | with_unfolding_all rfl)) hq
  · subst hf
    exact sup_initG T X G B hlim hx hnx hroom rfl rfl rfl rfl (by decide) rfl rfl (by decide) (fun _ _ _ _ _ _ _ _ _ _ => .of_eq (by first | rfl | with_unfolding_all rfl)) hq
theorem sup_made (T : SupTxt prog K mg x f msg C fI) {v : Value} (X : K.In s.heap) (G : s.heap.Ns mainGlobals mg) (B : ∃ mb, s.heap.Ns builtinsNs mb ∧ mb "super" = some (.type "super")) (hlim : s.heap.NoLimit) (hroom : A.depth + 1 < recursionLimit)
    (hq : ∀ h' tk e d, OwnMade f s.heap h' e C d v → R (.ok (.ret (.ref e))) { s with heap := h', toks := tk }) :
    codeAny (model prog w) A (.call (.ref C) ⟨[v], []⟩) R s := by
  obtain ⟨nm, q, N, bs, bm, sn, sub, ab, col, dd, k0, k1, k2, k3, k5, hC, hbm⟩ := T.cls
  obtain ⟨mb, hB, hBs⟩ := B
  obtain ⟨hp, g, dr, tk, os⟩ := s
  have k : ∀ b o, hp.get? b = some o → ((hp.push (kdv_tup [v])).push (excO C hp.objs.size)).get? b = some o := fun b o e => Heap.get?_push_of_some _ (Heap.get?_push_of_some _ e)
  have hget : ((hp.push (kdv_tup [v])).push (excO C hp.objs.size)).get? (hp.objs.size + 1) = some (excO C hp.objs.size) := by heap_get
  have hnx : K.lookup (hp.objs.size + 1) = none := by
    cases e : K.lookup (hp.objs.size + 1) with
    | none => rfl
    | some o =>
      have z : hp.get? (hp.objs.size + 1) = some o := X _ _ e
      exact absurd (Nat.lt_of_succ_lt (Heap.lt_size z)) (Nat.lt_irrefl _)
  refine call_own F.excBase_ValueError (fun X => refsVE_contains X bm hbm) (X _ _ hC) (looks_findIn X T.iC) (fun self => bind_fn X self T.tC) (one_size v) ?_
  refine sup_init (s := ⟨(hp.push (kdv_tup [v])).push (excO C hp.objs.size), g, dr, tk, os⟩) T (X.keeps k) (G.keeps k) ⟨mb, hB.keeps k, hBs⟩ (hlim.keeps k) hget hnx ?_ fun h' tk' dx t1 ⟨k', hx, dn, dne, hns⟩ => ?_
  · show A.depth + 1 < recursionLimit
    exact hroom
  · have old : ∀ b o, hp.get? b = some o → h'.get? b = some o := fun b o e => k' b o (Nat.ne_of_lt (Nat.lt_succ_of_lt (Heap.lt_size e))) (k b o e)
    have z : hp.objs.size + 1 + 1 ≤ dx := by
      first
        | (simpa only [Heap.size_push] using dn)
        | exact dn
        | (have q := dn; rw [Heap.size_push, Heap.size_push] at q; exact q)
    exact ⟨rfl, hq h' tk' (hp.objs.size + 1) dx ⟨old, Nat.le_succ _, ⟨_, _, hx, rfl, rfl, rfl, rfl⟩, Nat.le_trans (Nat.le_trans (Nat.le_succ _) (Nat.le_succ _)) z, dne, hns⟩⟩
end
end SupX
end PySem
namespace L2
open PySem PySem.Spec PyProof.Rows
theorem relO_fld {f : Str} {v : V} {v' : Value} (r : RelV v v') (g : Str) : RelO (List.lookup g [(f, v)]) (if g = f then some v' else none) := by
  by_cases hw : g = f
  · subst hw
    rw [if_pos rfl]
    have q : List.lookup g [(g, v)] = some v := by simp [List.lookup]
    rw [q]
    exact r
  · rw [if_neg hw]
    have qw : (g == f) = false := by simpa using hw
    have q2 : List.lookup g [(f, v)] = none := by simp [List.lookup, qw]
    rw [q2]
    trivial
section
variable {X : Cx} {C fI : Addr} {x f msg : Str}
def tMkS (f : Str) (C : Addr) (ta : TA) : St → Hp → XK → Prop := fun σ H Q => ta σ H fun vs H1 => ∃ v, vs = [v] ∧ ∀ d, H1 d = none → Q (.ref C) (some d) (upd H1 d (.xd [(f, v)]))
theorem pmk_sup {a : Expr} {ta : TA} {p pos : Pos} {k : Nat} (T : PySem.SupX.SupTxt X.prog X.K X.mg x f msg C fI) (hr : Room k X.A) (ha : PA X [a] ta) (hg : Gl X x) (hdb : (x == ("__debug__" : Str)) = false)
    (he : starEach (a :: []) X.env = (false, eval a X.env) :: starEach [] X.env := by rfl) (hpl : (backTo pos (starEach [] X.env)).any (·.1) = false := by rfl) :
    PMk X (.Call (.Name x p) [a] [] pos) (tMkS f C ta) := by
  intro pins s σ H Q I h
  refine wpAny_Call_Name_kw (ld_glob I hg T.gC ?_ hdb)
  refine PySem.W.callWith_K (h₀ := X.base) I.ok.mod.kin T.kC (thn (ha.run pos pins s σ H _ I h) fun us s1 hh => ?_) he hpl
  obtain ⟨vs, H1, I1, r1, v, ev, q1⟩ := hh
  subst ev
  refine ⟨I1.kIn, ?_⟩
  cases r1 with
  | cons rv rn =>
    rename_i v' us'
    cases rn
    show wpAny _ _ (call (.ref C) [v']) _ _ _
    have hlim := I1.nolimit
    have hG : s1.heap.Ns mainGlobals X.mg := I1.mod.glob.keeps I1.bk
    obtain ⟨mb, b1, b2⟩ := I1.mod.blt
    have hB : s1.heap.Ns builtinsNs mb := b1.keeps I1.bk
    have hS : mb "super" = some (.type "super") := (b2 "super" (by decide)).trans (by decide +kernel)
    obtain ⟨hp, g, dr, tk, os⟩ := s1
    refine wpAny_call (PySem.SupX.sup_made T I1.kIn hG ⟨mb, hB, hS⟩ hlim (by have := hr.dp; omega) fun h' tk' e d M => ?_)
    show MkP X pins σ Q (.ref e) ⟨h', g, dr, tk', os⟩
    obtain ⟨oe, fv, hoe, hc, hd, hdat, h1⟩ := M.obj
    have hns := M.ns
    obtain ⟨G', g1, g2⟩ := restrict h' fun b => decide (b ≠ e)
    have gk : ∀ b, b ≠ e → G'.get? b = h'.get? b := fun b hb => g1 b (decide_eq_true hb)
    have ge : G'.get? e = none := g2 e (by simp)
    have old : ∀ b o, hp.get? b = some o → G'.get? b = some o := fun b o q => (gk b (Nat.ne_of_lt (Nat.lt_of_lt_of_le (Heap.lt_size q) M.new))).trans (M.keep b o q)
    have ob : ObjOk X.prog X.w (upd H1 d (.xd [(f, v)])) G' d (.xd [(f, v)]) :=
      ⟨_, hns.at (fun o q => (gk d M.dne).trans q), fun g => relO_fld rv g⟩
    have J : Inv X pins σ (upd H1 d (.xd [(f, v)])) ⟨G', g, dr, tk', os⟩ := I1.laid (t' := tk') old M.dbig ob
    refine ⟨e, oe, fv, ⟨G', g, dr, tk', os⟩, _, .ref C, some d, rfl, J, fun b o q => ?_, ge, hoe, ⟨hc, hd⟩, hdat, h1, ?_, rfl, I1.bare, raises_own T.exC T.tyC, q1 d (I1.hok.fresh M.dbig)⟩
    · by_cases hb : b = e
      · have q' : G'.get? b = some o := q
        rw [hb, ge] at q'; cases q'
      · exact (gk b hb).symm.trans q
    · rw [upd_ne (Ne.symm M.dne)]
      exact I1.hok.fresh M.new
end
end L2
namespace ML
open PySem PySem.Spec L2
section
variable {X : Cx} {W : WX} {a : Expr} {ma : MX} {pos : Pos}
def mRaise (x f : Str) (ma : MX) : MS := fun ρ st => (ma ρ st).toS ρ fun d st1 => .er ⟨x, [(f, d)]⟩ ρ st1
theorem ms_raise {x f msg : Str} {C fI : Addr} {k : Nat} {p pos2 : Pos} (T : PySem.SupX.SupTxt X.prog X.K X.mg x f msg C fI) (hr : Room k X.A) (tk : Takes X W) (ha : PE X a (tE X W ma)) (hc : X.calm = true := by rfl) (hg : Gl X x := by rfl) (hdb : (x == ("__debug__" : Str)) = false := by decide)
    (he : starEach (a :: []) X.env = (false, eval a X.env) :: starEach [] X.env := by rfl) (hpl : (backTo pos (starEach [] X.env)).any (·.1) = false := by rfl) :
    PS X (.Raise (some (.Call (.Name x p) [a] [] pos)) none pos2) (tS X W (mRaise x f ma)) := (ps_raise hc tk (pmk_sup T hr (pa_cons ha pa_nil he) hg hdb he hpl)).imp fun D σ H ⟨φ, ρ, st, rs, re, h⟩ => by
  refine ⟨φ, ρ, st, rs, re, ?_⟩
  refine h.exp re fun φ1 d v H1 st1 e1 rs1 rv1 h1 => ?_
  refine ⟨v, rfl, fun dx hd => ?_⟩
  have e2 := ext_new (φ := φ1) (o := .xd [(f, v)]) hd
  refine h1 φ1 _ _ σ _ e2 (rs1.new hd) ((re.ext e1).ext e2) ⟨T.gC, .inr ⟨dx, _, rfl, upd_same, rs1.notin hd, rfl, .cons (rv1.ext e2) .nil⟩⟩
end
def tV (X : Cx) (i : Nat) (a : Addr) (cls : Value) (C : Addr) (d : Option Addr) (x : Str) (fl : List Str) (g : Er → A) : TE := fun σ H Q => cls = .ref C ∧ σ[i]? = some (some (.ref a)) ∧ ∃ er φ st, RS X.K X.w X.mg φ H st ∧ RErr X.K X.mg φ H cls d er ∧ er.cls = x ∧ er.fs.map (·.1) = fl ∧ ∀ φ' H' u, Ext φ H φ' H' → RS X.K X.w X.mg φ' H' st → RV X.K φ' H' u (g er) → Q u H'
def tVs (X : Cx) (i : Nat) (a : Addr) (cls : Value) (C : Addr) (d : Option Addr) (x : Str) (fl : List Str) (g : Er → List A) : TA := fun σ H Q => cls = .ref C ∧ σ[i]? = some (some (.ref a)) ∧ ∃ er φ st, RS X.K X.w X.mg φ H st ∧ RErr X.K X.mg φ H cls d er ∧ er.cls = x ∧ er.fs.map (·.1) = fl ∧ ∀ φ' H' us, Ext φ H φ' H' → RS X.K X.w X.mg φ' H' st → RVs X.K φ' H' us (g er) → Q us H'
structure ClsX (K : PySem.W.Frag) (C : Addr) : Prop where
  hcl : (PySem.W.clsIn K C).isSome = true
  ga : PySem.W.findIn K (.ref C) "__getattribute__" = some (some (.builtin "BaseException.__getattribute__"))
  gg : PySem.W.findIn K (.ref C) "__getattr__" = some none
  exC : PySem.W.subIn K (.ref C) (.type "BaseException") = some true
  hdC : PySem.W.hasDictIn K C = true
  ha : PySem.W.findIn K (.ref C) "__class__" = some (some (.builtin "object.__class__"))
  hn : PySem.W.specialIn K (.builtin "object.__class__") "__get__" = some (some (.builtin "getset_descriptor.__get__"))
  ht : PySem.W.takesIn K (.builtin "object.__class__") = some true
  hm : PySem.W.mroIn K C (.type "object") = some true
section
variable {X : Cx} {i : Nat} {ad C : Addr} {cls : Value} {d : Option Addr} {x : Str} {fl : List Str} {oe : Obj} {pn : List (Addr × Obj)} {e e' : Expr} {es : List Expr} {pos : Pos} {g g' : Er → A} {gs : Er → List A}
theorem xv_str {z : Str} {j pos} : PE X (.Constant (.str z) j pos) (tV X i ad cls C d x fl fun _ => .str z) := pe_str.imp fun _ _ _ ⟨_, _, _, _, _, rs, _, _, _, h⟩ => h _ _ _ .refl rs (.str z)
def fldE (f : Str) (er : Er) : A := match er.fs with
  | [(_, v)] => v
  | _ => .non
theorem xv_fld {f n : Str} {p : Pos} (T : ClsX X.K C) (hno : PySem.W.findIn X.K (.ref C) f = some none) (hz : Zc cls d oe) (hf : ∃ vs, oe.data = .fields vs) (hn : PE (X.suite ad ((ad, oe) :: pn)) (.Name n p) (tVar i))
    (hb : attributeBase (.Name n p) f X.env (eval (.Name n p) X.env) = eval (.Name n p) X.env := by rfl) : PE (X.suite ad ((ad, oe) :: pn)) (.Attribute (.Name n p) f pos) (tV X i ad cls C d x [f] (fldE f)) :=
  (pe_xf ⟨T.ga, T.gg, T.exC, T.hdC⟩ hno hz hf hn hb).imp fun σ H Q ⟨hcl, hs, er, φ, st, rs, r, ex, ef, h⟩ => by
    refine ⟨_, hs, rfl, hcl, ?_⟩
    obtain ⟨_, ⟨q, _⟩ | ⟨dx, xs, q1, q2, q3, q4, q5⟩⟩ := r
    · rw [q] at ef
      cases ef
    · obtain ⟨c, fs⟩ := er
      simp only at ef q4 q5 h
      match fs, ef with
      | [(f', v)], ef =>
        simp at ef
        subst ef
        match xs, q4, q5 with
        | [(f2, u)], q4, q5 =>
          simp at q4
          subst q4
          obtain ⟨w, hw, rv⟩ := one_rv q5
          simp at hw
          subst hw
          exact ⟨dx, _, u, q1, q2, by simp [List.lookup], h _ _ _ .refl rs rv⟩
theorem xv_isi {n t : Str} {p p1 p2 : Pos} {c : V} {cv : Value} {b : Bool} (T : ClsX X.K C) (hz : Zc cls d oe) (hf : ∃ vs, oe.data = .fields vs) (hn : PE (X.suite ad ((ad, oe) :: pn)) (.Name n p1) (tVar i)) (ht : PE (X.suite ad ((ad, oe) :: pn)) (.Name t p2) (tC c)) (hcv : ∀ u, RelV c u → u = cv) (ek : PySem.W.kitOne X.K (.ref C) cv = some b)
    (hm : X.mg "isinstance" = none) (hg : Gl X "isinstance" := by rfl) (he2 : starEach [.Name t p2] X.env = (false, eval (.Name t p2) X.env) :: starEach [] X.env := by rfl) (he : starEach (.Name n p1 :: [.Name t p2]) X.env = (false, eval (.Name n p1) X.env) :: starEach [.Name t p2] X.env := by rfl) (hpl : (backTo pos (starEach [.Name t p2] X.env)).any (·.1) = false := by rfl) :
    PE (X.suite ad ((ad, oe) :: pn)) (.Call (.Name "isinstance" p) [.Name n p1, .Name t p2] [] pos) (tV X i ad cls C d x fl fun _ => .bl b) := by
  have hcall : CallR (X.suite ad ((ad, oe) :: pn)) (.builtin "isinstance") (fun xs H Q => xs = [.ref ad, c] ∧ cls = .ref C ∧ (d = none ∨ ∃ dx fs, d = some dx ∧ H dx = some (.xd fs)) ∧ Q (.bl b) H) := by
    intro pins s σ H xs us Q I r h
    obtain ⟨rfl, hcl, hd, q⟩ := h
    cases r with
    | cons rx rr =>
      cases rr with
      | cons rt rr =>
        cases rr
        cases rx
        have ec := hcv _ rt
        subst ec
        obtain ⟨hget, _⟩ := I.pin (ad, oe) (List.mem_append.mpr (.inl List.mem_cons_self))
        obtain ⟨vs, hv⟩ := hf
        have hno : PySem.W.notCls oe = true := by
          unfold PySem.W.notCls
          rw [hv]
        have J : ∃ od, PySem.W.InstAt s.heap ad oe C od := by
          rcases hd with hd | ⟨dx, fs, hd, hx⟩
          · exact ⟨none, hget, hz.1.trans hcl, hno, by rw [hz.2, hd]; trivial⟩
          · have hok : ObjOk X.prog X.w H s.heap dx (.xd fs) := I.hok dx _ hx
            obtain ⟨mA, hns, _⟩ := hok
            obtain ⟨od, ho, _⟩ := lookIn_ns hns
            exact ⟨some od, hget, hz.1.trans hcl, hno, by rw [hz.2, hd]; exact ho⟩
        obtain ⟨od, J⟩ := J
        exact PySem.W.kia_one (PySem.W.kitx_exc T.hcl T.ga T.gg T.exC T.ha T.hn T.ht T.hm) I.kIn J ek (fun z => nomatch z) fun tk => ⟨.bl b, H, I.kept (t' := tk) fun _ _ z => z, rfl, q⟩
  refine (pe_callB hcall hg hm PyProof.Rows.boot_isinstance (pa_cons hn (pa_cons ht pa_nil he2) he) (by decide) (by decide) he hpl).imp fun σ H Q ⟨hcl, hs, er, φ, st, rs, r, ex, ef, h⟩ => ?_
  refine ⟨_, hs, rfl, hcl, ?_, h _ _ _ .refl rs (.bl b)⟩
  obtain ⟨_, ⟨_, q⟩ | ⟨dx, xs, q1, q2, q3, q4, q5⟩⟩ := r
  · exact .inl q
  · exact .inr ⟨dx, xs, q1, q2⟩
theorem xvs_nil : PA X [] (tVs X i ad cls C d x fl fun _ => []) := pa_nil.imp fun _ _ _ ⟨_, _, _, _, _, rs, _, _, _, h⟩ => h _ _ _ .refl rs .nil
theorem xvs_cons (ha : PE X e (tV X i ad cls C d x fl g)) (hr : PA X es (tVs X i ad cls C d x fl gs)) (hs : starEach (e :: es) X.env = (false, eval e X.env) :: starEach es X.env := by rfl) : PA X (e :: es) (tVs X i ad cls C d x fl fun er => g er :: gs er) :=
  (pa_cons ha hr hs).imp fun σ H Q ⟨hcl, hs, er, φ, st, rs, r, ex, ef, h⟩ =>
    ⟨hcl, hs, er, φ, st, rs, r, ex, ef, fun φ1 H1 u e1 rs1 rv1 => ⟨hcl, hs, er, φ1, st, rs1, r.ext e1, ex, ef, fun φ2 H2 us e2 rs2 rv2 => h φ2 H2 _ (e1.trans e2) rs2 (.cons (rv1.ext e2) rv2)⟩⟩
theorem xv_tup {x1} (h : PA X es (tVs X i ad cls C d x fl gs)) (hl : ∀ er, (gs er).length ≤ 1000) : PE X (.Tuple es x1 pos) (tV X i ad cls C d x fl fun er => .tup (gs er)) :=
  (pe_tupP h).imp fun σ H Q ⟨hcl, hs, er, φ, st, rs, r, ex, ef, h⟩ =>
    ⟨hcl, hs, er, φ, st, rs, r, ex, ef, fun φ1 H1 us e1 rs1 rv1 => ⟨by
      have := hl er
      rw [rv1.length, sizeLine_eq]
      omega, fun p o hd hp => h φ1 _ _ (e1.trans (ext_new hp)) (rs1.new hp) (.newTup rs1 hd hp rv1)⟩⟩
theorem xv_one {op} (ha : PE X e (tV X i ad cls C d x fl g)) : PE X (.BoolOp op [e] pos) (tV X i ad cls C d x fl g) := pe_one ha
theorem xv_and {b1 b2 : Bool} {rest : List Expr} (ha : PE X e (tV X i ad cls C d x fl fun _ => .bl b1)) (hb : PE X (.BoolOp .And (e' :: rest) pos) (tV X i ad cls C d x fl fun _ => .bl b2)) : PE X (.BoolOp .And (e :: e' :: rest) pos) (tV X i ad cls C d x fl fun _ => .bl (b1 && b2)) :=
  (pe_and ha hb).imp fun σ H Q ⟨hcl, hs, er, φ, st, rs, r, ex, ef, h⟩ => by
    refine ⟨hcl, hs, er, φ, st, rs, r, ex, ef, fun φ1 H1 u e1 rs1 rv1 => ?_⟩
    cases rv1
    refine ⟨b1, rfl, ?_⟩
    cases b1 with
    | true => exact iteT ⟨hcl, hs, er, φ1, st, rs1, r.ext e1, ex, ef, fun φ2 H2 u e2 rs2 rv2 => h φ2 H2 u (e1.trans e2) rs2 rv2⟩
    | false => exact iteF (h φ1 H1 _ e1 rs1 (.bl _))
end
def tSu (X : Cx) (i : Nat) (a : Addr) (cls : Value) (C : Addr) (d : Option Addr) (x : Str) (fl : List Str) (g : Er → A) : TS := fun D σ H => tV X i a cls C d x fl g σ H D.rt
end ML
namespace ML
open PySem PySem.Spec L2
section
variable {X : Cx} {W : WX} {a b : Expr} {ma mb : MX} {pos pos2 p p2 : Pos}
def rgA (i j : Int) : List A := (List.range (j - i).toNat).map fun (k : Nat) => A.int (i + (k : Int))
theorem rvs_rg {K : PySem.W.Frag} {φ : List Addr} {H : Hp} {i : Int} : ∀ ks : List Nat, RVs K φ H (ks.map fun (k : Nat) => V.int (i + (k : Int))) (ks.map fun (k : Nat) => A.int (i + (k : Int)))
  | [] => .nil
  | k :: ks => .cons (.int _) (rvs_rg ks)
theorem rg_rv {K : PySem.W.Frag} {φ : List Addr} {H : Hp} (i j : Int) : RVs K φ H (rgV i j) (rgA i j) := rvs_rg _
def tupRg (i j : Int) (st : Store) : R A := if (-1000000 ≤ i ∧ i ≤ 1000000) ∧ -1000000 ≤ j ∧ j ≤ 1000000 then .ok (.tup (rgA i j)) st else .bad
def mTupRg1 (ma : MX) : MX := fun ρ st => (ma ρ st).bind fun x st1 => (getI x st1).bind fun n st2 => tupRg 0 n st2
theorem getI_seq {K : PySem.W.Frag} {mg : Str → Option Value} {W : WH} {φ : List Addr} {H : Hp} {st : Store} {x : V} {a : A} {f : Int → Store → R A} {Q : VK} (r : RV K φ H x a) (h : Pst K w mg (RV K) W φ H ((getI a st).bind f) Q) : ∃ k, x = .int k ∧ Pst K w mg (RV K) W φ H (f k st) Q := by
  cases r with
  | int b => exact ⟨b, rfl, h⟩
  | _ => exact (show False from h).elim
open PyProof.Rows in
theorem pe_tupRgP {X : Cx} {e : Expr} {te : L2.St → Hp → (Int → Int → Hp → Prop) → Prop} {p pos : Pos} (hc : X.calm = true) (hg : Gl X "tuple") (hm : X.mg "tuple" = none) (he : PRg X e te) (na : starEach [e] X.env = (false, eval e X.env) :: starEach [] X.env := by rfl) :
    PE X (.Call (.Name "tuple" p) [e] [] pos) (fun σ H Q => te σ H fun i j H1 => RgOk i j ∧ NewT H1 (rgV i j) Q) := by
  refine ⟨fun pins s σ H Q I h => Call_ (ld_blt I hg hm boot_tuple (PyProof.Rows.callWith_type1 (args_cons (thn (he pins s σ H _ I h) fun x s1 ⟨r, i, j, t, u, v, H1, ex, hr, I1, ok, q⟩ => args_nil ?_) na) na))⟩
  subst ex
  obtain ⟨b1, b2, b3, b4, b5⟩ := ok
  refine call_tuple_range (n := (j - i).toNat) (I1.ok.hd hc) hr (small_one b1 b2 b3 b4) (rangeSize_nat i j) b5 fun h' tk acc hk hi => ?_
  have := new_tup (its := acc.toList) (s := { s1 with heap := h', toks := tk }) (I1.kept hk) (vals_rg hi) (by rw [rgV_length, sizeLine_eq]; omega) q
  rw [Array.toArray_toList] at this
  exact this
theorem tupRg_ok {K : PySem.W.Frag} {mg : Str → Option Value} {W : WH} {φ : List Addr} {H : Hp} {st : Store} {i j : Int} {Q : VK} (rs : RS K w mg φ H st) (h : Pst K w mg (RV K) W φ H (tupRg i j st) Q) : RgOk i j ∧ NewT H (rgV i j) Q := by
  unfold tupRg at h
  split at h
  · rename_i hz
    refine ⟨⟨by omega, by omega, by omega, by omega, by omega⟩, fun q o hd hq => ?_⟩
    exact h φ _ _ (ext_new hq) (rs.new hq) (.newTup rs hd hq (rg_rv i j))
  · exact h.elim
theorem me_tupRg1 (hm : X.mg "tuple" = none) (hm2 : X.mg "range" = none) (ha : PE X a (tE X W ma)) (hc : X.calm = true := by rfl) (hg : Gl X "tuple" := by rfl) (hg2 : Gl X "range" := by rfl) (hs : starEach [a] X.env = (false, eval a X.env) :: starEach [] X.env := by rfl)
    (hs2 : starEach [.Call (.Name "range" p2) [a] [] pos2] X.env = (false, eval (.Call (.Name "range" p2) [a] [] pos2) X.env) :: starEach [] X.env := by rfl) :
    PE X (.Call (.Name "tuple" p) [.Call (.Name "range" p2) [a] [] pos2] [] pos) (tE X W (mTupRg1 ma)) := (pe_tupRgP hc hg hm (prg_1 hg2 hm2 ha hs) hs2).imp fun σ H Q ⟨φ, ρ, st, rs, re, h⟩ => by
  refine ⟨φ, ρ, st, rs, re, h.seq fun φ1 d v H1 st1 e1 rs1 rv1 h1 => ?_⟩
  obtain ⟨n, hn, h2⟩ := getI_seq rv1 h1
  exact ⟨n, hn, tupRg_ok rs1 h2⟩
end
end ML
namespace L2
open PySem PySem.Spec PyProof.Rows
abbrev Claus := Value × (Addr → Value → Option Addr → TS)
def onlyRt (D : Ends) : Ends := { nx := fun _ _ => False, rt := D.rt }
inductive Clauses (X : Cx) (n : Str) : List ExceptHandler → List Claus → Prop
  | nil : Clauses X n [] []
  | cons {x : Str} {c : Value} {ts : Addr → Value → Option Addr → TS} {b₀ : Stmt} {suite : List Stmt} {np pos' : Pos} {hds : List ExceptHandler} {l : List Claus} (hc : Names X x c)
      (hsu : ∀ (a : Addr) (oe : Obj) (cls : Value) (d : Option Addr) (pn : List (Addr × Obj)), Zc cls d oe → (∃ vs, oe.data = .fields vs) → PSs (X.suite a ((a, oe) :: pn)) (b₀ :: suite) (ts a cls d)) (r : Clauses X n hds l) :
      Clauses X n (.ExceptHandler (some (.Name x np)) (some n) (b₀ :: suite) pos' :: hds) ((c, ts) :: l)
def wCls (K : PySem.W.Frag) (i : Nat) (D : Ends) : List Claus → WX
  | [], _, _, _, _ => False
  | (c, ts) :: l, cls, d, σ, H => ∃ b, PySem.W.exmOne K cls c = some b ∧ (b = true → ∀ a, H a = none → ts a cls d (onlyRt D) (σ.set i (some (.ref a))) H) ∧ (b = false → wCls K i D l cls d σ H)
section
variable {X : Cx} {n : Str} {i : Nat} {D : Ends} {pins : List (Addr × Obj)}
theorem clauses_ok (ok : X.Ok) (hf : X.env.frame = some X.env.locals) (hN : X.N.Nodup) (hi : X.N[i]? = some n) (hln : X.env.kindOf n = some .local) {a : Addr} {cls : Value} {d : Option Addr} {B : Heap} {s' : Shared} {h3 : Heap} {σ' : St} {H' : Hp}
    (fl3 : HandSPX.FlyingZ B (X.env :: X.outer) a (Zc cls d) h3) (J3 : ∀ h4, HandSPX.FlyingZ B (X.env :: X.outer) a (Zc cls d) h4 → h3.UpToSlots h4 → Inv X pins σ' H' { s' with heap := h4 }) (na : H' a = none) (nL : a ≠ X.env.locals) (nF : a ∉ X.fs) :
    ∀ {hds : List ExceptHandler} {l : List Claus}, Clauses X n hds l → wCls X.K i D l cls d σ' H' → wpAny (model X.prog X.w) X.A (handleBy (.ref a) X.env hds) (SP X pins D) X.xe { s' with heap := h3 } := by
  intro hds l hk
  induction hk with
  | nil => exact fun w => w.elim
  | @cons x c ts b₀ suite np pos' hds2 l2 hc hsu r ih =>
    rintro ⟨b, hb, hyes, hno⟩
    have I3 := J3 h3 fl3 (Heap.UpToSlots.refl _)
    obtain ⟨oe, vs, he, hz, hd⟩ := fl3.there
    have S := I3.suite he hd na nL nF
    refine wpAny_handleBy_cons (codeAny_handlers_test ?_) (by intro q; cases q)
    have look : PySem.W.Looks (model X.prog X.w) h3 (typeOf (.ref a)) cls := fun A Q E s k q => wpAny_typeOf_ref (k _ _ he) (by rw [hz.1]; exact q)
    have goes := PySem.W.exm_one (M := model X.prog X.w) I3.kIn look hb
    have name : ∀ {Q : Value → Shared → Prop} {E : Value → Shared → Prop}, Q c { s' with heap := h3 } → wpAny (model X.prog X.w) (X.A.mark (some (.ref a))) (eval (.Name x np) X.env) Q E { s' with heap := h3 } := fun q => by
      obtain ⟨g, db, m | ⟨m, v, nn⟩⟩ := hc
      · exact ld_glob (X := X.suite a ((a, oe) :: (X.pn ++ pins))) S g m q db
      · exact ld_blt (X := X.suite a ((a, oe) :: (X.pn ++ pins))) S g m v q nn db
    refine name (goes.here ?_)
    cases b with
    | false => exact ih (hno rfl)
    | true =>
      refine codeAny_handlers_suite_as (HandSPX.lands_againZ fl3 fun h4 fl4 up4 => ?_)
      have I4 := J3 h4 fl4 up4
      obtain ⟨oe4, vs4, he4, hz4, hd4⟩ := fl4.there
      refine store_ok (X := X.suite a ((a, oe4) :: (X.pn ++ pins))) (v := .ref a) (I4.suite he4 hd4 na nL nF) hN hi (.inl hln) rfl (fun s5 S5 => ?_) (.inr hln)
      refine wpAny_mono ((hsu a oe4 cls d (X.pn ++ pins) hz4 ⟨_, hd4⟩).run [] s5 _ H' _ S5 (hyes rfl a na)) (fun f s6 out => ?_) (fun _ _ z => False.elim z)
      cases f with
      | ret u =>
        obtain ⟨v6, σ6, H6, S6, r6, q6⟩ := out
        exact gone_ok (S6.unsuite ok) hN hi hln fun s7 J7 => ⟨_, _, _, J7, r6, q6⟩
      | _ =>
        obtain ⟨_, _, _, q⟩ := out
        exact q.elim
theorem ps_try_cls {body : List Stmt} {h₀ : ExceptHandler} {hds : List ExceptHandler} {l : List Claus} {pos : Pos} {tb : WX → TS} {Wout : WX} (hs : X.stack = X.env :: X.outer) (hf : X.env.frame = some X.env.locals) (hN : X.N.Nodup) (hi : X.N[i]? = some n) (hln : X.env.kindOf n = some .local)
    (hb : ∀ (W : WX) (pn : List (Addr × Obj)) (xe : Value → Shared → Prop), Takes (X.tr pn xe) W → PassesOwn (model X.prog X.w) X.A X.env xe → PSs (X.tr pn xe) body (tb W))
    (hh : Clauses X n (h₀ :: hds) l) : PS X (.Try body (h₀ :: hds) [] [] pos) (fun D σ H => tb (wCls X.K i D l) D σ H) := by
  refine ⟨fun pins s σ H D I h => ?_⟩
  have ok := I.ok
  have hfr : X.A.frames = some (X.env :: X.outer) := by rw [ok.frames, hs]
  let xe' : Value → Shared → Prop := fun e s₁ => wpAny (model X.prog X.w) X.A (noteFrame e X.env) (fun _ s₂ => wpAny (model X.prog X.w) X.A (setFlight e none) (fun _ s₃ =>
    wpAny (model X.prog X.w) X.A (handleBy e X.env (h₀ :: hds)) (SP X pins D) X.xe s₃) X.xe s₂) X.xe s₁
  have tk : Takes (X.tr (X.pn ++ pins) xe') (wCls X.K i D l) := fun u s' xx => by
    obtain ⟨a, B, sI, pins', σ', H', cls, d, rfl, J', nb, up, sky, na, os, ag, w⟩ := xx
    have J : Inv X pins σ' H' sI := J'.ofTry ok
    have sky' : Sky B (X.env :: X.outer) a (Zc cls d) X.env.locals s'.heap := by rw [← hs]; exact sky
    refine Sky.land Zc.steady hfr hf sky' fun h3 fl3 up3 => ?_
    obtain ⟨oe, vs, he, hz, hd⟩ := fl3.there
    have nfr : a ∉ frs (X.env :: X.outer) := fun hm => by
      obtain ⟨_, o', e', hnf⟩ := fl3.2.2.1.mem hm
      rw [he] at e'
      cases e'
      exact hnf _ hd
    refine clauses_ok ok hf hN hi hln fl3 (fun h4 fl4 up4 => J.landed nb fl4.1 ((up.trans up3).trans up4) os ag) na (fun z => nfr (List.mem_filterMap.mpr ⟨X.env, List.mem_cons_self, by rw [hf, z]⟩)) (fun hm => ?_) hh w
    obtain ⟨e, he, q⟩ := List.mem_filterMap.mp hm
    exact nfr (List.mem_filterMap.mpr ⟨e, List.mem_cons_of_mem _ he, q⟩)
  refine wpAny_Try_except ?_
  refine wpAny_mono ((hb (wCls X.K i D l) (X.pn ++ pins) xe' tk PassesOwn.looking).run [] s σ H D (I.toTry _) h) (fun f s1 out => ?_) (fun e s1 he => he)
  cases f with
  | next =>
    obtain ⟨σ1, H1, J1, q⟩ := out
    exact wpAny_execs_nil ⟨σ1, H1, J1.ofTry ok, q⟩
  | brk =>
    obtain ⟨σ1, H1, J1, q⟩ := out
    exact ⟨σ1, H1, J1.ofTry ok, q⟩
  | cont =>
    obtain ⟨σ1, H1, J1, q⟩ := out
    exact ⟨σ1, H1, J1.ofTry ok, q⟩
  | ret u =>
    obtain ⟨v, σ1, H1, J1, r, q⟩ := out
    exact ⟨v, σ1, H1, J1.ofTry ok, r, q⟩
end
end L2
namespace ML
open PySem PySem.Spec L2
def mTry2 (i : Nat) (x1 : Str) (fl1 : List Str) (g1 : Er → A) (x2 : Str) (fl2 : List Str) (g2 : Er → A) (m : MS) : MS := fun ρ st => match m ρ st with
  | .er e ρ1 st1 => if e.cls = x1 ∧ e.fs.map (·.1) = fl1 ∧ i < ρ1.length then .rt (g1 e) st1 else if e.cls = x2 ∧ e.fs.map (·.1) = fl2 ∧ i < ρ1.length then .rt (g2 e) st1 else .bad
  | r => r
section
variable {X : Cx} {W : WX} {i : Nat} {n x1 x2 : Str} {C1 C2 : Addr} {fl1 fl2 : List Str} {g1 g2 : Er → A} {m : MS} {body s1 s2 : List Stmt} {b1 b2 : Stmt} {np1 np2 pos pos1 pos2 : Pos}
theorem pss_retE {e : Expr} {rp : Pos} {a : Addr} {cls : Value} {d : Option Addr} {C : Addr} {x : Str} {fl : List Str} {g : Er → A} {oe : Obj} {pn : List (Addr × Obj)} (h : PE (X.suite a ((a, oe) :: pn)) e (tV X i a cls C d x fl g)) : PSs (X.suite a ((a, oe) :: pn)) [.Return (some e) rp] (tSu X i a cls C d x fl g) :=
  pss_one ((ps_ret h).imp fun D σ H h => h)
theorem ms_try2 (hs : X.stack = X.env :: X.outer) (hf : X.env.frame = some X.env.locals) (hN : X.N.Nodup) (hi : X.N[i]? = some n) (hln : X.env.kindOf n = some .local)
    (hg1 : Gl X x1) (hC1 : X.mg x1 = some (.ref C1)) (h11 : PySem.W.exmOne X.K (.ref C1) (.ref C1) = some true)
    (hg2 : Gl X x2) (hC2 : X.mg x2 = some (.ref C2)) (h22 : PySem.W.exmOne X.K (.ref C2) (.ref C2) = some true) (h21 : PySem.W.exmOne X.K (.ref C2) (.ref C1) = some false)
    (hb : ∀ (W : WX) (pn : List (Addr × Obj)) (xe : Value → Shared → Prop), Takes (X.tr pn xe) W → PassesOwn (model X.prog X.w) X.A X.env xe → PSs (X.tr pn xe) body (tS X W m))
    (u1 : ∀ (a : Addr) (oe : Obj) (cls : Value) (d : Option Addr) (pn : List (Addr × Obj)), Zc cls d oe → (∃ vs, oe.data = .fields vs) → PSs (X.suite a ((a, oe) :: pn)) (b1 :: s1) (tSu X i a cls C1 d x1 fl1 g1))
    (u2 : ∀ (a : Addr) (oe : Obj) (cls : Value) (d : Option Addr) (pn : List (Addr × Obj)), Zc cls d oe → (∃ vs, oe.data = .fields vs) → PSs (X.suite a ((a, oe) :: pn)) (b2 :: s2) (tSu X i a cls C2 d x2 fl2 g2))
    (hd1 : (x1 == ("__debug__" : Str)) = false := by decide) (hd2 : (x2 == ("__debug__" : Str)) = false := by decide) :
    PS X (.Try body [.ExceptHandler (some (.Name x1 np1)) (some n) (b1 :: s1) pos1, .ExceptHandler (some (.Name x2 np2)) (some n) (b2 :: s2) pos2] [] [] pos) (tS X W (mTry2 i x1 fl1 g1 x2 fl2 g2 m)) :=
  (ps_try_cls (i := i) (l := [(.ref C1, fun a cls d => tSu X i a cls C1 d x1 fl1 g1), (.ref C2, fun a cls d => tSu X i a cls C2 d x2 fl2 g2)]) (tb := fun W => tS X W m) (Wout := W) hs hf hN hi hln hb
    (.cons ⟨hg1, hd1, .inl hC1⟩ u1 (.cons ⟨hg2, hd2, .inl hC2⟩ u2 .nil))).imp fun D σ H ⟨φ, ρ, st, rs, re, h⟩ => by
    refine ⟨φ, ρ, st, rs, re, ?_⟩
    unfold mTry2 at h
    cases q : m ρ st with
    | er er ρ1 st1 =>
      rw [q] at h
      simp only at h
      have cl : ∀ {C : Addr} {x : Str} {φ' : List Addr} {c : Value} {d : Option Addr} {H' : Hp}, X.mg x = some (.ref C) → er.cls = x → RErr X.K X.mg φ' H' c d er → c = .ref C := fun hC hx r => by
        have := r.1
        rw [hx, hC] at this
        exact (Option.some.inj this).symm
      by_cases hc : er.cls = x1 ∧ er.fs.map (·.1) = fl1 ∧ i < ρ1.length
      · rw [if_pos hc] at h
        intro φ' c d σ' H' e1 rs1 re1 r1
        obtain ⟨c1, c2, c3⟩ := hc
        have hcc := cl hC1 c1 r1
        subst hcc
        refine ⟨true, h11, fun _ a ha => ⟨rfl, ?_, er, φ', st1, rs1, r1, c1, c2, fun φ2 H2 u e2 rs2 rv2 => h φ2 u H2 (e1.trans e2) rs2 rv2⟩, fun z => by cases z⟩
        rw [List.getElem?_set_self (by rw [re1.len]; exact c3)]
      · rw [if_neg hc] at h
        by_cases hc : er.cls = x2 ∧ er.fs.map (·.1) = fl2 ∧ i < ρ1.length
        · rw [if_pos hc] at h
          intro φ' c d σ' H' e1 rs1 re1 r1
          obtain ⟨c1, c2, c3⟩ := hc
          have hcc := cl hC2 c1 r1
          subst hcc
          refine ⟨false, h21, (fun z => by cases z), fun _ => ⟨true, h22, fun _ a ha => ⟨rfl, ?_, er, φ', st1, rs1, r1, c1, c2, fun φ2 H2 u e2 rs2 rv2 => h φ2 u H2 (e1.trans e2) rs2 rv2⟩, fun z => by cases z⟩⟩
          rw [List.getElem?_set_self (by rw [re1.len]; exact c3)]
        · rw [if_neg hc] at h
          exact h.elim
    | nx ρ1 st1 => rw [q] at h; exact h
    | bk ρ1 st1 => rw [q] at h; exact h
    | ct ρ1 st1 => rw [q] at h; exact h
    | rt v st1 => rw [q] at h; exact h
    | bad => rw [q] at h; exact h.elim
end
end ML
namespace ML
open PySem PySem.Spec L2 PyProof.Rows
def stD (st : Store) (r : Nat) : Option (List (NestedKey × A)) := match st[r]? with
  | some (.oth (.dct kvs)) => some kvs
  | _ => none
theorem stD_eq {st : Store} {r : Nat} {kvs : List (NestedKey × A)} (h : stD st r = some kvs) : st[r]? = some (.oth (.dct kvs)) := by
  unfold stD at h
  split at h
  · cases h
    assumption
  · cases h
section
variable {X : Cx} {pins : List (Addr × Obj)} {σ : L2.St} {H : Hp} {s : Shared} {φ : List Addr} {st : Store}
theorem RS.dct (rs : RS X.K X.w X.mg φ H st) {r : Nat} {a : Addr} {kvs : List (NestedKey × A)} (hp : φ[r]? = some a) (hs : stD st r = some kvs) : RDk X.K φ H a kvs ∨ RDt X.K X.w φ H a kvs := rs.all r a _ hp (stD_eq hs)
theorem RS.allocO (r : RS X.K X.w X.mg φ H st) {p : Addr} {o : HO} {u : Ob2} (h : H p = none) (q : RO2 X.K X.w X.mg (φ ++ [p]) (upd H p o) p u) : RS X.K X.w X.mg (φ ++ [p]) (upd H p o) (st ++ [.oth u]) := by
  have e := ext_alloc (o := o) r h
  refine ⟨by simp [r.len], ?_, fun i a o h1 h2 => ?_⟩
  · rw [List.nodup_append]
    refine ⟨r.nd, by simp, fun a ha b hb z => ?_⟩
    have : b = p := by simpa using hb
    subst this
    subst z
    exact r.notin h ha
  · by_cases hi : i < φ.length
    · rw [List.getElem?_append_left hi] at h1
      rw [List.getElem?_append_left (by rw [← r.len]; exact hi)] at h2
      have h3 := r.all i a o h1 h2
      have na : a ≠ p := fun z => r.notin h (z ▸ List.mem_of_getElem? h1)
      cases o with
      | lst ds' =>
        obtain ⟨ys, y1, y2⟩ := h3
        exact ⟨ys, by rw [upd_ne na]; exact y1, y2.ext e⟩
      | oth u => exact RO2.ext e (upd_ne na) h3
    · have hi2 : i = φ.length := by
        have := (List.getElem?_eq_some_iff.mp h1).1
        rw [List.length_append, List.length_singleton] at this
        omega
      subst hi2
      rw [List.getElem?_append_right (Nat.le_refl _)] at h1
      rw [List.getElem?_append_right (by rw [r.len]; exact Nat.le_refl _)] at h2
      simp at h1
      rw [r.len] at h2
      simp at h2
      subst h1
      subst h2
      exact q
theorem ext_write {p : Addr} {i : Nat} {o' : HO} (hp : φ[i]? = some p) (hn : ∀ od u, H p ≠ some (.frz od u)) : Ext φ H φ (upd H p o') := ⟨⟨[], by simp⟩, fun a u n q => ⟨by rw [upd_ne (show a ≠ p from fun z => n (by rw [z]; exact List.mem_of_getElem? hp))]; exact q, n⟩, fun a o u q => by
  rw [upd_ne (show a ≠ p from fun z => hn o u (by rw [← z]; exact q))]
  exact q⟩
theorem RS.writeO (r : RS X.K X.w X.mg φ H st) {i : Nat} {p : Addr} {o : Ob} {o' : HO} {u : Ob2} (hp : φ[i]? = some p) (ho : st[i]? = some o) (hn : ∀ od u, H p ≠ some (.frz od u)) (q : RO2 X.K X.w X.mg φ (upd H p o') p u) : RS X.K X.w X.mg φ (upd H p o') (st.set i (.oth u)) := by
  have hm : p ∈ φ := List.mem_of_getElem? hp
  have e : Ext φ H φ (upd H p o') := ext_write hp hn
  refine ⟨by rw [List.length_set]; exact r.len, r.nd, fun j a v h1 h2 => ?_⟩
  by_cases hj : i = j
  · subst hj
    rw [hp] at h1
    cases h1
    rw [List.getElem?_set_self (List.getElem?_eq_some_iff.mp ho).1] at h2
    cases h2
    exact q
  · rw [List.getElem?_set_ne hj] at h2
    have h3 := r.all j a v h1 h2
    have na : a ≠ p := fun z => by
      subst z
      obtain ⟨l1, e1⟩ := List.getElem?_eq_some_iff.mp hp
      obtain ⟨l2, e2⟩ := List.getElem?_eq_some_iff.mp h1
      exact hj ((List.getElem_inj r.nd).mp (e1.trans e2.symm))
    cases v with
    | lst ds' =>
      obtain ⟨zs, y1, y2⟩ := h3
      exact ⟨zs, by rw [upd_ne na]; exact y1, y2.ext e⟩
    | oth u => exact RO2.ext e (upd_ne na) h3
end
end ML
namespace ML
open PySem PySem.Spec L2 PyProof.Rows
def clsAt (s : Stmt) (j : Nat) : Stmt := match s with
  | .ClassDef _ _ _ body .. => body.getD j (.Pass ⟨0, 0, 0, 0⟩)
  | s => s
def insA (cls : Str) (x : A) (st : Store) : Option (List (Str × A)) := match x with
  | .ref r => match st[r]? with
    | some (.oth (.ins c fs)) => if c = cls then some fs else none
    | _ => none
  | _ => none
def putFA (f : Str) (v : A) : List (Str × A) → List (Str × A)
  | [] => [(f, v)]
  | (g, x) :: r => if g = f then (g, v) :: r else (g, x) :: putFA f v r
def setIA (cls : Str) (f : Str) (v : A) (x : A) (st : Store) : Option Store := match x with
  | .ref r => match insA cls (.ref r) st with
    | some fs => if fs.length < 1000 then some (st.set r (.oth (.ins cls (putFA f v fs)))) else none
    | none => none
  | _ => none
def mFld (cls f : Str) (ma : MX) : MX := fun ρ st => (ma ρ st).bind fun x st1 => match insA cls x st1 with
  | some fs => match fs.lookup f with
    | some v => .ok v st1
    | none => .bad
  | none => .bad
def mPutF (cls f : Str) (mo ma : MX) : MS := fun ρ st => (ma ρ st).toS ρ fun v st1 => (mo ρ st1).toS ρ fun x st2 => match setIA cls f v x st2 with
  | some st3 => .nx ρ st3
  | none => .bad
def mMeth (cls m : Str) (mf : MF) (mo : MX) (ms : MA) : MX := fun ρ st => (mo ρ st).bind fun x st1 => match insA cls x st1 with
  | some fs => if fs.lookup m = none then (ms ρ st1).bind fun vs st2 => mf (x :: vs) st2 else .bad
  | none => .bad
def mMake (cls : Str) (mf : MF) (ms : MA) : MX := fun ρ st => (ms ρ st).bind fun vs st1 => (mf (.ref st1.length :: vs) (st1 ++ [.oth (.ins cls [])])).bind fun v st2 => match v with
  | .non => .ok (.ref st1.length) st2
  | _ => .bad
section
variable {K : PySem.W.Frag} {w : World} {mg : Str → Option Value} {φ : List Addr} {H : Hp} {st : Store}
theorem insA_eq {cls : Str} {r : Nat} {fs : List (Str × A)} (h : insA cls (.ref r) st = some fs) : st[r]? = some (.oth (.ins cls fs)) := by
  unfold insA at h
  simp only at h
  split at h
  · split at h
    · rename_i e c
      cases h
      rw [← c]
      assumption
    · cases h
  · cases h
theorem ins_at {cls : Str} {x : V} {a : A} {fs : List (Str × A)} (rs : RS K w mg φ H st) (rx : RV K φ H x a) (h : insA cls a st = some fs) :
    ∃ (r : Nat) (p C dx : Addr) (vs : List V), a = .ref r ∧ x = .ref p ∧ φ[r]? = some p ∧ st[r]? = some (.oth (.ins cls fs)) ∧ mg cls = some (.ref C) ∧ H p = some (.ins C dx ((fs.map (·.1)).zip vs)) ∧ H dx = some (.own p) ∧ dx ∉ φ ∧ RVs K φ H vs (fs.map (·.2)) := by
  cases rx with
  | @ref p r q =>
    have e := insA_eq h
    obtain ⟨C, dx, vs, h1, h2, h3, h4, h5⟩ := rs.all r p _ q e
    exact ⟨r, p, C, dx, vs, rfl, rfl, q, e, h1, h2, h3, h4, h5⟩
  | _ => cases h
theorem look_z {f : Str} {v : A} : ∀ {fs : List (Str × A)} {vs : List V}, RVs K φ H vs (fs.map (·.2)) → fs.lookup f = some v → ∃ u, ((fs.map (·.1)).zip vs).lookup f = some u ∧ RV K φ H u v
  | [], _, _, h => by simp at h
  | (g, x) :: fs, vs, r, h => by
    cases r with
    | @cons u _ us _ r1 r2 =>
      simp only [List.map_cons, List.zip_cons_cons, List.lookup_cons] at h ⊢
      cases c : f == g with
      | true =>
        rw [c] at h
        simp only at h
        cases h
        exact ⟨u, rfl, r1⟩
      | false =>
        rw [c] at h
        exact look_z r2 h
theorem look_none {f : Str} : ∀ {fs : List (Str × A)} {vs : List V}, vs.length = fs.length → fs.lookup f = none → ((fs.map (·.1)).zip vs).lookup f = none
  | [], _, _, _ => by simp
  | (g, x) :: fs, [], h, _ => by simp at h
  | (g, x) :: fs, u :: us, h, h2 => by
    simp only [List.map_cons, List.zip_cons_cons, List.lookup_cons] at h2 ⊢
    cases c : f == g with
    | true =>
      rw [c] at h2
      cases h2
    | false =>
      rw [c] at h2
      exact look_none (by simpa using h) h2
theorem put_z {f : Str} {u : V} {v : A} (ru : RV K φ H u v) : ∀ {fs : List (Str × A)} {vs : List V}, RVs K φ H vs (fs.map (·.2)) → ∃ us, putF f u ((fs.map (·.1)).zip vs) = ((putFA f v fs).map (·.1)).zip us ∧ RVs K φ H us ((putFA f v fs).map (·.2))
  | [], vs, r => by
    cases r
    exact ⟨[u], rfl, .cons ru .nil⟩
  | (g, x) :: fs, vs, r => by
    cases r with
    | @cons y ys _ _ r1 r2 =>
      simp only [List.map_cons, List.zip_cons_cons, putF, putFA]
      by_cases c : g = f
      · rw [if_pos c, if_pos c]
        exact ⟨u :: ys, rfl, .cons ru r2⟩
      · rw [if_neg c, if_neg c]
        obtain ⟨us, e1, e2⟩ := put_z (f := f) ru r2
        exact ⟨y :: us, by rw [e1]; rfl, .cons r1 e2⟩
end
structure FldF (K : PySem.W.Frag) (mg : Str → Option Value) (cls f : Str) : Prop where
  ex : ∃ C, mg cls = some (.ref C) ∧ L2.Cls K C ∧ NoAttr K C f
section
variable {X : Cx} {W : WX} {o e : Expr} {f cls : Str} {pos pos' : Pos} {mo ma : MX}
theorem me_fld (F : FldF X.K X.mg cls f) (he : PE X e (tE X W ma)) (hb : attributeBase e f X.env (eval e X.env) = eval e X.env := by rfl) : PE X (.Attribute e f pos) (tE X W (mFld cls f ma)) := (pe_fld he hb).imp fun σ H Q ⟨φ, ρ, st, rs, re, h⟩ => by
  obtain ⟨C, hC, hc, hn⟩ := F.ex
  refine ⟨φ, ρ, st, rs, re, h.seq fun φ1 d x H1 st1 e1 rs1 rv1 h1 => ?_⟩
  cases q : insA cls d st1 with
  | none => rw [q] at h1; exact h1.elim
  | some fs =>
    rw [q] at h1
    simp only at h1
    cases q2 : fs.lookup f with
    | none => rw [q2] at h1; exact h1.elim
    | some v =>
      rw [q2] at h1
      simp only at h1
      obtain ⟨r, p, C', dx, vs, rfl, rfl, g1, g2, g3, g4, g5, g6, g7⟩ := ins_at rs1 rv1 q
      rw [hC] at g3
      cases g3
      obtain ⟨u, l1, l2⟩ := look_z g7 q2
      exact ⟨p, C, dx, _, u, rfl, g4, hc, hn, l1, h1.ok rs1 l2⟩
theorem ms_putf {value : Expr} (F : FldF X.K X.mg cls f) (ho : PE X o (tE X W mo)) (hv : PE X value (tE X W ma)) (hs : swapsWith value (some (.Attribute o f pos')) pos.line X.env = pure false := by rfl) : PS X (.Assign [.Attribute o f pos'] value pos) (tS X W (mPutF cls f mo ma)) := (ps_fld ho hv hs).imp fun D σ H ⟨φ, ρ, st, rs, re, h⟩ => by
  obtain ⟨C, hC, hc, hn⟩ := F.ex
  refine ⟨φ, ρ, st, rs, re, h.exp re fun φ1 d v H1 st1 e1 rs1 rv1 h1 => ?_⟩
  refine ⟨φ1, ρ, st1, rs1, re.ext e1, h1.exp (re.ext e1) fun φ2 a x H2 st2 e2 rs2 rv2 h2 => ?_⟩
  cases q : setIA cls f d a st2 with
  | none => rw [q] at h2; exact h2.elim
  | some st3 =>
    rw [q] at h2
    simp only at h2
    unfold setIA at q
    cases rv2 with
    | @ref p r qp =>
      simp only at q
      cases q2 : insA cls (.ref r) st2 with
      | none => rw [q2] at q; cases q
      | some fs =>
        rw [q2] at q
        simp only at q
        split at q
        · rename_i hl
          cases q
          obtain ⟨r', p', C', dx, vs, e3, e4, g1, g2, g3, g4, g5, g6, g7⟩ := ins_at rs2 (.ref qp) q2
          cases e3
          cases e4
          rw [hC] at g3
          cases g3
          have ex : Ext φ2 H2 φ2 (upd H2 p (.ins C dx (putF f v ((fs.map (·.1)).zip vs)))) := ext_write qp (fun od u z => by rw [g4] at z; cases z)
          obtain ⟨us, u1, u2⟩ := put_z (f := f) ((rv1.ext e2).ext ex) (fs := fs) (g7.ext ex)
          have hlen : ((fs.map (·.1)).zip vs).length < 1000 := by
            rw [List.length_zip, List.length_map]
            omega
          refine ⟨p, C, dx, _, rfl, g4, hc, hn, hlen, h2 φ2 σ _ ex (rs2.writeO qp g2 (fun od u z => by rw [g4] at z; cases z) ⟨C, dx, us, hC, ?_, ?_, g6, u2⟩) (((re.ext e1).ext e2).ext ex)⟩
          · rw [upd_same, u1]
          · rw [upd_ne (fun z => by rw [z, g4] at g5; cases g5)]
            exact g5
        · cases q
    | _ => cases q
end
structure GM (K : PySem.W.Frag) (mg : Str → Option Value) (cls m qual : Str) (st : Stmt) (ps : List Str) : Prop where
  ex : ∃ (C f : Addr) (fd : FuncData), mg cls = some (.ref C) ∧ L2.Cls K C ∧ Meth K C m f ∧ Fun K m qual st f fd ∧ Binds K fd ps []
structure CalM (P : Program) (w : World) (K : PySem.W.Frag) (mg : Str → Option Value) (base : Heap) (cls m : Str) (k : Nat) (mf : MF) : Prop where
  ex : ∃ (C f : Addr) (fd : FuncData) (ps : List Str), mg cls = some (.ref C) ∧ L2.Cls K C ∧ Meth K C m f ∧ Binds K fd ps [] ∧ FnOk P w K mg base (L2.CX P w) k f fd ps (spM K w mg mf)
theorem CalM.mono {P : Program} {w : World} {K : PySem.W.Frag} {mg : Str → Option Value} {base : Heap} {cls m : Str} {k j : Nat} {mf : MF} (C : CalM P w K mg base cls m j mf) (h : j ≤ k) : CalM P w K mg base cls m k mf := by
  obtain ⟨A, f, fd, ps, h1, h2, h3, h4, F⟩ := C.ex
  exact ⟨A, f, fd, ps, h1, h2, h3, h4, F.mono h⟩
theorem calm_of {P : Program} {w : World} {K : PySem.W.Frag} {mg : Str → Option Value} {base : Heap} {cls m qual : Str} {st : Stmt} {N ps : List Str} {k : Nat} {body : MS} (G : GM K mg cls m qual st ps) (S : FnScope N ps (defScope st))
    (hb : ∀ (f : Addr) (cdv : Value) (A : Around) (outer : List PySem.Env) (s : Shared) (H : Hp) (E : XK), Room k (A.deeper (PyProof.Rows.envOfC qual (defScope st) s.heap.objs.size f cdv)) →
      PSs (cxOf (L2.CX P w) P w K mg base N qual (defScope st) f cdv A outer s H E) (defBody st) (tS (cxOf (L2.CX P w) P w K mg base N qual (defScope st) f cdv A outer s H E) (fun c d _ H' => E c d H') body)) :
    CalM P w K mg base cls m (k + 1) (mFn N.length ps.length body) := by
  obtain ⟨C, f, fd, h1, h2, h3, F, b⟩ := G.ex
  exact ⟨C, f, fd, ps, h1, h2, h3, b, fn_ok F S (hb f)⟩
structure GI (K : PySem.W.Frag) (mg : Str → Option Value) (cls qual : Str) (st : Stmt) (ps : List Str) : Prop where
  ex : ∃ (C f : Addr) (fd : FuncData), mg cls = some (.ref C) ∧ Mk K C f ∧ Fun K "__init__" qual st f fd ∧ Binds K fd ps []
structure CalI (P : Program) (w : World) (K : PySem.W.Frag) (mg : Str → Option Value) (base : Heap) (cls : Str) (k : Nat) (mf : MF) : Prop where
  ex : ∃ (C f : Addr) (fd : FuncData) (ps : List Str), mg cls = some (.ref C) ∧ Mk K C f ∧ Binds K fd ps [] ∧ FnOk P w K mg base (L2.CX P w) k f fd ps (spM K w mg mf)
theorem CalI.mono {P : Program} {w : World} {K : PySem.W.Frag} {mg : Str → Option Value} {base : Heap} {cls : Str} {k j : Nat} {mf : MF} (C : CalI P w K mg base cls j mf) (h : j ≤ k) : CalI P w K mg base cls k mf := by
  obtain ⟨A, f, fd, ps, h1, h2, h3, F⟩ := C.ex
  exact ⟨A, f, fd, ps, h1, h2, h3, F.mono h⟩
theorem cali_of {P : Program} {w : World} {K : PySem.W.Frag} {mg : Str → Option Value} {base : Heap} {cls qual : Str} {st : Stmt} {N ps : List Str} {k : Nat} {body : MS} (G : GI K mg cls qual st ps) (S : FnScope N ps (defScope st))
    (hb : ∀ (f : Addr) (cdv : Value) (A : Around) (outer : List PySem.Env) (s : Shared) (H : Hp) (E : XK), Room k (A.deeper (PyProof.Rows.envOfC qual (defScope st) s.heap.objs.size f cdv)) →
      PSs (cxOf (L2.CX P w) P w K mg base N qual (defScope st) f cdv A outer s H E) (defBody st) (tS (cxOf (L2.CX P w) P w K mg base N qual (defScope st) f cdv A outer s H E) (fun c d _ H' => E c d H') body)) :
    CalI P w K mg base cls (k + 1) (mFn N.length ps.length body) := by
  obtain ⟨C, f, fd, h1, h2, F, b⟩ := G.ex
  exact ⟨C, f, fd, ps, h1, h2, b, fn_ok F S (hb f)⟩
section
variable {X : Cx} {E : XK} {o e : Expr} {es : List Expr} {m cls : Str} {pos apos p : Pos} {mo : MX} {ms : MA} {mf : MF} {k : Nat} {pl : Sem Bool}
theorem passX (tk : Takes X (fun c d _ H' => E c d H')) : Passes (L2.CX X.prog X.w) X E := fun pins σ H s e s' I c => passAt tk σ pins H s e s' I c
theorem meth_ok {C : Addr} {ta : TE} {σ : L2.St} {H : Hp} {Q : VK} (hC : X.mg cls = some (.ref C)) (h : tE X (fun c d _ H' => E c d H') (mMeth cls m mf mo ms) σ H Q) :
    tMeth C m (spM X.K X.w X.mg mf) [] E (tE X (fun c d _ H' => E c d H') mo) (tA X (fun c d _ H' => E c d H') ms) σ H Q := by
  obtain ⟨φ, ρ, st, rs, re, h⟩ := h
  refine ⟨φ, ρ, st, rs, re, h.seq fun φ1 a x H1 st1 e1 rs1 rv1 h1 => ?_⟩
  cases q : insA cls a st1 with
  | none => rw [q] at h1; exact h1.elim
  | some fs =>
    rw [q] at h1
    simp only at h1
    obtain ⟨r, p, C', dx, vs, rfl, rfl, g1, g2, g3, g4, g5, g6, g7⟩ := ins_at rs1 rv1 q
    rw [hC] at g3
    cases g3
    split at h1
    · rename_i hl
      refine ⟨p, dx, _, rfl, g4, look_none (by have := g7.length; simpa using this) hl, φ1, ρ, st1, rs1, re.ext e1, h1.seq fun φ2 ds us H2 st2 e2 rs2 rv2 h2 => ?_⟩
      rw [List.append_nil]
      exact ⟨φ2, .ref r :: ds, st2, rs2, .cons (rv1.ext e2) rv2, h2⟩
    · exact h1.elim
theorem me_meth (M : CalM X.prog X.w X.K X.mg X.base cls m k mf) (hr : Room k X.A) (tk : Takes X (fun c d _ H' => E c d H')) (ho : PE X o (tE X (fun c d _ H' => E c d H') mo)) (ha : PA X (e :: es) (tA X (fun c d _ H' => E c d H') ms))
    (hst : starEach (e :: es) X.env = (false, eval e X.env) :: starEach es X.env := by rfl) (hpl : (backTo pos (starEach es X.env)).any (·.1) = false := by rfl)
    (ht : eval (.Call (.Attribute o m apos) (e :: es) [] pos) X.env = (do
      let ov ← eval o X.env
      standAt apos.atName
      let (f, first) ← holding [ov] (getMethod ov m pl)
      callWith pos f first (backTo pos (starEach (e :: es) X.env)) (backToKw pos (keywordEach [] X.env))) := by rfl) :
    PE X (.Call (.Attribute o m apos) (e :: es) [] pos) (tE X (fun c d _ H' => E c d H') (mMeth cls m mf mo ms)) := by
  obtain ⟨C, f, fd, ps, hC, hc, hm, hb, F⟩ := M.ex
  exact (pe_meth ho hc hm F hr hb .nil (passX tk) ha hst hpl ht).imp fun σ H Q h => meth_ok (ta := tE X (fun c d _ H' => E c d H') mo) hC h
theorem make_ok {C : Addr} {σ : L2.St} {H : Hp} {Q : VK} (hC : X.mg cls = some (.ref C)) (h : tE X (fun c d _ H' => E c d H') (mMake cls mf ms) σ H Q) : tMake C (spM X.K X.w X.mg mf) [] E (tA X (fun c d _ H' => E c d H') ms) σ H Q := by
  obtain ⟨φ, ρ, st, rs, re, h⟩ := h
  refine ⟨φ, ρ, st, rs, re, h.seq fun φ1 ds vs H1 st1 e1 rs1 rv1 h1 => fun x dx hx hdx ne => ?_⟩
  rw [List.append_nil]
  have ex : Ext φ1 H1 (φ1 ++ [x]) (upd (upd H1 dx (.own x)) x (.ins C dx [])) := ⟨⟨[x], rfl⟩, fun a u n q => by
    have n1 : a ≠ x := ne_of_none q hx
    have n2 : a ≠ dx := ne_of_none q hdx
    refine ⟨by rw [upd_ne n1, upd_ne n2]; exact q, fun z => ?_⟩
    rcases List.mem_append.mp z with z | z
    · exact n z
    · exact n1 (by simpa using z), fun a o u q => by rw [upd_ne (ne_of_none q hx), upd_ne (ne_of_none q hdx)]; exact q⟩
  have e0 : Ext φ1 H1 φ1 (upd H1 dx (.own x)) := ext_new hdx
  have rs2 : RS X.K X.w X.mg φ1 (upd H1 dx (.own x)) st1 := rs1.new hdx
  have hx2 : upd H1 dx (.own x) x = none := by
    rw [upd_ne (Ne.symm ne)]
    exact hx
  have nd : dx ∉ φ1 ++ [x] := fun z => by
    rcases List.mem_append.mp z with z | z
    · exact rs1.notin hdx z
    · exact ne (by simpa using z)
  have rs3 : RS X.K X.w X.mg (φ1 ++ [x]) (upd (upd H1 dx (.own x)) x (.ins C dx [])) (st1 ++ [.oth (.ins cls [])]) := rs2.allocO hx2 ⟨C, dx, [], hC, upd_same, by rw [upd_ne ne, upd_same], nd, .nil⟩
  refine ⟨φ1 ++ [x], .ref st1.length :: ds, st1 ++ [.oth (.ins cls [])], rs3, .cons (.newLst rs1) (rv1.ext ex), ?_⟩
  refine (h1.mono ex).seq fun φ2 a v H2 st2 e2 rs4 rv4 h4 => ?_
  cases rv4 with
  | non => exact ⟨rfl, h4.ok rs4 (RV.ext e2 (.newLst rs1 (H' := upd (upd H1 dx (.own x)) x (.ins C dx []))))⟩
  | _ => exact h4.elim
theorem me_make {x : Str} (M : CalI X.prog X.w X.K X.mg X.base x k mf) (hr : Room (k + 1) X.A) (tk : Takes X (fun c d _ H' => E c d H')) (ha : PA X (e :: es) (tA X (fun c d _ H' => E c d H') ms)) (hg : Gl X x := by rfl) (hdb : (x == ("__debug__" : Str)) = false := by decide)
    (he : starEach (e :: es) X.env = (false, eval e X.env) :: starEach es X.env := by rfl) (hpl : (backTo pos (starEach es X.env)).any (·.1) = false := by rfl) :
    PE X (.Call (.Name x p) (e :: es) [] pos) (tE X (fun c d _ H' => E c d H') (mMake x mf ms)) := by
  obtain ⟨C, f, fd, ps, hC, hm, hb, F⟩ := M.ex
  exact (pe_make hm F hr hg hC hb .nil (passX tk) ha hdb he hpl).imp fun σ H Q h => make_ok hC h
end
end ML
namespace ML
open PySem PySem.Spec L2 PyProof.Rows
section
variable {K : PySem.W.Frag} {w : World} {mg : Str → Option Value} {φ φ' : List Addr} {H H' : Hp} {st : Store} {σ : L2.St} {ρ : Env}
theorem StT.up {p : Addr} {o : HO} (hp : p ∈ φ) {a : Addr} {xs : List V} (h : StT K φ H a xs) : StT K φ (upd H p o) a xs := by
  rcases h with ⟨⟨q, hd, h⟩, n⟩ | h
  · have ne : a ≠ p := fun z => n (z ▸ hp)
    exact .inl ⟨⟨q, hd, by rw [upd_ne ne]; exact h⟩, n⟩
  · exact .inr h
theorem StL.up {p : Addr} {o : HO} (hp : p ∈ φ) {a : Addr} {xs : List V} (h : StL K φ H a xs) : StL K φ (upd H p o) a xs := by
  rcases h with ⟨⟨q, h⟩, n⟩ | h
  · have ne : a ≠ p := fun z => n (z ▸ hp)
    exact .inl ⟨⟨q, by rw [upd_ne ne]; exact h⟩, n⟩
  · exact .inr h
mutual
theorem RV.up {p : Addr} {o : HO} (hp : p ∈ φ) : ∀ {v : V} {d : A}, RV K φ H v d → RV K φ (upd H p o) v d
  | _, _, .non => .non
  | _, _, .bl b => .bl b
  | _, _, .int i => .int i
  | _, _, .str x => .str x
  | _, _, .tup h q => .tup (h.up hp) (RVs.up hp q)
  | _, _, .scr h q => .scr (h.up hp) (RVs.up hp q)
  | _, _, .ref h => .ref h
theorem RVs.up {p : Addr} {o : HO} (hp : p ∈ φ) : ∀ {vs : List V} {ds : List A}, RVs K φ H vs ds → RVs K φ (upd H p o) vs ds
  | _, _, .nil => .nil
  | _, _, .cons h q => .cons (RV.up hp h) (RVs.up hp q)
end
theorem RE.up {p : Addr} {o : HO} (hp : p ∈ φ) (r : RE K φ H σ ρ) : RE K φ (upd H p o) σ ρ := ⟨r.len, fun i d h => by
  obtain ⟨v, h1, h2⟩ := r.all i d h
  exact ⟨v, h1, RV.up hp h2⟩⟩
end
end ML
namespace ML
open PySem PySem.Spec L2 PyProof.Rows
section
variable {K : PySem.W.Frag} {φ : List Addr} {H : Hp} {P : Program} {w : World} {h : Heap}
def Kq (F : List Addr) (h h' : Heap) : Prop := ∀ b o, h.get? b = some o → ∃ sl, h'.get? b = some { o with slots := sl } ∧ (b ∉ F → h'.get? b = some o)
theorem Kq.refl {F : List Addr} (h : Heap) : Kq F h h := fun b o e => ⟨o.slots, e, fun _ => e⟩
theorem Kq.trans {F : List Addr} {h h' h2 : Heap} (a : Kq F h h') (b : Kq F h' h2) : Kq F h h2 := fun c o e => by
  obtain ⟨sl, e1, e2⟩ := a c o e
  obtain ⟨sl', e3, _⟩ := b c _ e1
  refine ⟨sl', e3, fun n => ?_⟩
  obtain ⟨_, _, e5⟩ := b c o (e2 n)
  exact e5 n
theorem Kq.of {F : List Addr} {h h' : Heap} (k : ∀ b o, h.get? b = some o → h'.get? b = some o) : Kq F h h' := fun b o e => ⟨o.slots, k b o e, fun _ => k b o e⟩
end
section
open PySem.W
def MixOk (kz : List PyData) : Prop := ∀ x ∈ kz, ∀ y ∈ kz, ∃ (i j : Int) (r t : List PyData), x = .tuple (.int i :: r) ∧ y = .tuple (.int j :: t) ∧ (i = j → alikeAll r t = true)
def KzOk (kz : List PyData) : Prop := (AllAlike kz ∧ Sortable kz) ∨ MixOk kz
theorem KzOk.self {kz : List PyData} (m : KzOk kz) {x : PyData} (hx : x ∈ kz) : alike x x = true := by
  rcases m with ⟨al, _⟩ | m
  · exact al x hx x hx
  · obtain ⟨i, j, r, t, e1, e2, al⟩ := m x hx x hx
    rw [e1] at e2
    cases e2
    rw [e1]
    have := al rfl
    simpa [alike, alikeAll] using this
theorem KzOk.same {kz : List PyData} {h : Heap} {v : Value} {x y : PyData} {as bs : List Addr} (m : KzOk kz) (hx : x ∈ kz) (hy : y ∈ kz) (rx : Reads h v x as) (ry : Reads h v y bs) : x = y := by
  rcases m with ⟨al, _⟩ | m
  · exact alike_unique x y v as bs (al x hx y hy) rx ry
  · obtain ⟨i, j, r, t, rfl, rfl, al⟩ := m x hx y hy
    refine alike_unique _ _ v as bs ?_ rx ry
    have eij : i = j := by
      cases rx with
      | tuple g1 g2 g3 g4 =>
        cases ry with
        | tuple k1 k2 k3 k4 =>
          rw [g1] at k1
          cases k1
          rw [g3] at k3
          cases k3
          generalize hz : Array.toList _ = zs at g4 k4
          cases g4 with
          | cons p1 p2 =>
            cases k4 with
            | cons q1 q2 =>
              cases p1
              cases q1
              rfl
    have := al eij
    simpa [alike, alikeAll] using this
theorem KzOk.key {kz : List PyData} {h : Heap} {v : Value} {x : PyData} {as : List Addr} (m : KzOk kz) (hx : x ∈ kz) (rx : Reads h v x as) : (dataKind h kz).keyOf v = some (keyToks x) := by
  have has : ∃ y, y ∈ kz ∧ ∃ bs, Reads h v y bs := ⟨x, hx, as, rx⟩
  have at0 : (dataKind h kz).keyOf v = some (keyToks has.choose) := dif_pos has
  obtain ⟨hy, bs, ry⟩ := has.choose_spec
  rw [at0, m.same hy hx ry rx]
end
end ML
namespace ML
open PySem PySem.Spec L2 PyProof.Rows
structure FnG (P : Program) (w : World) (K : PySem.W.Frag) (mg : Str → Option Value) (base : Heap) (k : Nat) (f : Addr) (fd : FuncData) (ps : List Str) (sp : Sp) : Prop where
  len : ∀ vs H Q E, sp vs H Q E → vs.length = ps.length
  run : ∀ (A : Around) (outer : List PySem.Env) (s : Shared) (H : Hp) (args : Args) (us : List Value) (vs : List V) (Q : VK) (E : XK), A.guards = some [] → Room k A → Env0 P w K mg base A outer s H → BindsTo s fd args (ps.zip us) → Vals vs us → sp vs H Q E →
    codeAny (model P w) A (.call (.ref f) args) (CR (L2.CX P w) outer P w H s Q E) s
theorem FnG.imp {P : Program} {w : World} {K : PySem.W.Frag} {mg : Str → Option Value} {base : Heap} {k : Nat} {f : Addr} {fd : FuncData} {ps : List Str} {sp sp' : Sp} (F : FnG P w K mg base k f fd ps sp) (h : ∀ vs H Q E, sp' vs H Q E → sp vs H Q E) : FnG P w K mg base k f fd ps sp' :=
  ⟨fun vs H Q E q => F.len _ _ _ _ (h _ _ _ _ q), fun A outer s H args us vs Q E g hr e0 hb hv q => F.run A outer s H args us vs Q E g hr e0 hb hv (h _ _ _ _ q)⟩
def reprOk (d : PyData) : Prop := d.showable = true ∧ d.hasDict = false ∧ d.depth ≤ 30 ∧ d.shown.length ≤ sizeLine
instance (d : PyData) : Decidable (reprOk d) := by unfold reprOk; infer_instance
end ML
namespace ML
open PySem PySem.Spec L2 PyProof.Rows
def lstRg (i j : Int) (st : Store) : R A := if (-1000000 ≤ i ∧ i ≤ 1000000) ∧ -1000000 ≤ j ∧ j ≤ 1000000 then .ok (.ref st.length) (st ++ [.lst (rgA i j)]) else .bad
def mLstRg1 (ma : MX) : MX := fun ρ st => (ma ρ st).bind fun x st1 => (getI x st1).bind fun n st2 => lstRg 0 n st2
section
variable {X : Cx} {W : WX} {a b : Expr} {ma mb : MX} {pos pos2 p p2 : Pos}
theorem lstRg_ok {K : PySem.W.Frag} {w : World} {mg : Str → Option Value} {W : WH} {φ : List Addr} {H : Hp} {st : Store} {i j : Int} {Q : VK} (rs : RS K w mg φ H st) (h : Pst K w mg (RV K) W φ H (lstRg i j st) Q) : RgOk i j ∧ ∀ q, H q = none → Q (.ref q) (upd H q (.lst (rgV i j))) := by
  unfold lstRg at h
  split at h
  · rename_i hz
    refine ⟨⟨by omega, by omega, by omega, by omega, by omega⟩, fun q hq => ?_⟩
    exact h _ _ _ (ext_alloc rs hq) (rs.alloc hq (rg_rv i j)) (.newLst rs)
  · exact h.elim
theorem me_lstRg1 (hm : X.mg "list" = none) (hm2 : X.mg "range" = none) (ha : PE X a (tE X W ma)) (hc : X.calm = true := by rfl) (hg : Gl X "list" := by rfl) (hg2 : Gl X "range" := by rfl) (hs : starEach [a] X.env = (false, eval a X.env) :: starEach [] X.env := by rfl)
    (hs2 : starEach [.Call (.Name "range" p2) [a] [] pos2] X.env = (false, eval (.Call (.Name "range" p2) [a] [] pos2) X.env) :: starEach [] X.env := by rfl) :
    PE X (.Call (.Name "list" p) [.Call (.Name "range" p2) [a] [] pos2] [] pos) (tE X W (mLstRg1 ma)) := (pe_listRg hc hg hm (prg_1 hg2 hm2 ha hs) hs2).imp fun σ H Q ⟨φ, ρ, st, rs, re, h⟩ => by
  refine ⟨φ, ρ, st, rs, re, h.seq fun φ1 d v H1 st1 e1 rs1 rv1 h1 => ?_⟩
  obtain ⟨n, hn, h2⟩ := getI_seq rv1 h1
  exact ⟨n, hn, lstRg_ok rs1 h2⟩
end
end ML
namespace ML
open PySem PySem.Spec PyProof.Rows L2
section
variable {K : PySem.W.Frag} {w : World} {mg : Str → Option Value} {φ : List Addr} {H : Hp} {st : Store} {σ : L2.St} {ρ : ML.Env} {P : Addr} {ps : Array Value}
theorem notin_push {a : Addr} {o : HO} (hP : H P = some (.tbl ps)) (h : H a = some o) (n : a ∉ φ) (ne : o ≠ .tbl ps) : a ∉ φ ++ [P] := fun z => by
  rcases List.mem_append.mp z with z | z
  · exact n z
  · rw [List.mem_singleton.mp z, hP] at h
    exact ne (Option.some.inj h).symm
theorem StT.push {a : Addr} {xs : List V} (hP : H P = some (.tbl ps)) (h : StT K φ H a xs) : StT K (φ ++ [P]) H a xs := by
  rcases h with ⟨⟨o, hd, h⟩, n⟩ | h
  · exact .inl ⟨⟨o, hd, h⟩, notin_push hP h n (by simp)⟩
  · exact .inr h
theorem StL.push {a : Addr} {xs : List V} (hP : H P = some (.tbl ps)) (h : StL K φ H a xs) : StL K (φ ++ [P]) H a xs := by
  rcases h with ⟨⟨o, h⟩, n⟩ | h
  · exact .inl ⟨⟨o, h⟩, notin_push hP h n (by simp)⟩
  · exact .inr h
theorem get_push {i : Nat} {a : Addr} (h : φ[i]? = some a) : (φ ++ [P])[i]? = some a := by
  rw [List.getElem?_append_left (List.getElem?_eq_some_iff.mp h).1]
  exact h
mutual
theorem RV.push (hP : H P = some (.tbl ps)) : ∀ {v : V} {d : A}, RV K φ H v d → RV K (φ ++ [P]) H v d
  | _, _, .non => .non
  | _, _, .bl b => .bl b
  | _, _, .int i => .int i
  | _, _, .str x => .str x
  | _, _, .tup h q => .tup (h.push hP) (RVs.push hP q)
  | _, _, .scr h q => .scr (h.push hP) (RVs.push hP q)
  | _, _, .ref h => .ref (get_push h)
theorem RVs.push (hP : H P = some (.tbl ps)) : ∀ {vs : List V} {ds : List A}, RVs K φ H vs ds → RVs K (φ ++ [P]) H vs ds
  | _, _, .nil => .nil
  | _, _, .cons h q => .cons (RV.push hP h) (RVs.push hP q)
end
theorem RE.push (hP : H P = some (.tbl ps)) (r : RE K φ H σ ρ) : RE K (φ ++ [P]) H σ ρ := ⟨r.len, fun i d h => by
  obtain ⟨v, h1, h2⟩ := r.all i d h
  exact ⟨v, h1, h2.push hP⟩⟩
theorem RO2.push {a : Addr} (hP : H P = some (.tbl ps)) : ∀ {u : Ob2}, RO2 K w mg φ H a u → RO2 K w mg (φ ++ [P]) H a u
  | .dct _, .inl ⟨ks, h1, h2, h3⟩ => .inl ⟨ks, h1, h2, h3.push hP⟩
  | .dct _, .inr ⟨xs, vs, h0, h1, h2, h3, h4, h5, h6, h7⟩ => .inr ⟨xs, vs, h0, h1, h2, h3, h4, fun x hx => ⟨(h5 x hx).1.push hP, (h5 x hx).2⟩, h6, h7.push hP⟩
  | .frd _, ⟨od, ks, h1, h2, h3⟩ => ⟨od, ks, h1, h2, h3.push hP⟩
  | .ins _ _, ⟨C, dx, vs, h0, h1, h2, h3, h4⟩ => ⟨C, dx, vs, h0, h1, h2, notin_push hP h2 h3 (by simp), h4.push hP⟩
  | .tab _, ⟨h0, ps', h1, h2, h3⟩ => ⟨h0, ps', h1, h2, fun pos cv hc => by
    obtain ⟨c, z1, z2, z3⟩ := h3 pos cv hc
    exact ⟨c, z1, z2, notin_push hP z2 z3 (LamX.codeO_ne ps)⟩⟩
theorem RS.push {n : Str} (r : RS K w mg φ H st) (hP : H P = some (.tbl #[])) (nP : P ∉ φ) (ht : TabIs K mg n P) : RS K w mg (φ ++ [P]) H (st ++ [.oth (.tab n)]) := by
  refine ⟨by simp [r.len], ?_, fun i a o h1 h2 => ?_⟩
  · rw [List.nodup_append]
    refine ⟨r.nd, by simp, fun a ha b hb z => ?_⟩
    rw [List.mem_singleton.mp hb] at z
    exact nP (z ▸ ha)
  · by_cases hi : i < φ.length
    · rw [List.getElem?_append_left hi] at h1
      rw [List.getElem?_append_left (by rw [← r.len]; exact hi)] at h2
      have h3 := r.all i a o h1 h2
      cases o with
      | lst ds =>
        obtain ⟨xs, q, q2⟩ := h3
        exact ⟨xs, q, q2.push hP⟩
      | oth u => exact RO2.push hP h3
    · have hl : i = φ.length := by
        have := (List.getElem?_eq_some_iff.mp h1).1
        rw [List.length_append, List.length_singleton] at this
        omega
      subst hl
      rw [List.getElem?_append_right (Nat.le_refl _), Nat.sub_self] at h1
      rw [r.len, List.getElem?_append_right (Nat.le_refl _), Nat.sub_self] at h2
      cases h1
      cases h2
      refine ⟨ht, #[], hP, True.intro, fun pos cv hc => ?_⟩
      have z : codeAmong pos [] = some cv := hc
      simp [codeAmong] at z
end
end ML
namespace ML
open PySem PySem.Spec L2 PyProof.Rows
def mProp (cls : Str) (mf : MF) (mo : MX) : MX := fun ρ st => (mo ρ st).bind fun x st1 => match insA cls x st1 with
  | some _ => match mf [x] st1 with
    | .ok a st2 => .ok a st2
    | _ => .bad
  | none => .bad
structure GP (K : PySem.W.Frag) (mg : Str → Option Value) (cls f qual : Str) (st : Stmt) (ps : List Str) : Prop where
  ex : ∃ (C p g : Addr) (fd : FuncData), mg cls = some (.ref C) ∧ L2.Cls K C ∧ PropOf K C f p g ∧ Fun K f qual st g fd ∧ Binds K fd ps []
structure CalP (P : Program) (w : World) (K : PySem.W.Frag) (mg : Str → Option Value) (base : Heap) (cls f : Str) (k : Nat) (mf : MF) : Prop where
  ex : ∃ (C p g : Addr) (fd : FuncData) (ps : List Str), mg cls = some (.ref C) ∧ L2.Cls K C ∧ PropOf K C f p g ∧ Binds K fd ps [] ∧ FnOk P w K mg base (L2.CX P w) k g fd ps (spM K w mg mf)
theorem calp_of {P : Program} {w : World} {K : PySem.W.Frag} {mg : Str → Option Value} {base : Heap} {cls m qual : Str} {st : Stmt} {N ps : List Str} {k : Nat} {body : MS} (G : GP K mg cls m qual st ps) (S : FnScope N ps (defScope st))
    (hb : ∀ (f : Addr) (cdv : Value) (A : Around) (outer : List PySem.Env) (s : Shared) (H : Hp) (E : XK), Room k (A.deeper (PyProof.Rows.envOfC qual (defScope st) s.heap.objs.size f cdv)) →
      PSs (cxOf (L2.CX P w) P w K mg base N qual (defScope st) f cdv A outer s H E) (defBody st) (tS (cxOf (L2.CX P w) P w K mg base N qual (defScope st) f cdv A outer s H E) (fun c d _ H' => E c d H') body)) :
    CalP P w K mg base cls m (k + 1) (mFn N.length ps.length body) := by
  obtain ⟨C, p, f, fd, h1, h2, h3, F, b⟩ := G.ex
  exact ⟨C, p, f, fd, ps, h1, h2, h3, b, fn_ok F S (hb f)⟩
section
variable {X : Cx} {W : WX} {o : Expr} {f cls : Str} {pos : Pos} {mo : MX} {mf : MF} {k : Nat}
theorem me_prop (M : CalP X.prog X.w X.K X.mg X.base cls f k mf) (hr : Room (k + 1) X.A) (ho : PE X o (tE X W mo)) (hab : attributeBase o f X.env (eval o X.env) = eval o X.env := by rfl) :
    PE X (.Attribute o f pos) (tE X W (mProp cls mf mo)) := by
  obtain ⟨C, p, g, fd, ps, hC, hc, hp, hb, F⟩ := M.ex
  refine (pe_prop (E := fun _ _ _ => False) ho hc hp F hr hb .nil (fun pins σ H s e s' I c => by obtain ⟨_, _, _, _, _, _, _, _, _, _, _, _, z⟩ := c; exact z.elim) hab).imp fun σ H Q ⟨φ, ρ, st, rs, re, h⟩ => ?_
  refine ⟨φ, ρ, st, rs, re, h.seq fun φ1 d x H1 st1 e1 rs1 rv1 h1 => ?_⟩
  cases q : insA cls d st1 with
  | none => rw [q] at h1; exact h1.elim
  | some fs =>
    rw [q] at h1
    simp only at h1
    obtain ⟨r, p', C', dx, vs, rfl, rfl, g1, g2, g3, g4, g5, g6, g7⟩ := ins_at rs1 rv1 q
    rw [hC] at g3
    cases g3
    refine ⟨p', dx, _, rfl, g4, φ1, [.ref r], st1, rs1, .cons rv1 .nil, ?_⟩
    cases e : mf [.ref r] st1 with
    | ok a st2 =>
      rw [e] at h1
      exact h1
    | er x st2 => rw [e] at h1; exact h1.elim
    | bad => rw [e] at h1; exact h1.elim
end
end ML
namespace ML
open PySem PySem.Spec L2 PyProof.Rows
def lenO (cls : Str) (mf : MF) : List A → Store → R A
  | [x], st => match insA cls x st with
    | some _ => match mf [x] st with
      | .ok (.int n) st2 => if 0 ≤ n ∧ n < 2 ^ 62 then .ok (.int n) st2 else .bad
      | _ => .bad
    | none => .bad
  | _, _ => .bad
section
variable {X : Cx} {cls : Str} {mf : MF} {k : Nat}
def rLenO (X : Cx) (C : Addr) (mf : MF) : List V → Hp → VK → Prop := fun vs H Q => ∃ a dx fs, vs = [.ref a] ∧ H a = some (.ins C dx fs) ∧ spM X.K X.w X.mg mf [.ref a] H (fun v H' => ∃ n : Int, v = .int n ∧ 0 ≤ n ∧ n < 2 ^ 62 ∧ Q (.int n) H') fun _ _ _ => False
theorem call_lenO {C f : Addr} {fd : FuncData} {ps : List Str} (hm : Meth X.K C "__len__" f) (hb : Binds X.K fd ps []) (F : FnOk X.prog X.w X.K X.mg X.base (L2.CX X.prog X.w) k f fd ps (spM X.K X.w X.mg mf)) (hr : Room (k + 2) X.A) : CallR X (.builtin "len") (rLenO X C mf) := by
  intro pins s σ H vs us Q I r ⟨a, dx, fs, e1, ea, h⟩
  subst e1
  obtain rfl := Vals.ref1 r
  obtain ⟨mA, J, _⟩ := ins_get I.hok ea
  obtain ⟨od, J, _⟩ := J.look
  refine Calls.call_function_entry kind_len plain_len entry_len (args_len1 _) ?_
  unfold Builtin.«len»
  refine wpAny_bind (m := oneArg "len" _) (wpAny_pure ?_)
  refine wpAny_bind (m := callSpecial? (.ref a) (PySem.Str.ofString "__len__")) (PySem.W.special_fn (args := []) I.kIn J hm.at_ (beq_iff_eq.mp hm.fn) ?_)
  have hl : ([Value.ref a] ++ ([] : List Value)).length = ps.length := by
    rw [← F.len _ _ _ _ h]
    rfl
  have bt := hb s [.ref a] I.kIn hl
  rw [List.append_nil] at bt
  refine wpAny_call (codeAny_mono (F.run X.A.in1 X.stack s H ⟨[.ref a], []⟩ [.ref a] [.ref a] _ _ (hr.in1.mono (by omega)) I.env0.in1 bt (.cons rfl .nil) h) fun r s' hq => ?_)
  cases r with
  | error er =>
    obtain ⟨_, _, _, _, _, _, _, _, _, _, _, _, z⟩ := hq
    exact z.elim
  | ok fl =>
    cases fl with
    | ret u =>
      obtain ⟨v, H', I3, rv, n, e2, h0, h1, q⟩ := I.after hq
      subst e2
      obtain ⟨t, rfl⟩ : ∃ t, u = .int n t := rv
      refine wpAny_bind (wpAny_holding (wpAny_pure ?_))
      refine wpAny_bind (wpAny_letGo ?_)
      show wpAny _ _ (if n < 0 then _ else _) _ _ _
      rw [if_neg (by omega)]
      show wpAny _ _ (if n ≥ 2 ^ 63 then _ else _) _ _ _
      rw [if_neg (by omega)]
      exact wpAny_bind (wpAny_mkInt (wpAny_pure ⟨_, rfl, .int n, H', I3.tok _, ⟨_, rfl⟩, q⟩))
    | next => exact False.elim hq
    | brk => exact False.elim hq
    | cont => exact False.elim hq
theorem cs_lenO {C : Addr} (hC : X.mg cls = some (.ref C)) : CaS X (rLenO X C mf) (lenO cls mf) := fun W φ H st vs as Q rs rv h => by
  unfold lenO at h
  split at h
  · rename_i x
    obtain ⟨v, rfl, r⟩ := one_rv rv
    cases q : insA cls x st with
    | none => rw [q] at h; exact h.elim
    | some fs =>
      rw [q] at h
      simp only at h
      obtain ⟨i, p, C', dx, ws, rfl, rfl, g1, g2, g3, g4, g5, g6, g7⟩ := ins_at rs r q
      rw [hC] at g3
      cases g3
      refine ⟨p, dx, _, rfl, g4, φ, [.ref i], st, rs, .cons r .nil, ?_⟩
      cases e : mf [.ref i] st with
      | ok a st2 =>
        rw [e] at h
        cases a with
        | int n =>
          simp only at h
          split at h
          · rename_i c
            intro φ' v' H' ex rs' rv'
            cases rv'
            exact ⟨n, rfl, c.1, c.2, (h.mono ex).ok rs' (.int n)⟩
          · exact h.elim
        | _ => exact h.elim
      | er x st2 => rw [e] at h; exact h.elim
      | bad => rw [e] at h; exact h.elim
  · exact h.elim
variable {W : WX} {e : Expr} {es : List Expr} {p pos : Pos} {ms : MA}
theorem me_lenO (M : CalM X.prog X.w X.K X.mg X.base cls "__len__" k mf) (hr : Room (k + 2) X.A) (hm : X.mg "len" = none) (ha : PA X [e] (tA X W ms)) (hg : Gl X "len" := by rfl) (he : starEach [e] X.env = (false, eval e X.env) :: starEach [] X.env := by rfl)
    (hpl : (backTo pos (starEach [] X.env)).any (·.1) = false := by rfl) : PE X (.Call (.Name "len" p) [e] [] pos) (tE X W (mCa (lenO cls mf) ms)) := by
  obtain ⟨C, f, fd, ps, hC, hc, hm2, hb, F⟩ := M.ex
  exact me_callB (call_lenO hm2 hb F hr) (cs_lenO hC) PySem.boot_len hm ha hg (by decide) (by decide) he hpl
end
end ML
namespace ML
open PySem PySem.Spec L2 PyProof.Rows
section
variable {X : Cx} {W : WX} {o e : Expr} {es : List Expr} {m cls : Str} {pos apos : Pos} {mo : MX} {ms : MA} {mf : MF} {k : Nat} {pl : Sem Bool}
theorem me_methS (M : CalM X.prog X.w X.K X.mg X.base cls m k mf) (hr : Room k X.A) (tk : Takes X W) (ho : PE X o (tE X W mo)) (ha : PA X (e :: es) (tA X W ms))
    (hst : starEach (e :: es) X.env = (false, eval e X.env) :: starEach es X.env := by rfl) (hpl : (backTo pos (starEach es X.env)).any (·.1) = false := by rfl)
    (ht : eval (.Call (.Attribute o m apos) (e :: es) [] pos) X.env = (do
      let ov ← eval o X.env
      standAt apos.atName
      let (f, first) ← holding [ov] (getMethod ov m pl)
      callWith pos f first (backTo pos (starEach (e :: es) X.env)) (backToKw pos (keywordEach [] X.env))) := by rfl) :
    PE X (.Call (.Attribute o m apos) (e :: es) [] pos) (tE X W (mMeth cls m mf mo ms)) := by
  obtain ⟨C, f, fd, ps, hC, hc, hm, hb, F⟩ := M.ex
  refine ⟨fun pins s σ H Q I ⟨φ, ρ, st, rs, re, h⟩ => ?_⟩
  have h2 := ho.run pins s σ H (fun x H1 => ∃ (p dx : Addr) (fs : List (Str × V)), x = .ref p ∧ H1 p = some (.ins C dx fs) ∧ fs.lookup m = none ∧ tA X W ms σ H1 fun vs H2 => spM X.K X.w X.mg mf (.ref p :: vs) H2 Q (WE W σ)) I ⟨φ, ρ, st, rs, re, h.seq fun φ1 a x H1 st1 e1 rs1 rv1 h1 => by
    cases q : insA cls a st1 with
    | none => rw [q] at h1; exact h1.elim
    | some fs =>
      rw [q] at h1
      simp only at h1
      obtain ⟨r, p, C', dx, vs, rfl, rfl, g1, g2, g3, g4, g5, g6, g7⟩ := ins_at rs1 rv1 q
      rw [hC] at g3
      cases g3
      split at h1
      · rename_i hl
        refine ⟨p, dx, _, rfl, g4, look_none (by have := g7.length; simpa using this) hl, φ1, ρ, st1, rs1, re.ext e1, h1.seq fun φ2 ds us H2 st2 e2 rs2 rv2 h2 => ?_⟩
        exact ⟨φ2, .ref r :: ds, st2, rs2, .cons (rv1.ext e2) rv2, h2⟩
      · exact h1.elim⟩
  refine PySem.W.methodCall_KW (pl := pl) (thn h2 fun u s1 ⟨x, H1, I1, rx, a, dx, fs, ex, ea, l, q⟩ => ?_) ht
  subst ex
  have rx : u = Value.ref a := rx
  subst rx
  refine getmeth_ok I1 ea hc hm l ?_
  refine PySem.W.callWith_K (first := [.ref a]) (h₀ := X.base) I.ok.mod.kin hm.kp (thn (ha.run pos pins s1 σ H1 _ I1 q) fun us s2 ⟨vs, H2, I2, r, q2⟩ => ⟨I2.kIn, ?_⟩) hst hpl
  exact run_fnS (E := WE W) (us := .ref a :: us) (vs := .ref a :: vs) F hr hb (passAt tk σ) I2 (.cons rfl r) q2
end
end ML
namespace ML
open PySem PySem.Spec L2 PyProof.Rows
def ItT (t it : Addr) (i : Nat) : HO := .ext fun h => IsTupIter h it t i
theorem itT_ok {P : Program} {w : World} {H : Hp} {h : Heap} {t it : Addr} {i : Nat} (e : IsTupIter h it t i) : ObjOk P w H h it (ItT t it i) := ⟨e, by obtain ⟨o, ho, _⟩ := e; exact ⟨o, ho⟩, fun h1 h2 q k => by
  obtain ⟨o, ho, r⟩ := q
  exact ⟨o, k _ ho, r⟩⟩
def ItX (it : Addr) : HO := .ext fun h => ∃ o, h.get? it = some o
theorem itX_ok {P : Program} {w : World} {H : Hp} {h : Heap} {it : Addr} (e : ∃ o, h.get? it = some o) : ObjOk P w H h it (ItX it) := ⟨e, e, fun h1 h2 q k => by
  obtain ⟨o, ho⟩ := q
  exact ⟨o, k _ ho⟩⟩
section
variable {prog : Program} {w : World} {A : Around} {E : Value → Shared → Prop} {s : Shared}
theorem call_iter_tup {l : Addr} {items : Array Value} {Q : Value → Shared → Prop} (hl : IsTup s.heap l items) (h : Q (.ref s.heap.objs.size) { s with heap := s.heap.push { cls := .type "tuple_iterator", data := .fields #[.ref l, .int 0 0] } }) :
    wpAny (model prog w) A (call (.builtin "iter") [.ref l]) Q E s := by
  refine Calls.call_function_entry (by decide +kernel) (by decide +kernel) PySem.W.kdk_entry_iter (PySem.W.kdk_args_iter _) ?_
  unfold Builtin.«iter»
  refine wpAny_bind (m := someArgs "iter" 1 2 _) (wpAny_of_eq (a := [Value.ref l]) (by first | rfl | kernel_rfl!) ?_)
  show wpAny _ _ (pyIter (.ref l) >>= _) _ _ _
  refine wpAny_bind (iter_tuple hl ?_)
  exact wpAny_pure ⟨_, rfl, h⟩
theorem next_tuple_endX {it t : Addr} {i : Nat} {items : Array Value} {Q : Option Value → Shared → Prop} (hh : A.handled = none)
    (hit : IsTupIter s.heap it t i) (ht : IsTup s.heap t items) (hx : items[i]? = none)
    (hQ : ∀ h', Heap.ExtBut it s.heap h' → (∃ o, h'.get? it = some o) → Q none { s with heap := h' }) : wpAny (model prog w) A (pyNext (.ref it)) Q E s := by
  obtain ⟨o, ho, hc, hd⟩ := id hit
  obtain ⟨ol, hol, _, nl, hdl⟩ := ht
  unfold pyNext
  refine wpAny_bind (wpAny_attempt (wpAny_callSpecial?_slot (name := Str.ofString "__next__") hit.typeIs slot_tupleiter_next
    (wpAny_call_entry slot_tupleiter_next hit.typeIs entry_tupleiter_next ?_ (args_tupleiter_next _))))
  show wpAny _ _ (field (.ref it) 0 >>= _) _ _ s
  refine wpAny_bind (wpAny_field ho hd (x := .ref t) rfl ?_)
  show wpAny _ _ (if (Value.ref t == Value.none) = true then _ else _) _ _ s
  rw [if_neg (show ¬ ((Value.ref t == Value.none) = true) from Bool.false_ne_true)]
  show wpAny _ _ (field (.ref it) 1 >>= _) _ _ s
  refine wpAny_bind (wpAny_field ho hd (x := .int i 0) rfl ?_)
  show wpAny _ _ (seqItems? (.ref t) >>= _) _ _ s
  refine wpAny_bind (wpAny_seqItems hol hdl ?_)
  simp only [Int.toNat_natCast, hx]
  refine wpAny_bind (wpAny_rule (wpAny_bind (wpAny_setField ho hd (by simp) ?_)))
  show wpAny _ _ (newExc (.type "StopIteration") [] >>= _) _ _ _
  refine wpAny_bind ?_
  simp only [newExc, newTuple]
  refine wpAny_bind (wpAny_newObj_type ?_ (by size_fits))
  refine wpAny_bind (m := firstArgMember _ _) (wpAny_of_eq (a := Value.none) (by first | rfl | (simp only [firstArgMember]; rfl)) ?_)
  refine wpAny_newObj_type ?_ (by size_fits)
  simp only [raiseNew]
  refine wpAny_bind (wpAny_handled ?_)
  first | rw [show A.in1.handled = none from hh] | rw [hh]
  refine wpAny_bind (wpAny_pure (wpAny_throw ?_))
  refine wpAny_bind (wpAny_isInstance (T := "StopIteration") (b := true) ⟨_, Heap.get?_push_size _ rfl, rfl⟩ isSubtype_stop ?_)
  refine wpAny_pure (hQ _ (((Heap.SameBut.update ..).extBut.push _).push _) ⟨_, Heap.get?_push_of_some _ (Heap.get?_push_of_some _ (Heap.get?_update_self _ ho (Obj.isFreed_of_fields (Obj.data_mapFields hd _))))⟩)
end
abbrev rIterT (K : PySem.W.Frag) : List V → Hp → VK → Prop := fun xs H Q => ∃ (t : Addr) (zs : List V), xs = [.ref t] ∧ SqT K H t zs ∧ ∀ it, H it = none → Q (.ref it) (upd H it (ItT t it 0))
section
variable {X : Cx} {pins : List (Addr × Obj)} {σ : L2.St} {H : Hp} {s : Shared}
theorem call_iterT : CallR X (.builtin "iter") (rIterT X.K) := by
  intro pins s σ H xs us Q I r h
  obtain ⟨l, zs, rfl, hq, q⟩ := h
  obtain rfl := Vals.ref1 r
  obtain ⟨its, rv, pl, hz⟩ := I.tuple hq
  refine call_iter_tup pl ?_
  exact ⟨.ref s.heap.objs.size, _, I.laid (t' := s.toks) (fun b u e => Heap.get?_push_of_some _ e) (Nat.le_refl _) (itT_ok ⟨_, Heap.get?_push_size _ rfl, rfl, rfl⟩), rfl, q _ (I.hok.fresh (Nat.le_refl _))⟩
theorem itT_get {t it : Addr} {i : Nat} (I : Inv X pins σ H s) (e : H it = some (ItT t it i)) : IsTupIter s.heap it t i := (I.hok it _ e).1
theorem upd_comm {H : Hp} {a b : Addr} {u v : HO} (n : a ≠ b) : upd (upd H a u) b v = upd (upd H b v) a u := by
  funext c
  by_cases h1 : c = b
  · subst h1
    rw [upd_same, upd_ne (Ne.symm n), upd_same]
  · rw [upd_ne h1]
    by_cases h2 : c = a
    · subst h2
      rw [upd_same, upd_same]
    · rw [upd_ne h2, upd_ne h2, upd_ne h1]
theorem fill_tup {A1 : Around} {Rs : Result → Shared → Prop} {t it q : Addr} {xs : List V} {H0 : Hp} (hc : A1.in1.handled = none) (hne : q ≠ it) (ht : ∀ (u : HO) (v : HO), SqT X.K (upd (upd H0 q u) it v) t xs)
    (hdone : ∀ s, Inv X pins σ (upd (upd H0 q (.lst xs)) it (ItX it)) s → Rs (.ok (.ret .none)) s) :
    ∀ (m j : Nat) (s : Shared), m + j = xs.length → Inv X pins σ (upd (upd H0 q (.lst (xs.take j))) it (ItT t it j)) s → codeAny (model X.prog X.w) A1 (.builtin "list.extend.loop" ⟨[.ref q, .ref it, .none], []⟩) Rs s := by
  intro m
  induction m with
  | zero =>
    intro j s hj I
    refine codeAny_builtin PySem.F.entry_extend_loop ?_
    rw [Around.under_plainId PySem.F.plain_extend_loop _]
    show wpAny _ A1.in1 (pyNext (.ref it) >>= _) _ _ s
    obtain ⟨its, rv, pl, hz⟩ := I.tuple (ht _ _)
    have hit := itT_get I upd_same
    refine wpAny_bind (next_tuple_endX hc hit pl (by rw [List.getElem?_toArray]; exact rv.none_of (by rw [List.getElem?_eq_none_iff]; omega)) fun h' ext hx => ?_)
    refine wpAny_pure (hdone _ ?_)
    have I2 := I.write (x := it) (e := it) (o := ItX it) (t' := s.toks) (by rw [upd_same]; exact True.intro) (.inl rfl) (fun b o nb z => ext b o nb z) hx (itX_ok hx)
    rw [upd_upd, show xs.take j = xs from List.take_of_length_le (by omega)] at I2
    exact I2
  | succ m ih =>
    intro j s hj I
    refine codeAny_builtin PySem.F.entry_extend_loop ?_
    rw [Around.under_plainId PySem.F.plain_extend_loop _]
    show wpAny _ A1.in1 (pyNext (.ref it) >>= _) _ _ s
    obtain ⟨its, rv, pl, hz⟩ := I.tuple (ht _ _)
    have hit := itT_get I upd_same
    have hjl : j < xs.length := by omega
    obtain ⟨u, hu, ru⟩ := rv.get (List.getElem?_eq_getElem hjl)
    refine wpAny_bind (next_tuple_item hit pl (x := u) (by rw [List.getElem?_toArray]; exact hu) fun h' hit' sb => ?_)
    have I2 := I.write (x := it) (e := it) (o := ItT t it (j + 1)) (t' := s.toks) (by rw [upd_same]; exact True.intro) (.inl rfl) (fun b o nb z => (sb.2 b nb).trans z) (by obtain ⟨o, ho, _⟩ := hit'; exact ⟨o, ho⟩) (itT_ok hit')
    rw [upd_upd] at I2
    have hq : upd (upd H0 q (.lst (xs.take j))) it (ItT t it (j + 1)) q = some (.lst (xs.take j)) := by rw [upd_ne hne, upd_same]
    obtain ⟨z, its2, k, r2, hl, e⟩ := I2.lstM hq
    show wpAny _ A1.in1 (updateSeq q (·.push u) >>= _) _ _ _
    have hlen : (xs.take j).length = j := by rw [List.length_take]; omega
    refine wpAny_bind (wpAny_updateSeq e rfl (wpAny_pure ⟨plainId_quiet PySem.F.plain_extend_loop _, ?_⟩) (by rw [List.size_toArray]; omega) (by show (its2.toArray.push u).size ≤ sizeLine + 1; rw [Array.size_push, List.size_toArray]; omega))
    have I3 := I2.lset (f := (·.push u)) (its' := its2 ++ [u]) (ys := xs.take j ++ [xs[j]]) (t' := s.toks) hq e (by simp) (r2.append (.cons ru .nil)) (by rw [List.length_append, List.length_singleton, hlen]; omega)
    rw [upd_comm (Ne.symm hne), upd_upd, show xs.take j ++ [xs[j]] = xs.take (j + 1) by rw [List.take_add_one, List.getElem?_eq_getElem hjl]; rfl] at I3
    exact ih (j + 1) _ (by omega) I3
theorem upd_self {H : Hp} {a : Addr} {o : HO} (h : H a = some o) : upd H a o = H := by
  funext b
  by_cases e : b = a
  · rw [e, upd_same, h]
  · rw [upd_ne e]
theorem itT_code {t it : Addr} {i : Nat} {q : Str} : ItT t it i ≠ LamX.CodeO it q := by
  intro e
  unfold ItT LamX.CodeO at e
  have e2 := HO.ext.inj e
  have hg : (⟨Array.replicate (it + 1) { cls := .type "tuple_iterator", data := .fields #[.ref t, .int i 0] }, {}⟩ : Heap).get? it = some { cls := .type "tuple_iterator", data := .fields #[.ref t, .int i 0] } := by
    unfold Heap.get?
    have : (Array.replicate (it + 1) ({ cls := .type "tuple_iterator", data := .fields #[.ref t, .int i 0] } : Obj))[it]? = some { cls := .type "tuple_iterator", data := .fields #[.ref t, .int i 0] } := by
      rw [Array.getElem?_replicate, if_pos (by omega)]
    simp only [this]
  have h1 : IsTupIter (⟨Array.replicate (it + 1) { cls := .type "tuple_iterator", data := .fields #[.ref t, .int i 0] }, {}⟩ : Heap) it t i := ⟨_, hg, rfl, rfl⟩
  have h2 := (congrFun e2 (⟨Array.replicate (it + 1) { cls := .type "tuple_iterator", data := .fields #[.ref t, .int i 0] }, {}⟩ : Heap)).mp h1
  obtain ⟨oc, vs, tk, g1, g2, g3⟩ := h2
  rw [hg] at g1
  cases g1
  cases g2
  simp at g3
end
section
variable {K : PySem.W.Frag} {w : World} {mg : Str → Option Value} {φ φ' : List Addr} {H H' : Hp} {st : Store}
mutual
theorem RV.frz (pre : ∃ t, φ' = φ ++ t) (k : ∀ a o u, a ∉ φ → H a = some (.frz o u) → H' a = some (.frz o u) ∧ a ∉ φ') : ∀ {v : V} {d : A}, RV K φ H v d → RV K φ' H' v d
  | _, _, .non => .non
  | _, _, .bl b => .bl b
  | _, _, .int i => .int i
  | _, _, .str x => .str x
  | _, _, .tup h q => .tup (h.elim (fun ⟨⟨o, hd, x⟩, n⟩ => .inl ⟨⟨o, hd, (k _ _ _ n x).1⟩, (k _ _ _ n x).2⟩) .inr) (RVs.frz pre k q)
  | _, _, .scr h q => .scr (h.elim (fun ⟨⟨o, x⟩, n⟩ => .inl ⟨⟨o, (k _ _ _ n x).1⟩, (k _ _ _ n x).2⟩) .inr) (RVs.frz pre k q)
  | _, _, .ref h => .ref (by
    obtain ⟨t, rfl⟩ := pre
    rw [List.getElem?_append_left (List.getElem?_eq_some_iff.mp h).1]
    exact h)
theorem RVs.frz (pre : ∃ t, φ' = φ ++ t) (k : ∀ a o u, a ∉ φ → H a = some (.frz o u) → H' a = some (.frz o u) ∧ a ∉ φ') : ∀ {vs : List V} {ds : List A}, RVs K φ H vs ds → RVs K φ' H' vs ds
  | _, _, .nil => .nil
  | _, _, .cons h q => .cons (RV.frz pre k h) (RVs.frz pre k q)
end
theorem RO2.frz {a : Addr} (pre : ∃ t, φ' = φ ++ t) (k : ∀ b o, b ∉ φ → H b = some o → (∀ xs, o ≠ .lst xs) → (∀ t i, o ≠ ItT t b i) → H' b = some o ∧ b ∉ φ') (ha : H' a = H a) : ∀ {u : Ob2}, RO2 K w mg φ H a u → RO2 K w mg φ' H' a u := by
  have kf : ∀ b o u, b ∉ φ → H b = some (.frz o u) → H' b = some (.frz o u) ∧ b ∉ φ' := fun b o u n h => k b _ n h (fun _ z => by cases z) (fun _ _ z => by unfold ItT at z; cases z)
  have ups : ∀ vs ds, RVs K φ H vs ds → RVs K φ' H' vs ds := fun _ _ => RVs.frz pre kf
  intro u h
  match u, h with
  | .dct _, .inl ⟨ks, h1, h2, h3⟩ => exact .inl ⟨ks, by rw [ha]; exact h1, h2, ups _ _ h3⟩
  | .dct _, .inr ⟨xs, vs, h0, h1, h2, h3, h4, h5, h6, h7⟩ => exact .inr ⟨xs, vs, h0, by rw [ha]; exact h1, h2, h3, h4, fun x hx => ⟨RV.frz pre kf (h5 x hx).1, (h5 x hx).2⟩, h6, ups _ _ h7⟩
  | .frd _, ⟨od, ks, h1, h2, h3⟩ => exact ⟨od, ks, by rw [ha]; exact h1, h2, ups _ _ h3⟩
  | .ins _ _, ⟨C, dx, vs, h0, h1, h2, h3, h4⟩ =>
    obtain ⟨y1, y2⟩ := k _ _ h3 h2 (fun _ z => by cases z) (fun _ _ z => by unfold ItT at z; cases z)
    exact ⟨C, dx, vs, h0, by rw [ha]; exact h1, y1, y2, ups _ _ h4⟩
  | .tab _, ⟨h0, ps, h1, h2, h3⟩ => exact ⟨h0, ps, by rw [ha]; exact h1, h2, fun pos cv hc => by
    obtain ⟨c, z1, z2, z3⟩ := h3 pos cv hc
    obtain ⟨y1, y2⟩ := k _ _ z3 z2 (fun _ z => by unfold LamX.CodeO at z; cases z) (fun _ _ z => itT_code z.symm)
    exact ⟨c, z1, y1, y2⟩⟩
theorem RS.adopt {q : Addr} {ys : List V} {ds : List A} (r : RS K w mg φ H st) (nq : q ∉ φ) (k : ∀ b o, b ≠ q → H b = some o → (∀ t i, o ≠ ItT t b i) → H' b = some o) (hqL : ∃ xs, H q = some (.lst xs)) (hq : H' q = some (.lst ys)) (hφ : ∀ b ∈ φ, H' b = H b) (rv : RVs K φ H ys ds) :
    RS K w mg (φ ++ [q]) H' (st ++ [.lst ds]) := by
  have pre : ∃ t, φ ++ [q] = φ ++ t := ⟨[q], rfl⟩
  have k2 : ∀ b o, b ∉ φ → H b = some o → (∀ xs, o ≠ .lst xs) → (∀ t i, o ≠ ItT t b i) → H' b = some o ∧ b ∉ φ ++ [q] := fun b o n h hl hi => by
    have hb : b ≠ q := fun z => by
      subst z
      obtain ⟨xs, e⟩ := hqL
      rw [e] at h
      exact hl xs (Option.some.inj h).symm
    exact ⟨k b o hb h hi, fun z => (List.mem_append.mp z).elim n fun z => hb (by simpa using z)⟩
  have kf : ∀ b o u, b ∉ φ → H b = some (.frz o u) → H' b = some (.frz o u) ∧ b ∉ φ ++ [q] := fun b o u n h => k2 b _ n h (fun _ z => by cases z) (fun _ _ z => by unfold ItT at z; cases z)
  refine ⟨by simp [r.len], ?_, fun i a o h1 h2 => ?_⟩
  · rw [List.nodup_append]
    refine ⟨r.nd, by simp, fun a ha b hb z => ?_⟩
    have : b = q := by simpa using hb
    subst this
    subst z
    exact nq ha
  · by_cases hi : i < φ.length
    · rw [List.getElem?_append_left hi] at h1
      rw [List.getElem?_append_left (by rw [← r.len]; exact hi)] at h2
      have h3 := r.all i a o h1 h2
      have ha := hφ a (List.mem_of_getElem? h1)
      cases o with
      | lst ds' =>
        obtain ⟨xs, y1, y2⟩ := h3
        exact ⟨xs, by rw [ha]; exact y1, RVs.frz pre kf y2⟩
      | oth u => exact RO2.frz pre k2 ha h3
    · have hi2 : i = φ.length := by
        have := (List.getElem?_eq_some_iff.mp h1).1
        rw [List.length_append, List.length_singleton] at this
        omega
      subst hi2
      rw [List.getElem?_append_right (Nat.le_refl _)] at h1
      rw [List.getElem?_append_right (by rw [r.len]; exact Nat.le_refl _)] at h2
      simp at h1
      rw [r.len] at h2
      simp at h2
      subst h1
      subst h2
      exact ⟨ys, hq, RVs.frz pre kf rv⟩
end
def spItr (K : PySem.W.Frag) (w : World) (mg : Str → Option Value) (cls fld : Str) : Sp := fun vs H Q _ => ∃ (φ : List Addr) (r : Nat) (st : Store) (fs : List (Str × A)) (xs : List A), RS K w mg φ H st ∧ RVs K φ H vs [.ref r] ∧ insA cls (.ref r) st = some fs ∧ fs.lookup fld = some (.tup xs) ∧
  ∀ φ' H' p t ts, Ext φ H φ' H' → RS K w mg φ' H' st → StT K φ' H' t ts → RVs K φ' H' ts xs → H' p = none → Q (.ref p) (upd H' p (ItT t p 0))
structure CalIt (P : Program) (w : World) (K : PySem.W.Frag) (mg : Str → Option Value) (base : Heap) (cls fld : Str) (k : Nat) : Prop where
  ex : ∃ (C f : Addr) (fd : FuncData) (ps : List Str), mg cls = some (.ref C) ∧ L2.Cls K C ∧ Meth K C "__iter__" f ∧ Binds K fd ps [] ∧ FnOk P w K mg base (L2.CX P w) k f fd ps (spItr K w mg cls fld)
theorem CalIt.mono {P : Program} {w : World} {K : PySem.W.Frag} {mg : Str → Option Value} {base : Heap} {cls fld : Str} {k j : Nat} (C : CalIt P w K mg base cls fld j) (h : j ≤ k) : CalIt P w K mg base cls fld k := by
  obtain ⟨A, f, fd, ps, h1, h2, h3, h4, F⟩ := C.ex
  exact ⟨A, f, fd, ps, h1, h2, h3, h4, F.mono h⟩
theorem calit_of {P : Program} {w : World} {K : PySem.W.Frag} {mg : Str → Option Value} {base : Heap} {cls fld qual : Str} {st : Stmt} {k : Nat} (G : GM K mg cls "__iter__" qual st ["self"]) (S : FnScope ["self"] ["self"] (defScope st))
    (hb : ∀ (f : Addr) (cdv : Value) (A : Around) (outer : List PySem.Env) (s : Shared) (H : Hp) (E : XK), Room k (A.deeper (PyProof.Rows.envOfC qual (defScope st) s.heap.objs.size f cdv)) →
      PSs (cxOf (L2.CX P w) P w K mg base ["self"] qual (defScope st) f cdv A outer s H E) (defBody st) (tRet (tCB (rIterT K) (tA (cxOf (L2.CX P w) P w K mg base ["self"] qual (defScope st) f cdv A outer s H E) (fun c d _ H' => E c d H') (mCons (mFld cls fld (mVar 0)) mNil))))) :
    CalIt P w K mg base cls fld (k + 1) := by
  obtain ⟨C, f, fd, h1, h2, h3, F, b⟩ := G.ex
  refine ⟨C, f, fd, _, h1, h2, h3, b, F.okX S (fun vs H Q E h => ?_) fun cdv A outer s H vs Q E hr h => ⟨_, hb f cdv A outer s H E hr, ?_⟩⟩
  · obtain ⟨φ, r, st, fs, xs, _, rv, _⟩ := h
    rw [rv.length]
    rfl
  · obtain ⟨φ, r, st, fs, xs, rs, rv, hi, hl, hq⟩ := h
    unfold tRet tCB
    refine ⟨φ, [ML.A.ref r].map some ++ List.replicate (1 - 1) none, st, rs, ?_, ?_⟩
    · have hlv : vs.length = 1 := rv.length
      unfold L2.start
      rw [hlv]
      exact RE.start rv _
    show Pst _ _ _ _ _ _ _ ((mCons (mFld cls fld (mVar 0)) mNil) [some (.ref r)] st) _
    have e : (mCons (mFld cls fld (mVar 0)) mNil) [some (.ref r)] st = .ok [.tup xs] st := by
      simp [mCons, mFld, mVar, mNil, R.bind, hi, hl]
    rw [e]
    intro φ' v H' ex rs' rv'
    obtain ⟨u, rfl, ru⟩ := one_rv rv'
    cases ru with
    | tup h1 h2 => exact ⟨_, _, rfl, h1.sq, fun it hit => hq φ' H' it _ _ ex rs' h1 h2 hit⟩
def listO (cls fld : Str) (ml : MF) : List A → Store → R A
  | [x], st => match insA cls x st with
    | some fs => match fs.lookup fld with
      | some (.tup xs) => match ml [x] st with
        | .ok (.int n) st2 => if 0 ≤ n ∧ n.toNat ≤ sizeLine then .ok (.ref st2.length) (st2 ++ [.lst xs]) else .bad
        | _ => .bad
      | _ => .bad
    | none => .bad
  | _, _ => .bad
section
variable {X : Cx} {cls fld : Str} {ml : MF} {k : Nat}
def rListO (X : Cx) (cls fld : Str) (ml : MF) : List V → Hp → VK → Prop := fun vs H Q => ∃ (φ : List Addr) (r : Nat) (st st2 : Store) (fs : List (Str × A)) (xs : List A) (n : Int), RS X.K X.w X.mg φ H st ∧ RVs X.K φ H vs [.ref r] ∧ insA cls (.ref r) st = some fs ∧ fs.lookup fld = some (.tup xs) ∧
  ml [.ref r] st = .ok (.int n) st2 ∧ 0 ≤ n ∧ n.toNat ≤ sizeLine ∧ ∀ φ' q H', Ext φ H φ' H' → RS X.K X.w X.mg φ' H' (st2 ++ [.lst xs]) → RV X.K φ' H' (.ref q) (.ref st2.length) → Q (.ref q) H'
theorem cs_listO : CaS X (rListO X cls fld ml) (listO cls fld ml) := fun W φ H st vs as Q rs rv h => by
  unfold listO at h
  split at h
  · rename_i x
    cases q : insA cls x st with
    | none => rw [q] at h; exact h.elim
    | some fs =>
      rw [q] at h
      simp only at h
      cases q2 : fs.lookup fld with
      | none => rw [q2] at h; exact h.elim
      | some y =>
        rw [q2] at h
        cases y with
        | tup xs =>
          simp only at h
          cases e : ml [x] st with
          | ok a st2 =>
            rw [e] at h
            cases a with
            | int n =>
              simp only at h
              split at h
              · rename_i c
                obtain ⟨r, hr⟩ : ∃ r, x = .ref r := by
                  cases x with
                  | ref r => exact ⟨r, rfl⟩
                  | _ => cases q
                subst hr
                exact ⟨φ, r, st, st2, fs, xs, n, rs, rv, q, q2, e, c.1, c.2, fun φ' p H' ex rs' rv' => h φ' (.ref p) H' ex rs' rv'⟩
              · exact h.elim
            | _ => exact h.elim
          | er x st2 => rw [e] at h; exact h.elim
          | bad => rw [e] at h; exact h.elim
        | _ => exact h.elim
  · exact h.elim
variable {C fi fl : Addr} {fdI fdL : FuncData} {psI psL : List Str} {pins : List (Addr × Obj)} {σ : L2.St} {H : Hp} {s : Shared}
theorem len_in {A1 : Around} {a dx : Addr} {fs : List (Str × V)} {R : Value → Shared → Prop} {E : Value → Shared → Prop} (sb : Sub X (k + 1) A1) (hL : Meth X.K C "__len__" fl) (bL : Binds X.K fdL psL []) (FL : FnOk X.prog X.w X.K X.mg X.base (L2.CX X.prog X.w) k fl fdL psL (spM X.K X.w X.mg ml))
    (I : Inv X pins σ H s) (ea : H a = some (.ins C dx fs)) (Q : V → Hp → Prop) (h : spM X.K X.w X.mg ml [.ref a] H Q fun _ _ _ => False) (hQ : ∀ v H', Q v H' → ∃ n : Int, v = .int n ∧ 0 ≤ n ∧ n < 2 ^ 62)
    (q : ∀ u s' v H', Inv X pins σ H' s' → RelV v u → Q v H' → R u s') : wpAny (model X.prog X.w) A1 (call (.builtin "len") [.ref a]) R E s := by
  obtain ⟨mA, J, _⟩ := ins_get I.hok ea
  obtain ⟨od, J, _⟩ := J.look
  refine Calls.call_function_entry kind_len plain_len entry_len (args_len1 _) ?_
  unfold Builtin.«len»
  refine wpAny_bind (m := oneArg "len" _) (wpAny_pure ?_)
  refine wpAny_bind (m := callSpecial? (.ref a) (PySem.Str.ofString "__len__")) (PySem.W.special_fn (args := []) I.kIn J hL.at_ (beq_iff_eq.mp hL.fn) ?_)
  have hl : ([Value.ref a] ++ ([] : List Value)).length = psL.length := by
    rw [← FL.len _ _ _ _ h]
    rfl
  have bt := bL s [.ref a] I.kIn hl
  rw [List.append_nil] at bt
  have e0 : Env0 X.prog X.w X.K X.mg X.base A1.in1 X.stack s H := by
    have e := I.env0
    exact ⟨by rw [(sb.in1).fr]; exact e.frames, e.mod, e.bs, e.bsz, e.funs, e.frf, e.hok, e.bare⟩
  refine wpAny_call (codeAny_mono (FL.run A1.in1 X.stack s H ⟨[.ref a], []⟩ [.ref a] [.ref a] _ _ sb.in1.room e0 bt (.cons rfl .nil) h) fun r s' hq => ?_)
  cases r with
  | error er =>
    obtain ⟨_, _, _, _, _, _, _, _, _, _, _, _, z⟩ := hq
    exact z.elim
  | ok flw =>
    cases flw with
    | ret u =>
      obtain ⟨v, H', I3, rv, qv⟩ := I.after hq
      obtain ⟨n, rfl, h0, h1⟩ := hQ v H' qv
      obtain ⟨t, rfl⟩ : ∃ t, u = .int n t := rv
      refine wpAny_bind (wpAny_holding (wpAny_pure ?_))
      refine wpAny_bind (wpAny_letGo ?_)
      show wpAny _ _ (if n < 0 then _ else _) _ _ _
      rw [if_neg (by omega)]
      show wpAny _ _ (if n ≥ 2 ^ 63 then _ else _) _ _ _
      rw [if_neg (by omega)]
      exact wpAny_bind (wpAny_mkInt (wpAny_pure ⟨_, rfl, q _ _ (.int n) H' (I3.tok _) ⟨_, rfl⟩ qv⟩))
    | next => exact False.elim hq
    | brk => exact False.elim hq
    | cont => exact False.elim hq
theorem hint_own {A1 : Around} {a dx : Addr} {fs : List (Str × V)} {R : Bool → Shared → Prop} {E : Value → Shared → Prop} (sb : Sub X (k + 1) A1) (hL : Meth X.K C "__len__" fl) (bL : Binds X.K fdL psL []) (FL : FnOk X.prog X.w X.K X.mg X.base (L2.CX X.prog X.w) k fl fdL psL (spM X.K X.w X.mg ml))
    (I : Inv X pins σ H s) (ea : H a = some (.ins C dx fs)) (Q : V → Hp → Prop) (h : spM X.K X.w X.mg ml [.ref a] H Q fun _ _ _ => False) (hQ : ∀ v H', Q v H' → ∃ n : Int, v = .int n ∧ 0 ≤ n ∧ n.toNat ≤ sizeLine)
    (q : ∀ b s' v H', Inv X pins σ H' s' → Q v H' → R b s') : wpAny (model X.prog X.w) A1 (Builtin.List.listLengthHint (.ref a)) R E s := by
  obtain ⟨mA, J, _⟩ := ins_get I.hok ea
  obtain ⟨od, J, _⟩ := J.look
  have hz : sizeLine < 2 ^ 62 := by rw [sizeLine_eq]; decide
  unfold Builtin.List.listLengthHint
  refine wpAny_bind (wpAny_bind (J.type.here ((PySem.W.looks_findIn I.kIn hL.at_).here ?_)))
  refine PySem.W.KFB.if_not rfl ?_
  refine wpAny_ite_split (fun _ => ?_) (fun z => absurd rfl z)
  refine wpAny_bind (wpAny_rule ?_)
  refine wpAny_bind (wpAny_attempt (len_in sb hL bL FL I ea Q h (fun v H' qv => by
    obtain ⟨n, e, h0, h1⟩ := hQ v H' qv
    exact ⟨n, e, h0, by omega⟩) fun u s' v H' I' rv qv => ?_))
  obtain ⟨n, rfl, h0, h1⟩ := hQ v H' qv
  obtain ⟨t, rfl⟩ : ∃ t, u = .int n t := rv
  dsimp only
  refine wpAny_bind (wpAny_of_eq (a := some n) rfl ?_)
  dsimp only
  refine PySem.W.KFB.if_not (by simp [Builtin.List.listTooLong]; omega) ?_
  exact wpAny_pure (q _ _ _ H' I' qv)
theorem one_rv2 {K : PySem.W.Frag} {φ : List Addr} {H : Hp} {v : V} {d : A} (q : RVs K φ H [v] [d]) : RV K φ H v d := by
  cases q with
  | cons h _ => exact h
theorem extend_listO {A1 : Around} {Rs : Result → Shared → Prop} {E : Value → Shared → Prop} {φ : List Addr} {r : Nat} {st st2 : Store} {fs : List (Str × A)} {xd : List A} {n : Int} {q a dx : Addr} {fv : List (Str × V)} {s2 : Shared} (sb : Sub X (k + 1) A1.in1) (hh : A1.in1.handled = none)
    (hC : X.mg cls = some (.ref C)) (hI : Meth X.K C "__iter__" fi) (bI : Binds X.K fdI psI []) (FI : FnOk X.prog X.w X.K X.mg X.base (L2.CX X.prog X.w) k fi fdI psI (spItr X.K X.w X.mg cls fld))
    (hL : Meth X.K C "__len__" fl) (bL : Binds X.K fdL psL []) (FL : FnOk X.prog X.w X.K X.mg X.base (L2.CX X.prog X.w) k fl fdL psL (spM X.K X.w X.mg ml))
    (rs : RS X.K X.w X.mg φ H st) (rvs : RVs X.K φ H [.ref a] [.ref r]) (hi : insA cls (.ref r) st = some fs) (hl : fs.lookup fld = some (.tup xd)) (hml : ml [.ref r] st = .ok (.int n) st2) (n0 : 0 ≤ n) (n1 : n.toNat ≤ sizeLine)
    (fr : H q = none) (ha : H a = some (.ins C dx fv)) (I2 : Inv X pins σ (upd H q (.lst [])) s2)
    (hdone : ∀ s' φ' H', Inv X pins σ H' s' → Ext φ H φ' H' → RS X.K X.w X.mg φ' H' (st2 ++ [.lst xd]) → RV X.K φ' H' (.ref q) (.ref st2.length) → Rs (.ok (.ret .none)) s') :
    wpAny (model X.prog X.w) A1.in1 (Builtin.List.listExtendWith (.ref q) (.ref a) .none)
      (fun fin s' => match fin with | .done f => Rs (.ok f) s' | .again c' => c'.quiet = true ∧ codeAny (model X.prog X.w) A1 c' Rs s') E s2 := by
  have ha2 : upd H q (.lst []) a = some (.ins C dx fv) := by rw [upd_ne (ne_of_none ha fr)]; exact ha
  have hne : q ≠ a := ne_of upd_same ha2 (fun z => nomatch z)
  obtain ⟨mA, J, _⟩ := ins_get I2.hok ha2
  obtain ⟨od, J, _⟩ := J.look
  obtain ⟨m0, hF⟩ := I2.fr
  unfold Builtin.List.listExtendWith
  refine wpAny_bind (J.type.here ?_)
  have h1 : Builtin.List.listSameRef (.ref q) (.ref a) = false := by simp [Builtin.List.listSameRef, hne]
  have h2 : (Value.ref C == Value.type "list") = false := rfl
  have h3 : (Value.ref C == Value.type "tuple") = false := rfl
  simp only [h1, h2, h3, Bool.or_false, Bool.false_eq_true, if_false]
  refine wpAny_bind (PySem.W.owit_iter hF I2.ok.mod.kin J hI.at_ hI.fn ?_)
  have e0 : Env0 X.prog X.w X.K X.mg X.base A1.in1 X.stack s2 (upd H q (.lst [])) := by
    have e := I2.env0
    exact ⟨by rw [sb.fr]; exact e.frames, e.mod, e.bs, e.bsz, e.funs, e.frf, e.hok, e.bare⟩
  have nq : q ∉ φ := rs.notin fr
  have hspI : spItr X.K X.w X.mg cls fld [.ref a] (upd H q (.lst [])) (fun v H' => ∃ (p t : Addr) (ts : List V) (φ1 : List Addr) (H1 : Hp), v = .ref p ∧ H' = upd H1 p (ItT t p 0) ∧ Ext φ (upd H q (.lst [])) φ1 H1 ∧ RS X.K X.w X.mg φ1 H1 st ∧ StT X.K φ1 H1 t ts ∧ RVs X.K φ1 H1 ts xd ∧ H1 p = none) (fun _ _ _ => False) :=
    ⟨φ, r, st, fs, xd, rs.new fr, rvs.ext (ext_new fr), hi, hl, fun φ' H' p t ts e1 e2 e3 e4 e5 => ⟨p, t, ts, φ', H', rfl, rfl, e1, e2, e3, e4, e5⟩⟩
  have hlI := FI.len _ _ _ _ hspI
  refine wpAny_call (codeAny_mono (FI.run A1.in1 X.stack s2 _ ⟨[.ref a], []⟩ [.ref a] [.ref a] _ _ (sb.room.mono (by omega)) e0 (by
    have := bI s2 [.ref a] I2.kIn (by simpa using hlI)
    simpa using this) (.cons rfl .nil) hspI) fun rr s' hq' => ?_)
  cases rr with
  | error e =>
    obtain ⟨_, _, _, _, _, _, _, _, _, _, _, _, z⟩ := hq'
    exact z.elim
  | ok flw =>
    cases flw with
    | next => exact False.elim hq'
    | brk => exact False.elim hq'
    | cont => exact False.elim hq'
    | ret u =>
      obtain ⟨v, H1', I3, rv, p, t, ts, φ1, H1, ev, eH, ex1, rs1, ht1, rts, hp⟩ := I2.after hq'
      subst ev
      subst eH
      cases rv
      have hit := itT_get I3 upd_same
      unfold PySem.W.OwitIt
      refine wpAny_specialOf hit.typeIs slot_tupleiter_next.lookup ?_
      dsimp only
      have np : p ∉ φ1 := rs1.notin hp
      obtain ⟨r2, a2, C2, dx2, ws2, er2, ea2, g1', g2', g3', ha', _⟩ := ins_at rs1 ((one_rv2 rvs).ext ((ext_new fr).trans ex1)) hi
      cases er2
      cases ea2
      rw [hC] at g3'
      cases g3'
      have ha3 : upd H1 p (ItT t p 0) a = some _ := (upd_ne (fun z => np (by rw [← z]; exact List.mem_of_getElem? g1'))).trans ha'
      refine wpAny_bind (wpAny_holding (hint_own sb hL bL FL I3 ha3 (fun v H' => ∃ φ2, v = .int n ∧ Ext φ1 (upd H1 p (ItT t p 0)) φ2 H' ∧ RS X.K X.w X.mg φ2 H' st2) ?_ ?_ fun b s3 v H2 I4 qv => ?_))
      · refine ⟨φ1, [.ref r], st, rs1.new hp, (rvs.ext (ext_new fr)).ext (ex1.trans (ext_new hp)), ?_⟩
        rw [hml]
        intro φ' v H' ex rs' rv'
        cases rv'
        exact ⟨φ', rfl, ex, rs'⟩
      · rintro v H' ⟨φ2, e, _⟩
        exact ⟨n, e, n0, n1⟩
      · obtain ⟨φ2, rfl, ex2, rs2⟩ := qv
        have exq : H2 q = some (.lst []) ∧ q ∉ φ2 := by
          obtain ⟨y1, y2⟩ := ex1.fr q _ nq upd_same
          have hqp : q ≠ p := fun z => by rw [z, hp] at y1; cases y1
          exact ex2.fr q _ y2 (by rw [upd_ne hqp]; exact y1)
        have exp : H2 p = some (ItT t p 0) ∧ p ∉ φ2 := ex2.fr p _ np upd_same
        have hqp : q ≠ p := fun z => by
          rw [z, exp.1] at exq
          unfold ItT at exq
          cases exq.1
        have run : ∀ s4, Inv X pins σ H2 s4 → codeAny (model X.prog X.w) A1 (.builtin "list.extend.loop" ⟨[.ref q, .ref p, .none], []⟩) Rs s4 := by
          intro s4 I5
          refine fill_tup (pins := pins) (σ := σ) (t := t) (xs := ts) (H0 := H2) hh hqp (fun u v => ?_) (fun s5 I6 => ?_) ts.length 0 s4 rfl ?_
          · rcases (ht1.ext (ext_new hp)).ext ex2 with ⟨⟨o, _, z⟩, _⟩ | z
            · have z1 : t ≠ p := fun e => by
                rw [e, exp.1] at z
                unfold ItT at z
                cases z
              have z2 : t ≠ q := fun e => by
                rw [e, exq.1] at z
                cases z
              exact StT.sq (φ := []) (.inl ⟨⟨o, ‹_›, by rw [upd_ne z1, upd_ne z2]; exact z⟩, by simp⟩)
            · exact StT.sq (φ := []) (.inr z)
          · have hz : ∀ (b : Addr) (_ : HO), b ≠ q → b ≠ p → upd (upd H2 q (.lst ts)) p (ItX p) b = H2 b := fun b _ h1 h2 => by rw [upd_ne h2, upd_ne h1]
            have e1 := (ext_new (o := .lst []) fr).trans ex1
            have e2 := e1.trans ((ext_new hp).trans ex2)
            have far : ∀ b o, H b = some o → b ≠ q := fun b o h z => by rw [z, fr] at h; cases h
            refine hdone s5 (φ2 ++ [q]) _ I6 ⟨?_, fun b o nb hb => ?_, fun b o u hb => ?_⟩ ?_ (RV.newLst rs2)
            · obtain ⟨t1, h1⟩ := e2.pre
              exact ⟨t1 ++ [q], by rw [h1, List.append_assoc]⟩
            · obtain ⟨y1, y2⟩ := e1.fr b o nb hb
              obtain ⟨y3, y4⟩ := e2.fr b o nb hb
              have z1 : b ≠ p := fun z => by rw [z, hp] at y1; cases y1
              refine ⟨by rw [hz b o (far b o hb) z1]; exact y3, fun z => (List.mem_append.mp z).elim y4 fun z => far b o hb (by simpa using z)⟩
            · have y1 := e1.fz b o u hb
              have z1 : b ≠ p := fun z => by rw [z, hp] at y1; cases y1
              rw [hz b (.frz o u) (far b _ hb) z1]
              exact e2.fz b o u hb
            · refine RS.adopt rs2 exq.2 (fun b o nb hb hi => ?_) ⟨_, exq.1⟩ (by rw [upd_ne hqp, upd_same]) (fun b hb => hz b (.lst []) (fun z => exq.2 (z ▸ hb)) (fun z => exp.2 (z ▸ hb))) ((rts.ext (ext_new hp)).ext ex2)
              have z1 : b ≠ p := fun z => by
                subst z
                rw [exp.1] at hb
                exact hi _ _ (Option.some.inj hb).symm
              rw [hz b o nb z1]
              exact hb
          · rw [List.take_zero, upd_self exq.1, upd_self exp.1]
            exact I5
        refine wpAny_ite_split (fun _ => ?_) (fun _ => wpAny_pure ⟨plainId_quiet PySem.F.plain_extend_loop _, run _ I4⟩)
        refine wpAny_bind (wpAny_rule ?_)
        refine wpAny_bind ?_
        show wpAny _ _ (updateSeq q (·.push .none) >>= fun _ => updateSeq q (·.pop)) _ _ _
        obtain ⟨z, its, k3, r3, hl3, e3⟩ := I4.lstM exq.1
        cases r3
        refine wpAny_bind (wpAny_updateSeq e3 rfl ?_)
        have I5 := I4.lset (f := (·.push Value.none)) (its' := [Value.none]) (ys := [.non]) (t' := s3.toks) exq.1 e3 (by simp) (.cons rfl .nil) (by rw [List.length_singleton, sizeLine_eq]; decide)
        obtain ⟨z4, its4, k4, r4, hl4, e4⟩ := I5.lstM upd_same
        obtain ⟨u4, rfl, ru4⟩ := r4.one
        refine wpAny_updateSeq e4 rfl ?_ (by show 1 ≤ sizeLine; rw [sizeLine_eq]; decide) (by show 0 ≤ sizeLine + 1; exact Nat.zero_le _)
        refine wpAny_pure ⟨plainId_quiet PySem.F.plain_extend_loop _, run _ ?_⟩
        have I6 := I5.lset (f := (·.pop)) (its := [u4]) (its' := []) (ys := []) (t' := s3.toks) upd_same e4 (by rfl) .nil (Nat.zero_le _)
        rw [upd_upd, upd_self exq.1] at I6
        exact I6
theorem call_listO (hcalm : X.calm = true) (hC : X.mg cls = some (.ref C)) (hI : Meth X.K C "__iter__" fi) (bI : Binds X.K fdI psI []) (FI : FnOk X.prog X.w X.K X.mg X.base (L2.CX X.prog X.w) k fi fdI psI (spItr X.K X.w X.mg cls fld))
    (hL : Meth X.K C "__len__" fl) (bL : Binds X.K fdL psL []) (FL : FnOk X.prog X.w X.K X.mg X.base (L2.CX X.prog X.w) k fl fdL psL (spM X.K X.w X.mg ml)) (hr : Room (k + 4) X.A) : CallR X (.type "list") (rListO X cls fld ml) := by
  intro pins s σ H xs us Q I rv h
  obtain ⟨φ, r, st, st2, fs, xd, n, rs, rvs, hi, hl, hml, n0, n1, hq⟩ := h
  obtain ⟨v0, rfl, rv0⟩ := one_rv rvs
  obtain ⟨r', a, C', dx, ws, er, rfl, g1, g2, g3, ha, g5, g6, g7⟩ := ins_at rs rv0 hi
  cases er
  rw [hC] at g3
  cases g3
  obtain rfl := Vals.ref1 rv
  have sb : Sub X (k + 1) X.A.in1.in1 := (Sub.in1 (Sub.in1 (⟨hr.mono (by omega), rfl⟩ : Sub X (k + 3) X.A)))
  refine callType_codes (Q₁ := fun obj s₁ => obj = .ref s.heap.objs.size ∧ s₁ = { s with heap := s.heap.push { cls := .type "list", data := .seq #[] } }) PySem.F.called_list (PySem.F.typeCall_list_1 _) PySem.F.entry_list_init
    (code_list_new _ ⟨rfl, rfl⟩) fun obj s₁ h₁ => ?_
  obtain ⟨rfl, rfl⟩ := h₁
  have hS : (s.heap.push { cls := .type "list", data := .seq #[] }).get? s.heap.objs.size = some { cls := .type "list", data := .seq #[] } := Heap.get?_push_size _ rfl
  refine ⟨⟨_, hS, rfl⟩, PySem.F.args_list_init_2 _ _, ?_⟩
  have fr : H s.heap.objs.size = none := I.hok.fresh (Nat.le_refl _)
  have I1 : Inv X pins σ (upd H s.heap.objs.size (.lst [])) { s with heap := s.heap.push { cls := .type "list", data := .seq #[] } } := I.lnew (its := []) (t' := s.toks) .nil (Nat.zero_le _)
  show wpAny _ _ (do let old ← Builtin.List.listItems (.ref s.heap.objs.size); Builtin.List.listUpdate (.ref s.heap.objs.size) (fun _ => #[]); letGo old.toList.reverse; Builtin.List.listExtendWith (.ref s.heap.objs.size) (.ref a) .none) _ _ _
  refine wpAny_bind ?_
  unfold Builtin.List.listItems
  refine wpAny_bind (wpAny_seqItems hS rfl (wpAny_pure ?_))
  show wpAny _ _ (updateSeq s.heap.objs.size (fun _ => #[]) >>= fun _ => letGo (#[] : Array Value).toList.reverse >>= fun _ => Builtin.List.listExtendWith (.ref s.heap.objs.size) (.ref a) .none) _ _ _
  refine wpAny_bind (wpAny_updateSeq hS rfl ?_)
  have I2 := I1.lset (f := fun _ => #[]) (its := []) (its' := []) (ys := []) (t' := s.toks) upd_same hS rfl .nil (Nat.zero_le _)
  rw [upd_upd] at I2
  refine wpAny_bind (wpAny_letGo ?_)
  exact extend_listO (A1 := X.A.in1) (Rs := wants (fun r s₂ => r = .none ∧ EP X pins σ Q (.ref s.heap.objs.size) s₂) X.xe) sb (I.ok.hd hcalm) hC hI bI FI hL bL FL rs rvs hi hl hml n0 n1 fr ha I2
    fun s' φ' H' I' ex rs' rv' => ⟨rfl, .ref s.heap.objs.size, H', I', rfl, hq φ' _ H' ex rs' rv'⟩
variable {W : WX} {e : Expr} {p pos : Pos} {ms : MA}
theorem me_listO (hcalm : X.calm = true) (MI : CalIt X.prog X.w X.K X.mg X.base cls fld k) (hLn : CalM X.prog X.w X.K X.mg X.base cls "__len__" k ml) (hr : Room (k + 4) X.A) (hm : X.mg "list" = none) (ha : PA X [e] (tA X W ms)) (hg : Gl X "list" := by rfl) (he : starEach [e] X.env = (false, eval e X.env) :: starEach [] X.env := by rfl)
    (hpl : (backTo pos (starEach [] X.env)).any (·.1) = false := by rfl) : PE X (.Call (.Name "list" p) [e] [] pos) (tE X W (mCa (listO cls fld ml) ms)) := by
  obtain ⟨C, f, fd, ps, hC, hc, hI, bI, FI⟩ := MI.ex
  obtain ⟨C2, f2, fd2, ps2, hC2, hc2, hL, bL, FL⟩ := hLn.ex
  rw [hC] at hC2
  cases hC2
  exact me_callTy (call_listO hcalm hC hI bI FI hL bL FL hr) cs_listO (by decide +kernel) hm ha hg (by decide) (by decide) he hpl
end
end ML
namespace ML
open PySem L2
def R.wp {α : Type} (r : R α) (Q : α → Store → Prop) : Prop := match r with
  | .ok a st => Q a st
  | _ => False
def SR.wp (r : SR) (N B C : Env → Store → Prop) (Rt : A → Store → Prop) : Prop := match r with
  | .nx ρ st => N ρ st
  | .bk ρ st => B ρ st
  | .ct ρ st => C ρ st
  | .rt a st => Rt a st
  | .er _ _ _ => False
  | .bad => False
abbrev NoS : Env → Store → Prop := fun _ _ => False
section
variable {α β : Type} {Q : A → Store → Prop} {QB : Bool → Store → Prop} {ρ : Env} {st : Store} {N B C : Env → Store → Prop} {Rt : A → Store → Prop}
theorem R.wp.ex {r : R α} {Q : α → Store → Prop} (h : r.wp Q) : ∃ a st, r = .ok a st ∧ Q a st := by
  cases r with
  | ok a st => exact ⟨a, st, rfl, h⟩
  | er e st => exact h.elim
  | bad => exact h.elim
theorem R.wp.imp {r : R α} {Q Q' : α → Store → Prop} (h : r.wp Q) (k : ∀ a st, Q a st → Q' a st) : r.wp Q' := by
  cases r with
  | ok a st => exact k _ _ h
  | er e st => exact h.elim
  | bad => exact h.elim
theorem SR.wp.imp {r : SR} {N' B' C' : Env → Store → Prop} {Rt' : A → Store → Prop} (h : r.wp N B C Rt) (k1 : ∀ ρ st, N ρ st → N' ρ st) (k2 : ∀ ρ st, B ρ st → B' ρ st) (k3 : ∀ ρ st, C ρ st → C' ρ st) (k4 : ∀ a st, Rt a st → Rt' a st) : r.wp N' B' C' Rt' := by
  cases r with
  | nx ρ st => exact k1 _ _ h
  | bk ρ st => exact k2 _ _ h
  | ct ρ st => exact k3 _ _ h
  | rt a st => exact k4 _ _ h
  | er e ρ st => exact h.elim
  | bad => exact h.elim
@[simp] theorem wp_ok {a : α} {Q : α → Store → Prop} : (R.ok a st).wp Q ↔ Q a st := Iff.rfl
@[simp] theorem wp_bad {Q : α → Store → Prop} : (R.bad : R α).wp Q ↔ False := Iff.rfl
theorem wp_bind {r : R α} {f : α → Store → R β} {Q : β → Store → Prop} : (r.bind f).wp Q ↔ r.wp fun a st => (f a st).wp Q := by
  cases r <;> rfl
theorem wp_toS {r : R α} {f : α → Store → SR} : (r.toS ρ f).wp N B C Rt ↔ r.wp fun a st => (f a st).wp N B C Rt := by
  cases r <;> rfl
theorem wp_if {c : Prop} [Decidable c] {r r' : R α} {Q : α → Store → Prop} : (if c then r else r').wp Q ↔ if c then r.wp Q else r'.wp Q := by split <;> rfl
theorem sp_if {c : Prop} [Decidable c] {r r' : SR} : (if c then r else r').wp N B C Rt ↔ if c then r.wp N B C Rt else r'.wp N B C Rt := by split <;> rfl
@[simp] theorem sp_seq {m1 m2 : MS} : (mSeq m1 m2 ρ st).wp N B C Rt ↔ (m1 ρ st).wp (fun ρ st => (m2 ρ st).wp N B C Rt) B C Rt := by
  unfold mSeq
  cases m1 ρ st <;> rfl
theorem seq_cut {m1 m2 : MS} (I : Env → Store → Prop) (h1 : (m1 ρ st).wp I (fun _ _ => False) (fun _ _ => False) (fun _ _ => False)) (h2 : ∀ ρ st, I ρ st → (m2 ρ st).wp N B C Rt) : (mSeq m1 m2 ρ st).wp N B C Rt := by
  rw [sp_seq]
  exact h1.imp h2 (fun _ _ h => h.elim) (fun _ _ h => h.elim) (fun _ _ h => h.elim)
theorem seq_cutR {m1 m2 : MS} (I : Env → Store → Prop) (h1 : (m1 ρ st).wp I (fun _ _ => False) (fun _ _ => False) Rt) (h2 : ∀ ρ st, I ρ st → (m2 ρ st).wp N B C Rt) : (mSeq m1 m2 ρ st).wp N B C Rt := by
  rw [sp_seq]
  exact h1.imp h2 (fun _ _ h => h.elim) (fun _ _ h => h.elim) (fun _ _ h => h)
@[simp] theorem wp_fn {n k : Nat} {body : MS} {as : List A} : (mFn n k body as st).wp Q ↔ as.length = k ∧ (body (as.map some ++ List.replicate (n - k) none) st).wp (fun _ st => Q .non st) NoS NoS Q := by
  unfold mFn
  by_cases h : as.length = k
  · rw [if_pos h]
    cases body (as.map some ++ List.replicate (n - k) none) st <;> simp [R.wp, SR.wp, h, NoS]
  · rw [if_neg h]
    simp [R.wp, h]
@[simp] theorem wp_var {i : Nat} : (mVar i ρ st).wp Q ↔ ∃ a, ρ[i]? = some (some a) ∧ Q a st := by
  unfold mVar
  cases e : ρ[i]? with
  | none => simp [R.wp]
  | some o => cases o <;> simp [R.wp]
@[simp] theorem wp_c {a : A} : (mC a ρ st).wp Q ↔ Q a st := Iff.rfl
@[simp] theorem wp_bin {g : A → A → Store → R A} {ma mb : MX} : (mBin g ma mb ρ st).wp Q ↔ (ma ρ st).wp fun x st1 => (mb ρ st1).wp fun y st2 => (g x y st2).wp Q := by
  unfold mBin
  rw [wp_bind]
  simp only [wp_bind]
@[simp] theorem wp_un {g : A → Store → R A} {ma : MX} : (mUn g ma ρ st).wp Q ↔ (ma ρ st).wp fun x st1 => (g x st1).wp Q := by
  unfold mUn
  rw [wp_bind]
@[simp] theorem wp_tru {ma : MX} : (mTru ma ρ st).wp QB ↔ (ma ρ st).wp fun x st1 => (truA x st1).wp QB := by
  unfold mTru
  rw [wp_bind]
@[simp] theorem wp_gb {ma : MX} : (mGB ma ρ st).wp QB ↔ (ma ρ st).wp fun x st1 => (getB x st1).wp QB := by
  unfold mGB
  rw [wp_bind]
@[simp] theorem wp_and {ma mb : MT} : (mAnd ma mb ρ st).wp QB ↔ (ma ρ st).wp fun x st1 => if x = true then (mb ρ st1).wp QB else QB false st1 := by
  unfold mAnd
  simp only [wp_bind, wp_if, wp_ok]
@[simp] theorem wp_or {ma mb : MT} : (mOr ma mb ρ st).wp QB ↔ (ma ρ st).wp fun x st1 => if x = true then QB true st1 else (mb ρ st1).wp QB := by
  unfold mOr
  simp only [wp_bind, wp_if, wp_ok]
@[simp] theorem wp_not {ma : MT} : (mNot ma ρ st).wp QB ↔ (ma ρ st).wp fun x st1 => QB (!x) st1 := by
  unfold mNot
  simp only [wp_bind, wp_ok]
@[simp] theorem wp_andV {ma mb : MX} : (mAndV ma mb ρ st).wp Q ↔ (ma ρ st).wp fun x st1 => (getB x st1).wp fun k st2 => if k = true then (mb ρ st2).wp Q else Q (.bl false) st2 := by
  unfold mAndV
  simp only [wp_bind, wp_if, wp_ok]
variable {QA : List A → Store → Prop}
@[simp] theorem wp_nil : (mNil ρ st).wp QA ↔ QA [] st := Iff.rfl
@[simp] theorem wp_cons {ma : MX} {mr : MA} : (mCons ma mr ρ st).wp QA ↔ (ma ρ st).wp fun x st1 => (mr ρ st1).wp fun xs st2 => QA (x :: xs) st2 := by
  unfold mCons
  simp only [wp_bind, wp_ok]
@[simp] theorem wp_tup {ms : MA} : (mTup ms ρ st).wp Q ↔ (ms ρ st).wp fun xs st1 => xs.length ≤ sizeLine ∧ Q (.tup xs) st1 := by
  unfold mTup
  simp only [wp_bind, wp_if, wp_ok, wp_bad]
  have : ∀ (xs : List A) (st1 : Store), (if xs.length ≤ sizeLine then Q (.tup xs) st1 else False) ↔ (xs.length ≤ sizeLine ∧ Q (.tup xs) st1) := fun xs st1 => by
    by_cases h : xs.length ≤ sizeLine <;> simp [h]
  simp only [this]
@[simp] theorem wp_lst {ms : MA} : (mLst ms ρ st).wp Q ↔ (ms ρ st).wp fun xs st1 => xs.length ≤ sizeLine ∧ Q (.ref st1.length) (st1 ++ [.lst xs]) := by
  unfold mLst
  simp only [wp_bind, wp_if, wp_ok, wp_bad]
  have : ∀ (xs : List A) (st1 : Store), (if xs.length ≤ sizeLine then Q (.ref st1.length) (st1 ++ [.lst xs]) else False) ↔ (xs.length ≤ sizeLine ∧ Q (.ref st1.length) (st1 ++ [.lst xs])) := fun xs st1 => by
    by_cases h : xs.length ≤ sizeLine <;> simp [h]
  simp only [this]
@[simp] theorem wp_ca {g : List A → Store → R A} {ms : MA} : (mCa g ms ρ st).wp Q ↔ (ms ρ st).wp fun xs st1 => (g xs st1).wp Q := by
  unfold mCa
  rw [wp_bind]
@[simp] theorem wp_call {m : MF} {ms : MA} : (mCall m ms ρ st).wp Q ↔ (ms ρ st).wp fun xs st1 => (m xs st1).wp Q := by
  unfold mCall
  rw [wp_bind]
variable {QO : Option Int → Store → Prop}
@[simp] theorem wp_noPart : (mNoPart ρ st).wp QO ↔ QO none st := Iff.rfl
@[simp] theorem wp_part {m : MX} : (mPart m ρ st).wp QO ↔ (m ρ st).wp fun x st1 => (getI x st1).wp fun i st2 => QO (some i) st2 := by
  unfold mPart
  simp only [wp_bind, wp_ok]
@[simp] theorem wp_sl {ma : MX} {ml mh : MO} : (mSl ma ml mh ρ st).wp Q ↔ (ma ρ st).wp fun x st1 => (ml ρ st1).wp fun lo st2 => (mh ρ st2).wp fun hi st3 => (slA x lo hi st3).wp Q := by
  unfold mSl
  simp only [wp_bind]
@[simp] theorem wp_bm {g : A → List A → Store → R A} {mo : MX} {ms : MA} : (mBm g mo ms ρ st).wp Q ↔ (mo ρ st).wp fun x st1 => isL x st1 = true ∧ (ms ρ st1).wp fun xs st2 => (g x xs st2).wp Q := by
  unfold mBm
  simp only [wp_bind, wp_if, wp_bad]
  have : ∀ (x : A) (st1 : Store), (if isL x st1 = true then (ms ρ st1).wp fun xs st2 => (g x xs st2).wp Q else False) ↔ (isL x st1 = true ∧ (ms ρ st1).wp fun xs st2 => (g x xs st2).wp Q) := fun x st1 => by
    by_cases h : isL x st1 = true <;> simp [h]
  simp only [this]
@[simp] theorem sp_set {i : Nat} {ma : MX} : (mSet i ma ρ st).wp N B C Rt ↔ (ma ρ st).wp fun a st1 => N (ρ.set i (some a)) st1 := by
  unfold mSet
  rw [wp_toS]
  rfl
@[simp] theorem sp_asg {tg : Tg} {ma : MX} : (mAsg tg ma ρ st).wp N B C Rt ↔ (ma ρ st).wp fun a st1 => ∃ ρ', asgT tg a ρ st1 = some ρ' ∧ N ρ' st1 := by
  unfold mAsg
  cases ma ρ st with
  | ok a st1 =>
    show SR.wp (match asgT tg a ρ st1 with
      | some ρ' => .nx ρ' st1
      | none => .bad) N B C Rt ↔ ∃ ρ', asgT tg a ρ st1 = some ρ' ∧ N ρ' st1
    cases asgT tg a ρ st1 <;> simp [SR.wp]
  | _ => rfl
@[simp] theorem sp_expr {ma : MX} : (mExpr ma ρ st).wp N B C Rt ↔ (ma ρ st).wp fun _ st1 => N ρ st1 := by
  unfold mExpr
  rw [wp_toS]
  rfl
@[simp] theorem sp_ret {ma : MX} : (mRet ma ρ st).wp N B C Rt ↔ (ma ρ st).wp Rt := by
  unfold mRet
  rw [wp_toS]
  rfl
@[simp] theorem sp_next : (mNext ρ st).wp N B C Rt ↔ N ρ st := Iff.rfl
@[simp] theorem sp_ifs {c : MT} {m1 m2 : MS} : (mIfS c m1 m2 ρ st).wp N B C Rt ↔ (c ρ st).wp fun b st1 => if b = true then (m1 ρ st1).wp N B C Rt else (m2 ρ st1).wp N B C Rt := by
  unfold mIfS
  rw [wp_toS]
  simp only [sp_if]
@[simp] theorem sp_put {mo mi ma : MX} : (mPut mo mi ma ρ st).wp N B C Rt ↔ (ma ρ st).wp fun d st1 => (mo ρ st1).wp fun o st2 => (mi ρ st2).wp fun i st3 => ∃ st4, setA o i d st3 = some st4 ∧ N ρ st4 := by
  unfold mPut
  cases ma ρ st with
  | ok d st1 =>
    show ((mo ρ st1).toS ρ _).wp N B C Rt ↔ (mo ρ st1).wp _
    cases mo ρ st1 with
    | ok o st2 =>
      show ((mi ρ st2).toS ρ _).wp N B C Rt ↔ (mi ρ st2).wp _
      cases mi ρ st2 with
      | ok i st3 =>
        show SR.wp (match setA o i d st3 with
          | some st4 => .nx ρ st4
          | none => .bad) N B C Rt ↔ ∃ st4, setA o i d st3 = some st4 ∧ N ρ st4
        cases setA o i d st3 <;> simp [SR.wp]
      | _ => rfl
    | _ => rfl
  | _ => rfl
@[simp] theorem sp_for {ms : Env → Store → R Src} {tg : Tg} {body : MS} : (mFor ms tg body ρ st).wp N B C Rt ↔ (ms ρ st).wp fun s st1 => (loopF s tg body (s.size st1 + 1) 0 ρ st1).wp N B C Rt := by
  unfold mFor
  rw [wp_toS]
@[simp] theorem wp_rng {ms : MA} {QS : Src → Store → Prop} : (mRng ms ρ st).wp QS ↔ (ms ρ st).wp fun xs st1 => (rngA xs st1).wp QS := by
  unfold mRng
  rw [wp_bind]
@[simp] theorem wp_src {ma : MX} {QS : Src → Store → Prop} : (mSrc ma ρ st).wp QS ↔ (ma ρ st).wp fun x st1 => (srcA x st1).wp QS := by
  unfold mSrc
  rw [wp_bind]
theorem loop_wp {s : Src} {tg : Tg} {body : MS} (n : Nat) (it : Nat → A) (I : Nat → Env → Store → Prop) (hat : ∀ i ρ st, I i ρ st → (i < n → s.at i st = some (some (it i))) ∧ (¬ i < n → s.at i st = some none))
    (hs : ∀ i ρ st, i < n → I i ρ st → ∃ ρ1, asgT tg (it i) ρ st = some ρ1 ∧ (body ρ1 st).wp (I (i + 1)) N (I (i + 1)) Rt) (hd : ∀ ρ st, I n ρ st → N ρ st) :
    ∀ (k i : Nat) (ρ : Env) (st : Store), i + k = n + 1 → i ≤ n → I i ρ st → (loopF s tg body k i ρ st).wp N B C Rt
  | 0, i, ρ, st, hk, hi, h => by omega
  | k + 1, i, ρ, st, hk, hle, h => by
    unfold loopF
    by_cases hi : i < n
    · rw [(hat i ρ st h).1 hi]
      obtain ⟨ρ1, e, hb⟩ := hs i ρ st hi h
      simp only [e]
      cases q : body ρ1 st with
      | nx ρ2 st2 => rw [q] at hb; exact loop_wp n it I hat hs hd k (i + 1) ρ2 st2 (by omega) (by omega) hb
      | ct ρ2 st2 => rw [q] at hb; exact loop_wp n it I hat hs hd k (i + 1) ρ2 st2 (by omega) (by omega) hb
      | bk ρ2 st2 => rw [q] at hb; exact hb
      | rt a st2 => rw [q] at hb; exact hb
      | er e ρ2 st2 => rw [q] at hb; exact hb.elim
      | bad => rw [q] at hb; exact hb.elim
    · rw [(hat i ρ st h).2 hi]
      have : i = n := by omega
      subst this
      exact hd ρ st h
theorem for_rng {tg : Tg} {body : MS} {lo : Int} {n : Nat} (I : Nat → Env → Store → Prop) (h0 : I 0 ρ st)
    (hs : ∀ i ρ st, i < n → I i ρ st → ∃ ρ1, asgT tg (.int (lo + (i : Nat))) ρ st = some ρ1 ∧ (body ρ1 st).wp (I (i + 1)) N (I (i + 1)) Rt) (hd : ∀ ρ st, I n ρ st → N ρ st) :
    (loopF (.rng lo n) tg body (Src.size (.rng lo n) st + 1) 0 ρ st).wp N B C Rt :=
  loop_wp n (fun i => .int (lo + (i : Nat))) I (fun i ρ st _ => ⟨fun h => by simp [Src.at, h], fun h => by simp [Src.at, h]⟩) hs hd _ _ _ _ (by simp [Src.size]) (Nat.zero_le _) h0
theorem for_vals {tg : Tg} {body : MS} {xs : List A} (I : Nat → Env → Store → Prop) (h0 : I 0 ρ st)
    (hs : ∀ i x ρ st, xs[i]? = some x → I i ρ st → ∃ ρ1, asgT tg x ρ st = some ρ1 ∧ (body ρ1 st).wp (I (i + 1)) N (I (i + 1)) Rt) (hd : ∀ ρ st, I xs.length ρ st → N ρ st) :
    (loopF (.vals xs) tg body (Src.size (.vals xs) st + 1) 0 ρ st).wp N B C Rt :=
  loop_wp xs.length (fun i => xs.getD i .non) I (fun i ρ st _ => ⟨fun h => by simp [Src.at, h], fun h => by simp [Src.at]; omega⟩) (fun i ρ st h q => hs i _ ρ st (by simp [h]) q) hd _ _ _ _ (by simp [Src.size]) (Nat.zero_le _) h0
theorem for_lst {tg : Tg} {body : MS} {xs : List A} {r : Nat} (I : Nat → Env → Store → Prop) (hx : stL st r = some xs) (h0 : I 0 ρ st) (hl : ∀ i ρ st, I i ρ st → stL st r = some xs)
    (hs : ∀ i x ρ st, xs[i]? = some x → I i ρ st → ∃ ρ1, asgT tg x ρ st = some ρ1 ∧ (body ρ1 st).wp (I (i + 1)) N (I (i + 1)) Rt) (hd : ∀ ρ st, I xs.length ρ st → N ρ st) :
    (loopF (.lst r) tg body (Src.size (.lst r) st + 1) 0 ρ st).wp N B C Rt :=
  loop_wp xs.length (fun i => xs.getD i .non) I (fun i ρ st q => ⟨fun h => by simp [Src.at, hl i ρ st q, h], fun h => by simp [Src.at, hl i ρ st q]; omega⟩) (fun i ρ st h q => hs i _ ρ st (by simp [h]) q) hd _ _ _ _ (by simp [Src.size, hx]) (Nat.zero_le _) h0
@[simp] theorem wp_yes : (mYes ρ st).wp QB ↔ QB true st := Iff.rfl
@[simp] theorem wipeA_nil {ρ : Env} : wipeA ρ [] = ρ := rfl
@[simp] theorem wipeA_cons {ρ : Env} {i : Nat} {l : List Nat} : wipeA ρ (i :: l) = (wipeA ρ l).set i none := rfl
@[simp] theorem wp_lc {mi : Env → Store → R Src} {tg : Tg} {own : List Nat} {tt : MT} {elt : MX} : (mLc mi tg own tt elt ρ st).wp Q ↔ (mi ρ st).wp fun s st1 => (loopC s tg own tt elt (wipeA ρ own) (s.size st1 + 1) 0 st1 []).wp fun xs st2 => Q (.ref st2.length) (st2 ++ [.lst xs]) := by
  simp only [mLc, wp_bind, wp_ok]
theorem lc_wp {s : Src} {tg : Tg} {own : List Nat} {tt : MT} {elt : MX} {ρ0 : Env} {QL : List A → Store → Prop} (n : Nat) (it : Nat → A) (I : Nat → Store → List A → Prop) (hat : ∀ i st acc, I i st acc → (i < n → s.at i st = some (some (it i))) ∧ (¬ i < n → s.at i st = some none))
    (hs : ∀ i st acc, i < n → I i st acc → ∃ ρ1, asgT tg (it i) ρ0 st = some ρ1 ∧ (tt ρ1 st).wp fun b st1 => if b = true then (elt ρ1 st1).wp fun y st2 => acc.length < sizeLine ∧ I (i + 1) st2 (acc ++ [y]) else I (i + 1) st1 acc)
    (hd : ∀ st acc, I n st acc → QL acc st) : ∀ (k i : Nat) (st : Store) (acc : List A), i + k = n + 1 → i ≤ n → I i st acc → (loopC s tg own tt elt ρ0 k i st acc).wp QL
  | 0, i, st, acc, hk, hi, h => by omega
  | k + 1, i, st, acc, hk, hle, h => by
    unfold loopC
    by_cases hi : i < n
    · rw [(hat i st acc h).1 hi]
      obtain ⟨ρ1, e, hb⟩ := hs i st acc hi h
      simp only [e]
      obtain ⟨b, st1, e1, hb⟩ := R.wp.ex hb
      simp only [e1]
      cases b with
      | false =>
        simp only [Bool.false_eq_true, if_false] at hb ⊢
        exact lc_wp n it I hat hs hd k (i + 1) st1 acc (by omega) (by omega) hb
      | true =>
        simp only [if_true] at hb ⊢
        obtain ⟨y, st2, e2, hz, hb⟩ := R.wp.ex hb
        simp only [e2, if_pos hz]
        exact lc_wp n it I hat hs hd k (i + 1) st2 (acc ++ [y]) (by omega) (by omega) hb
    · rw [(hat i st acc h).2 hi]
      have : i = n := by omega
      subst this
      exact hd st acc h
theorem lc_rng {tg : Tg} {own : List Nat} {tt : MT} {elt : MX} {ρ0 : Env} {lo : Int} {n : Nat} {QL : List A → Store → Prop} (I : Nat → Store → List A → Prop) (h0 : I 0 st [])
    (hs : ∀ i st acc, i < n → I i st acc → ∃ ρ1, asgT tg (.int (lo + (i : Nat))) ρ0 st = some ρ1 ∧ (tt ρ1 st).wp fun b st1 => if b = true then (elt ρ1 st1).wp fun y st2 => acc.length < sizeLine ∧ I (i + 1) st2 (acc ++ [y]) else I (i + 1) st1 acc)
    (hd : ∀ st acc, I n st acc → QL acc st) : (loopC (.rng lo n) tg own tt elt ρ0 (Src.size (.rng lo n) st + 1) 0 st []).wp QL :=
  lc_wp n (fun i => .int (lo + (i : Nat))) I (fun i st acc _ => ⟨fun h => by simp [Src.at, h], fun h => by simp [Src.at, h]⟩) hs hd _ _ _ _ (by simp [Src.size]) (Nat.zero_le _) h0
theorem lc_lst {tg : Tg} {own : List Nat} {tt : MT} {elt : MX} {ρ0 : Env} {xs : List A} {r : Nat} {QL : List A → Store → Prop} (I : Nat → Store → List A → Prop) (hx : stL st r = some xs) (h0 : I 0 st []) (hl : ∀ i st acc, I i st acc → stL st r = some xs)
    (hs : ∀ i x st acc, xs[i]? = some x → I i st acc → ∃ ρ1, asgT tg x ρ0 st = some ρ1 ∧ (tt ρ1 st).wp fun b st1 => if b = true then (elt ρ1 st1).wp fun y st2 => acc.length < sizeLine ∧ I (i + 1) st2 (acc ++ [y]) else I (i + 1) st1 acc)
    (hd : ∀ st acc, I xs.length st acc → QL acc st) : (loopC (.lst r) tg own tt elt ρ0 (Src.size (.lst r) st + 1) 0 st []).wp QL :=
  lc_wp xs.length (fun i => xs.getD i .non) I (fun i st acc q => ⟨fun h => by simp [Src.at, hl i st acc q, h], fun h => by simp [Src.at, hl i st acc q]; omega⟩) (fun i st acc h q => hs i _ st acc (by simp [h]) q) hd _ _ _ _ (by simp [Src.size, hx]) (Nat.zero_le _) h0
end
def Grown (st st' : Store) : Prop := ∃ g, st' = st ++ g
theorem Grown.refl (st : Store) : Grown st st := ⟨[], by simp⟩
theorem Grown.trans {a b c : Store} (h : Grown a b) (k : Grown b c) : Grown a c := by
  obtain ⟨g, rfl⟩ := h
  obtain ⟨g', rfl⟩ := k
  exact ⟨g ++ g', by simp⟩
theorem Grown.one (st : Store) (o : Ob) : Grown st (st ++ [o]) := ⟨[o], rfl⟩
theorem Grown.get {st st' : Store} (h : Grown st st') {i : Nat} {o : Ob} (e : st[i]? = some o) : st'[i]? = some o := by
  obtain ⟨g, rfl⟩ := h
  rw [List.getElem?_append_left (List.getElem?_eq_some_iff.mp e).1]
  exact e
theorem Grown.stL {st st' : Store} (h : Grown st st') {i : Nat} {xs : List A} (e : ML.stL st i = some xs) : ML.stL st' i = some xs := by
  unfold ML.stL
  rw [h.get (stL_eq e)]
theorem stL_of {st : Store} {i : Nat} {xs : List A} (e : st[i]? = some (.lst xs)) : stL st i = some xs := by
  unfold stL
  rw [e]
@[simp] theorem stL_new {st : Store} {xs : List A} : stL (st ++ [.lst xs]) st.length = some xs := stL_of (by simp)
section
variable {Q : A → Store → Prop} {QB : Bool → Store → Prop} {QI : Int → Store → Prop} {QS : Src → Store → Prop} {st : Store} {i j k : Int} {x y : Str} {xs ys : List A} {r q : Nat} {b c : Bool} {a d : A}
theorem w_if {p : Prop} [Decidable p] {α : Type} {v : α} {Q : α → Store → Prop} : (if p then R.ok v st else R.bad).wp Q ↔ p ∧ Q v st := by
  by_cases h : p <;> simp [h, R.wp]
@[simp] theorem w_add : (addA (.int i) (.int j) st).wp Q ↔ Q (.int (i + j)) st := Iff.rfl
@[simp] theorem w_addS : (addA (.str x) (.str y) st).wp Q ↔ x.length + y.length ≤ sizeLine ∧ Q (.str (x ++ y)) st := w_if
@[simp] theorem w_addT : (addA (.tup xs) (.tup ys) st).wp Q ↔ xs.length + ys.length ≤ sizeLine ∧ Q (.tup (xs ++ ys)) st := w_if
@[simp] theorem w_addL : (addA (.ref r) (.ref q) st).wp Q ↔ ∃ xs, stL st r = some xs ∧ ∃ ys, stL st q = some ys ∧ xs.length + ys.length ≤ sizeLine ∧ Q (.ref st.length) (st ++ [.lst (xs ++ ys)]) := by
  simp only [addA, stL]
  cases st[r]? with
  | none => simp [R.wp]
  | some o =>
    cases o with
    | oth u => simp [R.wp]
    | lst xs =>
      cases st[q]? with
      | none => simp [R.wp]
      | some o2 =>
        cases o2 with
        | oth u => simp [R.wp]
        | lst ys => simp [w_if]
@[simp] theorem w_sub : (subA (.int i) (.int j) st).wp Q ↔ Q (.int (i - j)) st := Iff.rfl
@[simp] theorem w_mul : (mulA (.int i) (.int j) st).wp Q ↔ CMulA i j ∧ Q (.int (i * j)) st := w_if
@[simp] theorem w_mulL : (mulA (.ref r) (.int k) st).wp Q ↔ ∃ xs, stL st r = some xs ∧ (-(2 ^ 63) ≤ k ∧ k < 2 ^ 63 ∧ xs.length * k.toNat ≤ sizeLine) ∧ Q (.ref st.length) (st ++ [.lst (List.replicate k.toNat xs).flatten]) := by
  simp only [mulA, stL]
  cases st[r]? with
  | none => simp [R.wp]
  | some o =>
    cases o with
    | oth u => simp [R.wp]
    | lst xs => simp only [w_if, Option.some.injEq, exists_eq_left']
@[simp] theorem w_mulT : (mulA (.tup xs) (.int k) st).wp Q ↔ (0 ≤ k ∧ k ≤ 1000000 ∧ xs.length * k.toNat ≤ sizeLine) ∧ Q (.tup (List.replicate k.toNat xs).flatten) st := w_if
@[simp] theorem w_fdiv : (fdivA (.int i) (.int j) st).wp Q ↔ (0 < j ∧ j.natAbs.log2 < 9000) ∧ Q (.int (i / j)) st := w_if
@[simp] theorem w_mod : (modA (.int i) (.int j) st).wp Q ↔ 0 < j ∧ Q (.int (i % j)) st := w_if
@[simp] theorem w_pow : (powA (.int i) (.int j) st).wp Q ↔ (0 ≤ j ∧ j ≤ 1000000 ∧ i.natAbs < 2 ^ 64) ∧ Q (.int (i ^ j.toNat)) st := w_if
@[simp] theorem w_neg : (negA (.int i) st).wp Q ↔ Q (.int (-i)) st := Iff.rfl
@[simp] theorem w_lt : (ltA (.int i) (.int j) st).wp Q ↔ Q (.bl (decide (i < j))) st := Iff.rfl
@[simp] theorem w_gt : (gtA (.int i) (.int j) st).wp Q ↔ Q (.bl (decide (j < i))) st := Iff.rfl
@[simp] theorem w_le : (leA (.int i) (.int j) st).wp Q ↔ Q (.bl (decide (i ≤ j))) st := Iff.rfl
@[simp] theorem w_ltS : (ltA (.str x) (.str y) st).wp Q ↔ Q (.bl (decide (x.cps.toList < y.cps.toList))) st := Iff.rfl
@[simp] theorem w_gtS : (gtA (.str x) (.str y) st).wp Q ↔ Q (.bl (decide (y.cps.toList < x.cps.toList))) st := Iff.rfl
@[simp] theorem w_eq : (eqA (.int i) (.int j) st).wp Q ↔ Q (.bl (decide (i = j))) st := Iff.rfl
@[simp] theorem w_eqS : (eqA (.str x) (.str y) st).wp Q ↔ Q (.bl (decide (x = y))) st := Iff.rfl
@[simp] theorem w_eqB : (eqA (.bl b) (.bl c) st).wp Q ↔ Q (.bl (decide (b = c))) st := Iff.rfl
@[simp] theorem w_eqN : (eqA .non .non st).wp Q ↔ Q (.bl true) st := Iff.rfl
@[simp] theorem w_eqIS : (eqA (.int i) (.str y) st).wp Q ↔ Q (.bl false) st := Iff.rfl
@[simp] theorem w_eqSI : (eqA (.str x) (.int j) st).wp Q ↔ Q (.bl false) st := Iff.rfl
@[simp] theorem w_ne : (neA (.int i) (.int j) st).wp Q ↔ Q (.bl (!decide (i = j))) st := Iff.rfl
@[simp] theorem w_neS : (neA (.str x) (.str y) st).wp Q ↔ Q (.bl (!decide (x = y))) st := Iff.rfl
@[simp] theorem w_neB : (neA (.bl b) (.bl c) st).wp Q ↔ Q (.bl (!decide (b = c))) st := Iff.rfl
@[simp] theorem w_isN : (isNA a .non st).wp Q ↔ Q (.bl (isNonA a)) st := by cases a <;> rfl
@[simp] theorem isNon_non : isNonA .non = true := rfl
@[simp] theorem isNon_int : isNonA (.int i) = false := rfl
@[simp] theorem isNon_str : isNonA (.str x) = false := rfl
@[simp] theorem isNon_tup : isNonA (.tup xs) = false := rfl
@[simp] theorem isNon_bl : isNonA (.bl b) = false := rfl
@[simp] theorem isNon_ref : isNonA (.ref r) = false := rfl
@[simp] theorem w_truN : (truA .non st).wp QB ↔ QB false st := Iff.rfl
@[simp] theorem w_truB : (truA (.bl b) st).wp QB ↔ QB b st := Iff.rfl
@[simp] theorem w_truI : (truA (.int i) st).wp QB ↔ QB (i != 0) st := Iff.rfl
@[simp] theorem w_truS : (truA (.str x) st).wp QB ↔ x.length ≤ sizeLine ∧ QB ((x.length : Int) != 0) st := w_if
@[simp] theorem w_truT : (truA (.tup xs) st).wp QB ↔ QB (!xs.isEmpty) st := Iff.rfl
@[simp] theorem w_truL : (truA (.ref r) st).wp QB ↔ ∃ xs, stL st r = some xs ∧ QB (!xs.isEmpty) st := by
  simp only [truA, stL]
  cases st[r]? with
  | none => simp [R.wp]
  | some o =>
    cases o with
    | oth u => simp [R.wp]
    | lst xs => simp [R.wp]
@[simp] theorem w_getB : (getB (.bl b) st).wp QB ↔ QB b st := Iff.rfl
@[simp] theorem w_getI : (getI (.int i) st).wp QI ↔ QI i st := Iff.rfl
@[simp] theorem w_ixT : (ixA (.tup xs) (.int i) st).wp Q ↔ ∃ d, atI xs i = some d ∧ Q d st := by
  simp only [ixA]
  cases atI xs i <;> simp [R.wp]
@[simp] theorem w_ixC : (ixA (.scr xs) (.int i) st).wp Q ↔ ∃ d, atI xs i = some d ∧ Q d st := by
  simp only [ixA]
  cases atI xs i <;> simp [R.wp]
@[simp] theorem w_ixL : (ixA (.ref r) (.int i) st).wp Q ↔ ∃ xs, stL st r = some xs ∧ ∃ d, atI xs i = some d ∧ Q d st := by
  simp only [ixA, stL]
  cases st[r]? with
  | none => simp [R.wp]
  | some o =>
    cases o with
    | oth u => simp [R.wp]
    | lst xs =>
      simp only [Option.some.injEq, exists_eq_left']
      cases atI xs i <;> simp [R.wp]
@[simp] theorem w_ixS : (ixA (.str x) (.int i) st).wp Q ↔ x.length ≤ sizeLine ∧ ∃ c, atI x.cps.toList i = some c ∧ Q (.str ⟨#[c]⟩) st := by
  simp only [ixA]
  by_cases h : x.length ≤ sizeLine
  · rw [if_pos h]
    cases atI x.cps.toList i <;> simp [R.wp, h]
  · rw [if_neg h]
    simp [R.wp, h]
@[simp] theorem w_abs : (absA [.int i] st).wp Q ↔ Q (.int (if i < 0 then -i else i)) st := Iff.rfl
@[simp] theorem w_int : (intA [.int i] st).wp Q ↔ Q (.int i) st := Iff.rfl
@[simp] theorem w_intB : (intA [.bl b] st).wp Q ↔ Q (.int (if b then 1 else 0)) st := Iff.rfl
@[simp] theorem w_max2 : (maxA [.int i, .int j] st).wp Q ↔ Q (.int (if j > i then j else i)) st := Iff.rfl
@[simp] theorem w_min2 : (minA [.int i, .int j] st).wp Q ↔ Q (.int (if j < i then j else i)) st := Iff.rfl
@[simp] theorem w_lenS : (lenA [.str x] st).wp Q ↔ x.length ≤ sizeLine ∧ Q (.int (x.length : Nat)) st := w_if
@[simp] theorem w_lenT : (lenA [.tup xs] st).wp Q ↔ Q (.int (xs.length : Nat)) st := Iff.rfl
@[simp] theorem w_lenC : (lenA [.scr xs] st).wp Q ↔ Q (.int (xs.length : Nat)) st := Iff.rfl
theorem itemsL_ref : itemsL (.ref r) st = stL st r := rfl
theorem itemsQ_ref : itemsQ (.ref r) st = stL st r := rfl
@[simp] theorem w_lenL : (lenA [.ref r] st).wp Q ↔ ∃ xs, stL st r = some xs ∧ Q (.int (xs.length : Nat)) st := by
  simp only [lenA]
  simp only [itemsQ_ref]
  cases stL st r <;> simp [R.wp]
@[simp] theorem w_listT : (listA [.tup xs] st).wp Q ↔ Q (.ref st.length) (st ++ [.lst xs]) := Iff.rfl
@[simp] theorem w_listC : (listA [.scr xs] st).wp Q ↔ Q (.ref st.length) (st ++ [.lst xs]) := Iff.rfl
@[simp] theorem w_listL : (listA [.ref r] st).wp Q ↔ ∃ xs, stL st r = some xs ∧ Q (.ref st.length) (st ++ [.lst xs]) := by
  simp only [listA]
  simp only [itemsQ_ref]
  cases stL st r <;> simp [R.wp]
@[simp] theorem w_tupT : (tupleA [.tup xs] st).wp Q ↔ Q (.tup xs) st := Iff.rfl
@[simp] theorem w_tupC : (tupleA [.scr xs] st).wp Q ↔ Q (.tup xs) st := Iff.rfl
@[simp] theorem w_tupL : (tupleA [.ref r] st).wp Q ↔ ∃ xs, stL st r = some xs ∧ Q (.tup xs) st := by
  simp only [tupleA]
  simp only [itemsL_ref]
  cases stL st r <;> simp [R.wp]
@[simp] theorem w_isi {T : Ty} (h : isTy T a st = some b) : (isiA T a st).wp Q ↔ Q (.bl b) st := by
  unfold isiA
  rw [h]
  exact Iff.rfl
theorem w_isi' {T : Ty} : (isiA T a st).wp Q ↔ ∃ b, isTy T a st = some b ∧ Q (.bl b) st := by
  unfold isiA
  cases isTy T a st <;> simp [R.wp]
@[simp] theorem ty_tt : isTy .tup (.tup xs) st = some true := rfl
@[simp] theorem ty_ti : isTy .tup (.int i) st = some false := rfl
@[simp] theorem ty_ts : isTy .tup (.str x) st = some false := rfl
@[simp] theorem ty_tn : isTy .tup .non st = some false := rfl
@[simp] theorem ty_tb : isTy .tup (.bl b) st = some false := rfl
@[simp] theorem ty_st : isTy .str (.tup xs) st = some false := rfl
@[simp] theorem ty_si : isTy .str (.int i) st = some false := rfl
@[simp] theorem ty_ss : isTy .str (.str x) st = some true := rfl
@[simp] theorem ty_sn : isTy .str .non st = some false := rfl
@[simp] theorem ty_sb : isTy .str (.bl b) st = some false := rfl
@[simp] theorem ty_it : isTy .int (.tup xs) st = some false := rfl
@[simp] theorem ty_ii : isTy .int (.int i) st = some true := rfl
@[simp] theorem ty_is : isTy .int (.str x) st = some false := rfl
@[simp] theorem ty_in : isTy .int .non st = some false := rfl
@[simp] theorem ty_ib : isTy .int (.bl b) st = some true := rfl
@[simp] theorem ty_bt : isTy .bool (.tup xs) st = some false := rfl
@[simp] theorem ty_bi : isTy .bool (.int i) st = some false := rfl
@[simp] theorem ty_bs : isTy .bool (.str x) st = some false := rfl
@[simp] theorem ty_bn : isTy .bool .non st = some false := rfl
@[simp] theorem ty_bb : isTy .bool (.bl b) st = some true := rfl
@[simp] theorem isL_ref : isL (.ref r) st = (stL st r).isSome := by
  simp only [isL, stL]
  cases st[r]? with
  | none => rfl
  | some o => cases o <;> rfl
@[simp] theorem w_extendT {ys : List A} : (extendA (.ref r) [.tup ys] st).wp Q ↔ ∃ xs, stL st r = some xs ∧ xs.length + ys.length ≤ sizeLine ∧ Q .non (st.set r (.lst (xs ++ ys))) := by
  simp only [extendA, stL]
  cases st[r]? with
  | none => simp [R.wp]
  | some o =>
    cases o with
    | oth u => simp [R.wp]
    | lst xs => simp only [w_if, Option.some.injEq, exists_eq_left']
@[simp] theorem w_append : (appendA (.ref r) [a] st).wp Q ↔ ∃ xs, stL st r = some xs ∧ xs.length < sizeLine ∧ Q .non (st.set r (.lst (xs ++ [a]))) := by
  simp only [appendA, stL]
  cases st[r]? with
  | none => simp [R.wp]
  | some o =>
    cases o with
    | oth u => simp [R.wp]
    | lst xs => simp only [w_if, Option.some.injEq, exists_eq_left']
@[simp] theorem w_rng1 : (rngA [.int j] st).wp QS ↔ (-(2 ^ 62) ≤ j ∧ j < 2 ^ 62) ∧ QS (.rng 0 j.toNat) st := w_if
@[simp] theorem w_rng2 : (rngA [.int i, .int j] st).wp QS ↔ (-(2 ^ 62) ≤ i ∧ i < 2 ^ 62 ∧ -(2 ^ 62) ≤ j ∧ j < 2 ^ 62) ∧ QS (.rng i (j - i).toNat) st := w_if
@[simp] theorem w_srcT : (srcA (.tup xs) st).wp QS ↔ QS (.vals xs) st := Iff.rfl
@[simp] theorem w_srcC : (srcA (.scr xs) st).wp QS ↔ QS (.vals xs) st := Iff.rfl
@[simp] theorem w_srcS : (srcA (.str x) st).wp QS ↔ QS (.chars x) st := Iff.rfl
@[simp] theorem w_srcL : (srcA (.ref r) st).wp QS ↔ (stL st r).isSome = true ∧ QS (.lst r) st := by
  simp only [srcA, stL]
  cases st[r]? with
  | none => simp [R.wp]
  | some o =>
    cases o with
    | oth u => simp [R.wp]
    | lst xs => simp [R.wp]
@[simp] theorem w_slT {lo hi : Option Int} : (slA (.tup xs) lo hi st).wp Q ↔ Q (.tup (cutA xs lo hi)) st := Iff.rfl
@[simp] theorem w_slL {lo hi : Option Int} : (slA (.ref r) lo hi st).wp Q ↔ ∃ xs, stL st r = some xs ∧ Q (.ref st.length) (st ++ [.lst (cutA xs lo hi)]) := by
  simp only [slA, stL]
  cases st[r]? with
  | none => simp [R.wp]
  | some o =>
    cases o with
    | oth u => simp [R.wp]
    | lst xs => simp [R.wp]
@[simp] theorem w_slS {lo hi : Option Int} : (slA (.str x) lo hi st).wp Q ↔ x.length ≤ sizeLine ∧ Q (.str (L2.cutS x lo hi)) st := w_if
@[simp] theorem ex_setA {N : Store → Prop} : (∃ st4, setA (.ref r) (.int k) d st = some st4 ∧ N st4) ↔ ∃ xs, stL st r = some xs ∧ ∃ j, L2.ixN xs.length k = some j ∧ N (st.set r (.lst (xs.set j d))) := by
  simp only [setA, stL]
  cases st[r]? with
  | none => simp
  | some o =>
    cases o with
    | oth u => simp
    | lst xs =>
      simp only [Option.some.injEq, exists_eq_left']
      cases L2.ixN xs.length k <;> simp
@[simp] theorem stL_set_some {st : Store} {r : Nat} {ys : List A} (h : (stL st r).isSome = true) : stL (st.set r (.lst ys)) r = some ys := by
  obtain ⟨xs, e⟩ := Option.isSome_iff_exists.mp h
  have := (List.getElem?_eq_some_iff.mp (stL_eq e)).1
  unfold stL
  rw [List.getElem?_set_self this]
theorem stL_set_self {st : Store} {r : Nat} {xs ys : List A} (h : stL st r = some xs) : stL (st.set r (.lst ys)) r = some ys := by
  have := (List.getElem?_eq_some_iff.mp (stL_eq h)).1
  unfold stL
  rw [List.getElem?_set_self this]
@[simp] theorem stL_set_ne {st : Store} {r q : Nat} {ys : List A} (h : r ≠ q) : stL (st.set r (.lst ys)) q = stL st q := by
  unfold stL
  rw [List.getElem?_set_ne h]
@[simp] theorem stL_pre {st g : Store} {r : Nat} (h : (stL st r).isSome = true) : stL (st ++ g) r = stL st r := by
  obtain ⟨xs, e⟩ := Option.isSome_iff_exists.mp h
  have e' := stL_eq e
  rw [e]
  exact stL_of (by rw [List.getElem?_append_left (List.getElem?_eq_some_iff.mp e').1, e'])
@[simp] theorem stL_end {st g : Store} : stL (st ++ g) st.length = stL g 0 := by
  unfold stL
  rw [List.getElem?_append_right (Nat.le_refl _), Nat.sub_self]
@[simp] theorem stL_end1 {st g : Store} {k : Nat} : stL (st ++ g) (st.length + k) = stL g k := by
  unfold stL
  rw [List.getElem?_append_right (Nat.le_add_right _ _), Nat.add_sub_cancel_left]
@[simp] theorem stL_end2 {st g : Store} {k m : Nat} : stL (st ++ g) (st.length + k + m) = stL g (k + m) := by
  rw [Nat.add_assoc]
  exact stL_end1
@[simp] theorem stL_z {xs : List A} {g : Store} : stL (.lst xs :: g) 0 = some xs := rfl
@[simp] theorem stL_s {o : Ob} {g : Store} {k : Nat} : stL (o :: g) (k + 1) = stL g k := by
  unfold stL
  rw [List.getElem?_cons_succ]
end
@[simp] theorem ixN_nn {n : Nat} {i : Int} (h : 0 ≤ i) : ixN n i = if i < n then some i.toNat else none := by
  unfold ixN
  rw [if_pos h]
@[simp] theorem atI_nn {α : Type} {xs : List α} {i : Int} (h : 0 ≤ i) : atI xs i = xs[i.toNat]? := by
  unfold atI
  rw [ixN_nn h]
  by_cases c : i < xs.length
  · rw [if_pos c]
    rfl
  · rw [if_neg c]
    exact (List.getElem?_eq_none (by omega)).symm
theorem ex_eq {α : Type} {p : α → Prop} {v : α} : (∃ a, v = a ∧ p a) ↔ p v := exists_eq_left'
@[simp] theorem cut_to {α : Type} {xs : List α} {j : Int} (h : 0 ≤ j) : cutA xs none (some j) = xs.take j.toNat := by
  unfold cutA HT.sIx
  have : ¬ j < 0 := by omega
  simp only [this, if_false, Nat.sub_zero, List.drop_zero]
  by_cases c : j.toNat ≤ xs.length
  · rw [Nat.min_eq_left c]
  · rw [Nat.min_eq_right (by omega), List.take_of_length_le (Nat.le_refl _), List.take_of_length_le (by omega)]
@[simp] theorem cut_from {α : Type} {xs : List α} {i : Int} (h : 0 ≤ i) : cutA xs (some i) none = xs.drop i.toNat := by
  unfold cutA HT.sIx
  have : ¬ i < 0 := by omega
  simp only [this, if_false]
  rw [List.take_of_length_le (by rw [List.length_drop]; exact Nat.le_refl _)]
  by_cases c : i.toNat ≤ xs.length
  · rw [Nat.min_eq_left c]
  · rw [Nat.min_eq_right (by omega), List.drop_of_length_le (Nat.le_refl _), List.drop_of_length_le (by omega)]
@[simp] theorem cut_mid {α : Type} {xs : List α} {i j : Int} (h : 0 ≤ i) (h2 : 0 ≤ j) : cutA xs (some i) (some j) = (xs.take j.toNat).drop i.toNat := by
  unfold cutA HT.sIx
  have q1 : ¬ i < 0 := by omega
  have q2 : ¬ j < 0 := by omega
  simp only [q1, q2, if_false]
  refine List.ext_getElem? fun k => ?_
  simp only [List.getElem?_take, List.getElem?_drop]
  by_cases c : k < min j.toNat xs.length - min i.toNat xs.length
  · have e : min i.toNat xs.length = i.toNat := by omega
    rw [if_pos c, e, if_pos (by omega)]
  · rw [if_neg c]
    by_cases d : i.toNat + k < j.toNat
    · rw [if_pos d, List.getElem?_eq_none (by omega)]
    · rw [if_neg d]
@[simp] theorem cut_all' {α : Type} {xs : List α} : cutA xs none none = xs := by
  unfold cutA HT.sIx
  simp
@[simp] theorem size_eq : sizeLine = 16777216 := PySem.sizeLine_eq
end ML
namespace Law
open PySem L2 ML
def m_law_tape : MF := mFn 3 1 (mSeq (mSet 1 (mC (.int 7)))
    (mSeq (mFor (mSrc (mVar 0)) (.one 2) (mSet 1 (mBin modA (mCa intA (mCons (mBin addA (mBin mulA (mVar 1) (mC (.int 31))) (mCa absA (mCons (mCa intA (mCons (mVar 2) mNil)) mNil))) mNil)) (mC (.int 2147483647)))))
    (mRet (mLst (mCons (mCa listA (mCons (mVar 0) mNil)) (mCons (mC (.int 0)) (mCons (mC (.int 0)) (mCons (mVar 1) mNil))))))))
def m_law_draw : MF := mFn 4 2 (mSeq (mIfS (mGB (mBin eqA (mBin ixA (mVar 0) (mC (.int 2))) (mC (.int 0)))) (mSeq (mSet 2 (mBin ixA (mVar 0) (mC (.int 1))))
    (mSeq (mSet 3 (mC (.int 0)))
    (mSeq (mIfS (mGB (mBin ltA (mVar 2) (mCa lenA (mCons (mBin ixA (mVar 0) (mC (.int 0))) mNil)))) (mSet 3 (mCa absA (mCons (mCa intA (mCons (mBin ixA (mBin ixA (mVar 0) (mC (.int 0))) (mVar 2)) mNil)) mNil))) (mSeq (mPut (mVar 0) (mC (.int 3)) (mBin modA (mCa intA (mCons (mBin addA (mBin addA (mBin mulA (mBin ixA (mVar 0) (mC (.int 3))) (mC (.int 48271))) (mVar 2)) (mC (.int 1))) mNil)) (mC (.int 2147483647))))
    (mSet 3 (mBin ixA (mVar 0) (mC (.int 3))))))
    (mSeq (mPut (mVar 0) (mC (.int 1)) (mBin addA (mVar 2) (mC (.int 1))))
    (mSeq (mIfS (mGB (mBin ltA (mVar 3) (mBin powA (mC (.int 10)) (mC (.int 18))))) (mSeq (mSet 3 (mBin modA (mCa intA (mCons (mBin addA (mBin addA (mBin mulA (mVar 3) (mC (.int 48271))) (mBin mulA (mVar 2) (mC (.int 69621)))) (mC (.int 5))) mNil)) (mC (.int 2147483647))))
    (mSeq (mSet 3 (mBin modA (mCa intA (mCons (mBin mulA (mVar 3) (mC (.int 69621))) mNil)) (mC (.int 2147483629))))
    (mRet (mBin modA (mCa intA (mCons (mVar 3) mNil)) (mCa maxA (mCons (mVar 1) (mCons (mC (.int 1)) mNil))))))) mNext)
    (mPut (mVar 0) (mC (.int 2)) (mVar 3))))))) mNext)
    (mSeq (mSet 3 (mBin ixA (mVar 0) (mC (.int 2))))
    (mSeq (mPut (mVar 0) (mC (.int 2)) (mBin fdivA (mVar 3) (mCa maxA (mCons (mVar 1) (mCons (mC (.int 2)) mNil)))))
    (mRet (mBin modA (mCa intA (mCons (mVar 3) mNil)) (mCa maxA (mCons (mVar 1) (mCons (mC (.int 1)) mNil))))))))
structure TpOk (st : Store) : Prop where
  ex : ∃ (ns : List Int) (p r t : Int), 0 ≤ p ∧ st[0]? = some (.lst (ns.map .int)) ∧ st[1]? = some (.lst [.ref 0, .int p, .int r, .int t])
structure Kp (st st' : Store) : Prop where
  len : st.length ≤ st'.length
  get : ∀ i, 1 < i → i < st.length → st'[i]? = st[i]?
theorem Kp.refl (st : Store) : Kp st st := ⟨Nat.le_refl _, fun _ _ _ => rfl⟩
theorem Kp.trans {a b c : Store} (h : Kp a b) (k : Kp b c) : Kp a c := ⟨Nat.le_trans h.len k.len, fun i h1 h2 => by rw [k.get i h1 (Nat.lt_of_lt_of_le h2 h.len), h.get i h1 h2]⟩
theorem Kp.grown {a b : Store} (h : Grown a b) : Kp a b := by
  obtain ⟨g, rfl⟩ := h
  exact ⟨by simp, fun i _ h => List.getElem?_append_left h⟩
theorem Kp.lst {a b : Store} (h : Kp a b) {i : Nat} {o : Ob} (hi : 1 < i) (e : a[i]? = some o) : b[i]? = some o := by
  rw [h.get i hi (List.getElem?_eq_some_iff.mp e).1]
  exact e
theorem Kp.stL {a b : Store} (h : Kp a b) {i : Nat} {xs : List A} (hi : 1 < i) (e : ML.stL a i = some xs) : ML.stL b i = some xs := stL_of (h.lst hi (stL_eq e))
theorem TpOk.grown {a b : Store} (t : TpOk a) (h : Grown a b) : TpOk b := by
  obtain ⟨ns, p, r, q, h0, h1, h2⟩ := t.ex
  exact ⟨ns, p, r, q, h0, h.get h1, h.get h2⟩
theorem TpOk.len {a : Store} (t : TpOk a) : 2 ≤ a.length := by
  obtain ⟨ns, p, r, q, h0, h1, h2⟩ := t.ex
  exact (List.getElem?_eq_some_iff.mp h2).1
theorem tape_set {st : Store} {ns : List Int} {p r q : Int} (h0 : 0 ≤ p) (h1 : st[0]? = some (.lst (ns.map .int))) (h2 : st[1]?.isSome = true) : TpOk (st.set 1 (.lst [.ref 0, .int p, .int r, .int q])) := by
  obtain ⟨o, e⟩ := Option.isSome_iff_exists.mp h2
  refine ⟨ns, p, r, q, h0, ?_, ?_⟩
  · rw [List.getElem?_set_ne (by decide)]
    exact h1
  · rw [List.getElem?_set_self (List.getElem?_eq_some_iff.mp e).1]
theorem kp_set {st : Store} {o : Ob} : Kp st (st.set 1 o) := ⟨by simp, fun i h _ => by rw [List.getElem?_set_ne (by omega)]⟩
theorem max_pos {many : Int} : 0 < (if many < 1 then 1 else many) := by split <;> omega
theorem max_pos2 {many : Int} : 0 < (if many < 2 then 2 else many) := by split <;> omega
theorem max_eq {many : Int} : (if many < 1 then 1 else many) = max many 1 := by
  split <;> omega
theorem max_log {many : Int} (h : many.natAbs < 2 ^ 200) : (if many < 2 then 2 else many).natAbs.log2 < 9000 := by
  split
  · decide
  · exact Nat.lt_of_lt_of_le (PySem.Flt.log2_lt_of (by decide) h) (by decide)
theorem small64 {i : Int} (h : -1000000000000000000 ≤ i) (h2 : i ≤ 1000000000000000000) : -(2 ^ 64) < i ∧ i < 2 ^ 64 := by omega
theorem cmul_r {i j : Int} (h : -1000000000000000000 ≤ j) (h2 : j ≤ 1000000000000000000) : CMulA i j := .inl (.inr (small64 h h2))
theorem draw_wp {st : Store} {many : Int} {Q : A → Store → Prop} (t : TpOk st) (hm : many.natAbs < 2 ^ 200) (k : ∀ (n : Int) st', 0 ≤ n → n < max many 1 → TpOk st' → Kp st st' → st'.length = st.length → Q (.int n) st') : (m_law_draw [.ref 1, .int many] st).wp Q := by
  obtain ⟨ns, p, r, q, h0, h1, h2⟩ := t.ex
  have g1 := stL_of h1
  have g2 := stL_of h2
  have hs : st[1]?.isSome = true := by rw [h2]; rfl
  have fin : ∀ (n r' p' q' : Int) st', 0 ≤ p' → st' = st.set 1 (.lst [.ref 0, .int p', .int r', .int q']) → Q (.int (n % (if many < 1 then 1 else many))) st' := fun n r' p' q' st' hp e => by
    subst e
    refine k _ _ (Int.emod_nonneg _ (by have := max_pos (many := many); omega)) ?_ (tape_set hp h1 hs) kp_set (by simp)
    rw [← max_eq]
    exact Int.emod_lt_of_pos _ max_pos
  have c1 : CMulA p 69621 := cmul_r (by decide) (by decide)
  have c2 : CMulA q 48271 := cmul_r (by decide) (by decide)
  have c3 : ∀ i, CMulA i 48271 := fun i => cmul_r (by decide) (by decide)
  have c4 : ∀ i, CMulA i 69621 := fun i => cmul_r (by decide) (by decide)
  by_cases hr : r = 0
  · by_cases hp : p < ns.length
    · have hpn : p.toNat < ns.length := by omega
      simp only [m_law_draw] 
      simp [g1, g2, hr, hp, h0, hpn, max_pos, max_pos2, max_log hm, c3, c4]
      split <;> split <;> exact fin _ _ (p + 1) _ _ (by omega) rfl
    · simp only [m_law_draw] 
      simp [g1, g2, hr, hp, h0, max_pos, max_pos2, max_log hm, c3, c4]
      split <;> exact fin _ _ (p + 1) _ _ (by omega) rfl
  · simp only [m_law_draw] 
    simp [g1, g2, hr, max_pos, max_pos2, max_log hm]
    exact fin _ _ _ _ _ h0 rfl
theorem tape_wp {ns : List Int} {Q : A → Store → Prop} (k : ∀ st, TpOk st → st.length = 2 → Q (.ref 1) st) : (m_law_tape [.scr (ns.map .int)] []).wp Q := by
  simp only [m_law_tape]
  simp
  refine for_vals (fun i ρ st => st = [] ∧ ∃ t v, ρ = [some (.scr (ns.map .int)), some (.int t), v]) ⟨rfl, 7, none, rfl⟩ ?_ ?_
  · rintro i x ρ st hx ⟨rfl, t, v, rfl⟩
    rw [List.getElem?_map] at hx
    cases e : ns[i]? with
    | none => rw [e] at hx; cases hx
    | some n =>
      rw [e] at hx
      cases hx
      refine ⟨_, rfl, ?_⟩
      simp
      exact cmul_r (by decide) (by decide)
  · rintro ρ st ⟨rfl, t, v, rfl⟩
    simp
    exact k _ ⟨ns, 0, 0, t, by decide, rfl, rfl⟩ rfl
mutual
/-- no list, no instance in it -/
def plainA : A → Bool
  | .tup xs => plainAs xs
  | .scr _ => false
  | .ref _ => false
  | _ => true
def plainAs : List A → Bool
  | [] => true
  | x :: xs => plainA x && plainAs xs
end
mutual
def depA : A → Nat
  | .tup xs => depAs xs + 1
  | _ => 0
def depAs : List A → Nat
  | [] => 0
  | x :: xs => max (depA x) (depAs xs)
end
theorem plain_get : ∀ {xs : List A} {i : Nat} {x : A}, plainAs xs = true → xs[i]? = some x → plainA x = true
  | [], _, _, _, h => by simp at h
  | y :: ys, 0, x, hp, h => by
    simp at h
    subst h
    simp only [plainAs, Bool.and_eq_true] at hp
    exact hp.1
  | y :: ys, i + 1, x, hp, h => by
    simp only [plainAs, Bool.and_eq_true] at hp
    exact plain_get (i := i) hp.2 (by simpa using h)
theorem dep_get : ∀ {xs : List A} {i : Nat} {x : A}, xs[i]? = some x → depA x ≤ depAs xs
  | [], _, _, h => by simp at h
  | y :: ys, 0, x, h => by
    simp at h
    subst h
    simp only [depAs]
    omega
  | y :: ys, i + 1, x, h => by
    have := dep_get (xs := ys) (i := i) (x := x) (by simpa using h)
    simp only [depAs]
    omega
mutual
def fewA : A → Bool
  | .tup xs => decide (xs.length ≤ 16777216) && fewAs xs
  | _ => true
def fewAs : List A → Bool
  | [] => true
  | x :: xs => fewA x && fewAs xs
end
theorem few_get : ∀ {xs : List A} {i : Nat} {x : A}, fewAs xs = true → xs[i]? = some x → fewA x = true
  | [], _, _, _, h => by simp at h
  | y :: ys, 0, x, hp, h => by
    simp at h
    subst h
    simp only [fewAs, Bool.and_eq_true] at hp
    exact hp.1
  | y :: ys, i + 1, x, hp, h => by
    simp only [fewAs, Bool.and_eq_true] at hp
    exact few_get (i := i) hp.2 (by simpa using h)
mutual
def cleanA : A → Bool
  | .non => true
  | .int _ => true
  | .str x => PySem.PyData.strOk x
  | .tup xs => cleanAs xs
  | _ => false
def cleanAs : List A → Bool
  | [] => true
  | x :: xs => cleanA x && cleanAs xs
end
theorem plain_of_clean : ∀ {a : A}, cleanA a = true → plainA a = true := fun {a} => by
  refine A.rec (motive_1 := fun a => cleanA a = true → plainA a = true) (motive_2 := fun xs => cleanAs xs = true → plainAs xs = true) ?_ ?_ ?_ ?_ ?_ ?_ ?_ ?_ ?_ a
  · intro _; rfl
  · intro _ h; cases h
  · intro _ _; rfl
  · intro _ _; rfl
  · intro xs ih h; exact ih h
  · intro _ _ h; cases h
  · intro _ h; cases h
  · intro _; rfl
  · intro x xs h1 h2 h
    simp only [cleanAs, Bool.and_eq_true] at h
    simp only [plainAs, h1 h.1, h2 h.2, Bool.and_self]
end Law
namespace Law
open PySem L2 ML
structure SStr (x : Str) : Prop where
  len : x.length ≤ 20
  ch : ∀ (c : Nat), c ∈ x.cps.toList → 32 ≤ c ∧ c < 127
def Sca (a : A) : Prop := (∃ x, a = .str x ∧ SStr x) ∨ ∃ i : Int, a = .int i ∧ -1000000000000000 ≤ i ∧ i ≤ 1000000000000000
def El (a : A) : Prop := Sca a ∨ ∃ x y, a = .tup [x, y] ∧ Sca x ∧ Sca y
end Law
namespace Law
open PySem L2 ML
def digs (n : Nat) : Nat → List Int
  | 0 => []
  | i + 1 => ((n / 65536 ^ i % 65536 : Nat) : Int) :: digs n i
theorem digs_len (n i : Nat) : (digs n i).length = i := by
  induction i with
  | zero => rfl
  | succ i ih => simp [digs, ih]
def scaCode : A → List Int
  | .str x => 3 :: (x.length : Int) :: x.cps.toList.map fun (c : Nat) => (c : Int)
  | .int i => (if i < 0 then 2 else 1) :: digs i.natAbs 4
  | _ => []
def elCode : A → List Int
  | .tup [x, y] => 4 :: (scaCode x ++ scaCode y)
  | .str x => scaCode (.str x)
  | .int i => scaCode (.int i)
  | _ => []
theorem sca_len {a : A} (h : Sca a) : (scaCode a).length ≤ 22 := by
  rcases h with ⟨x, rfl, hx⟩ | ⟨i, rfl, _, _⟩
  · have := hx.len
    have e : x.cps.size = x.length := rfl
    simp [scaCode]
    omega
  · simp [scaCode, digs_len]
theorem el_len {a : A} (h : El a) : (elCode a).length ≤ 45 := by
  rcases h with h | ⟨x, y, rfl, hx, hy⟩
  · have := sca_len h
    rcases h with ⟨x, rfl, hx⟩ | ⟨i, rfl, _, _⟩
    · simp only [elCode]; omega
    · simp only [elCode]; omega
  · have := sca_len hx
    have := sca_len hy
    simp [elCode]
    omega
theorem take_succ_map {α β : Type} {f : α → β} {xs : List α} {i : Nat} {c : α} (h : xs[i]? = some c) : (xs.take i).map f ++ [f c] = (xs.take (i + 1)).map f := by
  rw [List.take_add_one, h]
  simp
end Law
namespace Law
open PySem L2 ML
inductive Nd where
  | leaf (e : A) | run (b : Nd) (t : Nat) | blk (cs : List Nd)
mutual
def ndA : Nd → A
  | .leaf e => .tup [.str "leaf", e]
  | .run b t => .tup [.str "run", ndA b, .int (t : Int)]
  | .blk cs => .tup [.str "block", .tup (ndAs cs)]
def ndAs : List Nd → List A
  | [] => []
  | c :: cs => ndA c :: ndAs cs
end
mutual
def okN : Nd → Prop
  | .leaf e => El e
  | .run b t => okN b ∧ 2 ≤ t ∧ t ≤ 2000
  | .blk cs => 1 ≤ cs.length ∧ cs.length ≤ 100 ∧ okNs cs
def okNs : List Nd → Prop
  | [] => True
  | c :: cs => okN c ∧ okNs cs
end
mutual
def szN : Nd → Nat
  | .leaf _ => 1
  | .run b t => szN b * t
  | .blk cs => szNs cs
def szNs : List Nd → Nat
  | [] => 0
  | c :: cs => szN c + szNs cs
end
mutual
def dpN : Nd → Nat
  | .leaf _ => 1
  | .run b _ => dpN b + 1
  | .blk cs => dpNs cs + 1
def dpNs : List Nd → Nat
  | [] => 0
  | c :: cs => max (dpN c) (dpNs cs)
end
theorem ndAs_map : ∀ cs : List Nd, ndAs cs = cs.map ndA
  | [] => rfl
  | c :: cs => by simp only [ndAs, ndAs_map cs, List.map_cons]
theorem ndA_leaf (e : A) : ndA (.leaf e) = .tup [.str "leaf", e] := by simp only [ndA]
theorem ndA_run (b : Nd) (t : Nat) : ndA (.run b t) = .tup [.str "run", ndA b, .int (t : Int)] := by simp only [ndA]
theorem ndA_blk (cs : List Nd) : ndA (.blk cs) = .tup [.str "block", .tup (cs.map ndA)] := by simp only [ndA, ndAs_map]
end Law
namespace Law
open PySem L2 ML
mutual
def codeN : Nd → List Int
  | .leaf e => elCode e
  | .run b t => 5 :: (digs t 2 ++ codeN b)
  | .blk cs => 6 :: (cs.length : Int) :: codesN cs
def codesN : List Nd → List Int
  | [] => []
  | c :: cs => codeN c ++ codesN cs
end
mutual
theorem szN_pos : ∀ nd : Nd, okN nd → 1 ≤ szN nd
  | .leaf _, _ => by simp only [szN]; omega
  | .run b t, h => by
    simp only [okN] at h
    have := szN_pos b h.1
    simp only [szN]
    exact Nat.mul_pos this (by omega)
  | .blk cs, h => by
    simp only [okN] at h
    have := szNs_pos cs h.2.2
    simp only [szN]
    omega
theorem szNs_pos : ∀ cs : List Nd, okNs cs → cs.length ≤ szNs cs
  | [], _ => by simp
  | c :: cs, h => by
    simp only [okNs] at h
    have := szN_pos c h.1
    have := szNs_pos cs h.2
    simp only [szNs, List.length_cons]
    omega
end
mutual
theorem codeN_len : ∀ nd : Nd, okN nd → (codeN nd).length ≤ (45 + 3 * dpN nd) * szN nd
  | .leaf e, h => by
    simp only [okN] at h
    have := el_len h
    simp only [codeN, szN, dpN]
    omega
  | .run b t, h => by
    simp only [okN] at h
    have h1 := codeN_len b h.1
    have h2 := szN_pos b h.1
    have h3 : (45 + 3 * dpN b) * szN b + 3 ≤ (45 + 3 * (dpN b + 1)) * szN b := by
      have : (45 + 3 * (dpN b + 1)) * szN b = (45 + 3 * dpN b) * szN b + 3 * szN b := by rw [← Nat.add_mul]; congr 1
      omega
    have h4 : (45 + 3 * (dpN b + 1)) * szN b ≤ (45 + 3 * (dpN b + 1)) * szN b * t := Nat.le_mul_of_pos_right _ (by omega)
    simp only [codeN, szN, dpN, List.length_cons, List.length_append, digs_len]
    rw [← Nat.mul_assoc]
    omega
  | .blk cs, h => by
    simp only [okN] at h
    have h1 := codesN_len cs h.2.2 (dpNs cs) (Nat.le_refl _)
    have h2 := szNs_pos cs h.2.2
    simp only [codeN, szN, dpN, List.length_cons]
    have : (45 + 3 * (dpNs cs + 1)) * szNs cs = (45 + 3 * dpNs cs) * szNs cs + 3 * szNs cs := by rw [← Nat.add_mul]; congr 1
    omega
theorem codesN_len : ∀ cs : List Nd, okNs cs → ∀ d, dpNs cs ≤ d → (codesN cs).length ≤ (45 + 3 * d) * szNs cs
  | [], _, d, _ => by simp [codesN]
  | c :: cs, h, d, hd => by
    simp only [okNs] at h
    simp only [dpNs] at hd
    have h1 := codeN_len c h.1
    have h2 := codesN_len cs h.2 d (by omega)
    have h3 : (45 + 3 * dpN c) * szN c ≤ (45 + 3 * d) * szN c := Nat.mul_le_mul_right _ (by omega)
    simp only [codesN, szNs, List.length_append, Nat.mul_add]
    omega
end
@[simp] theorem leaf_run : ((Str.ofString "leaf") = (Str.ofString "run")) ↔ False := by
  constructor
  · intro h; revert h; decide +kernel
  · exact False.elim
@[simp] theorem run_leaf : ((Str.ofString "run") = (Str.ofString "leaf")) ↔ False := by
  constructor
  · intro h; revert h; decide +kernel
  · exact False.elim
@[simp] theorem block_leaf : ((Str.ofString "block") = (Str.ofString "leaf")) ↔ False := by
  constructor
  · intro h; revert h; decide +kernel
  · exact False.elim
@[simp] theorem block_run : ((Str.ofString "block") = (Str.ofString "run")) ↔ False := by
  constructor
  · intro h; revert h; decide +kernel
  · exact False.elim
end Law
namespace Law
open PySem L2 ML
structure Cmp (d : Nat) (a : A) : Prop where
  cl : cleanA a = true
  fw : fewA a = true
  dp : depA a ≤ d
theorem sca_cmp {a : A} (h : Sca a) : Cmp 0 a := by
  rcases h with ⟨x, rfl, hx⟩ | ⟨i, rfl, _, _⟩
  · refine ⟨?_, rfl, by simp [depA]⟩
    simp only [cleanA, PySem.PyData.strOk]
    rw [← Array.all_toList, List.all_eq_true]
    intro c hc
    have := hx.ch c hc
    simp
    omega
  · exact ⟨rfl, rfl, by simp [depA]⟩
theorem Cmp.mono {d e : Nat} {a : A} (h : Cmp d a) (k : d ≤ e) : Cmp e a := ⟨h.cl, h.fw, Nat.le_trans h.dp k⟩
theorem cmps {d : Nat} : ∀ {xs : List A}, (∀ x ∈ xs, Cmp d x) → cleanAs xs = true ∧ fewAs xs = true ∧ depAs xs ≤ d
  | [], _ => ⟨rfl, rfl, by simp [depAs]⟩
  | x :: xs, h => by
    have h1 := h x (by simp)
    obtain ⟨a1, a2, a3⟩ := cmps (xs := xs) (d := d) fun y hy => h y (by simp [hy])
    simp only [cleanAs, fewAs, depAs, h1.cl, h1.fw, a1, a2, Bool.and_self, true_and]
    have := h1.dp
    omega
theorem Cmp.tup {d : Nat} {xs : List A} (h : ∀ x ∈ xs, Cmp d x) (hl : xs.length ≤ 1000000) : Cmp (d + 1) (.tup xs) := by
  obtain ⟨a1, a2, a3⟩ := cmps h
  refine ⟨a1, ?_, ?_⟩
  · simp only [fewA, a2, Bool.and_true]
    simp
    omega
  · simp only [depA]
    omega
theorem el_cmp {a : A} (h : El a) : Cmp 1 a := by
  rcases h with h | ⟨x, y, rfl, hx, hy⟩
  · exact (sca_cmp h).mono (by omega)
  · refine Cmp.tup (d := 0) ?_ (by simp)
    intro z hz
    simp at hz
    rcases hz with rfl | rfl
    · exact sca_cmp hx
    · exact sca_cmp hy
theorem str_cmp {x : Str} (h : PySem.PyData.strOk x = true) : Cmp 0 (.str x) := ⟨h, rfl, by simp [depA]⟩
theorem int_cmp (i : Int) : Cmp 0 (.int i) := ⟨rfl, rfl, by simp [depA]⟩
theorem ok_leaf : PySem.PyData.strOk (Str.ofString "leaf") = true := by decide +kernel
theorem ok_run : PySem.PyData.strOk (Str.ofString "run") = true := by decide +kernel
theorem ok_block : PySem.PyData.strOk (Str.ofString "block") = true := by decide +kernel
mutual
theorem nd_cmp : ∀ nd : Nd, okN nd → Cmp (2 * dpN nd) (ndA nd)
  | .leaf e, h => by
    simp only [okN] at h
    rw [ndA_leaf]
    simp only [dpN]
    refine Cmp.tup (d := 1) ?_ (by simp)
    intro z hz
    simp at hz
    rcases hz with rfl | rfl
    · exact (str_cmp ok_leaf).mono (by omega)
    · exact el_cmp h
  | .run b t, h => by
    simp only [okN] at h
    rw [ndA_run]
    have hb := nd_cmp b h.1
    simp only [dpN]
    refine (Cmp.tup (d := 2 * dpN b) ?_ (by simp)).mono (by omega)
    intro z hz
    simp at hz
    rcases hz with rfl | rfl | rfl
    · exact (str_cmp ok_run).mono (by omega)
    · exact hb
    · exact (int_cmp _).mono (by omega)
  | .blk cs, h => by
    simp only [okN] at h
    rw [ndA_blk]
    have hb := nds_cmp cs h.2.2
    simp only [dpN]
    refine (Cmp.tup (d := 2 * dpNs cs + 1) ?_ (by simp)).mono (by omega)
    intro z hz
    simp at hz
    rcases hz with rfl | rfl
    · exact (str_cmp ok_block).mono (by omega)
    · refine Cmp.tup ?_ (by simp; omega)
      rw [← ndAs_map]
      exact hb
theorem nds_cmp : ∀ cs : List Nd, okNs cs → ∀ x ∈ ndAs cs, Cmp (2 * dpNs cs) x
  | [], _ => by simp [ndAs]
  | c :: cs, h => by
    simp only [okNs] at h
    have h1 := nd_cmp c h.1
    have h2 := nds_cmp cs h.2
    simp only [ndAs, dpNs]
    intro x hx
    rcases List.mem_cons.mp hx with rfl | hx
    · exact h1.mono (by omega)
    · exact (h2 x hx).mono (by omega)
end
end Law
namespace ML
open PySem L2
section
variable {ρ : Env} {st : Store} {N B C : Env → Store → Prop} {Rt : A → Store → Prop} {i : Nat} {x : Str} {fl : List Str} {g : Er → A} {m : MS}
theorem told_er {w : Str} {mc : MX} {e : Er} {st1 : Store} (h : mc ρ st = .er e st1) : mRet (mTup (mCons (mC (.str w)) (mCons mc mNil))) ρ st = .er e ρ st1 := by
  simp [mRet, mTup, mCons, mC, R.bind, R.toS, h]
@[simp] theorem wp_tupRg1 {ma : MX} {Q : A → Store → Prop} : (mTupRg1 ma ρ st).wp Q ↔ (ma ρ st).wp fun x st1 => (getI x st1).wp fun n st2 => (tupRg 0 n st2).wp Q := by
  unfold mTupRg1
  rw [wp_bind]
  simp only [wp_bind]
@[simp] theorem w_tupRg {a b : Int} {Q : A → Store → Prop} : (tupRg a b st).wp Q ↔ ((-1000000 ≤ a ∧ a ≤ 1000000) ∧ -1000000 ≤ b ∧ b ≤ 1000000) ∧ Q (.tup (rgA a b)) st := w_if
end
end ML
namespace Law
open PySem L2 ML
def m_law_contents : MF := mFn 11 3 (mSeq (mSet 3 (mCall m_law_draw (mCons (mVar 0) (mCons (mBin addA (mVar 2) (mC (.int 1))) mNil))))
    (mSeq (mIfS (mGB (mBin eqA (mCall m_law_draw (mCons (mVar 0) (mCons (mC (.int 4)) mNil))) (mC (.int 0)))) (mSet 3 (mBin ixA (mLst (mCons (mC (.int 0)) (mCons (mC (.int 1)) (mCons (mC (.int 2)) (mCons (mVar 2) mNil))))) (mCall m_law_draw (mCons (mVar 0) (mCons (mC (.int 4)) mNil))))) mNext)
    (mSeq (mSet 4 (mCall m_law_draw (mCons (mVar 0) (mCons (mC (.int 4)) mNil))))
    (mSeq (mSet 5 (mCall m_law_draw (mCons (mVar 0) (mCons (mC (.int 40)) mNil))))
    (mSeq (mIfS (mGB (mBin eqA (mVar 4) (mC (.int 0)))) (mRet (mCa tupleA (mCons (mLc (mRng (mCons (mVar 3) mNil)) (.one 8) [8] mYes (mBin addA (mVar 5) (mVar 8))) mNil))) mNext)
    (mSeq (mIfS (mGB (mBin eqA (mVar 4) (mC (.int 1)))) (mSeq (mSet 6 (mLc (mRng (mCons (mBin addA (mC (.int 1)) (mBin modA (mCa intA (mCons (mVar 5) mNil)) (mC (.int 4)))) mNil)) (.one 8) [8] mYes (mBin ixA (mVar 1) (mCall m_law_draw (mCons (mVar 0) (mCons (mCa lenA (mCons (mVar 1) mNil)) mNil))))))
    (mRet (mCa tupleA (mCons (mLc (mRng (mCons (mVar 3) mNil)) (.one 8) [8] mYes (mBin ixA (mVar 6) (mBin modA (mCa intA (mCons (mVar 8) mNil)) (mCa lenA (mCons (mVar 6) mNil))))) mNil)))) mNext)
    (mSeq (mSet 7 (mLst mNil))
    (mSeq (mFor (mRng (mCons (mVar 3) mNil)) (.one 8) (mIfS (mGB (mBin ltA (mCa lenA (mCons (mVar 7) mNil)) (mVar 3))) (mSeq (mSet 9 (mC (.int 1)))
    (mSeq (mIfS (mGB (mBin eqA (mVar 4) (mC (.int 2)))) (mSet 9 (mBin addA (mC (.int 1)) (mCall m_law_draw (mCons (mVar 0) (mCons (mC (.int 4)) mNil))))) mNext)
    (mSeq (mSet 10 (mBin ixA (mVar 1) (mCall m_law_draw (mCons (mVar 0) (mCons (mCa lenA (mCons (mVar 1) mNil)) mNil)))))
    (mSet 7 (mBin addA (mVar 7) (mBin mulA (mLst (mCons (mVar 10) mNil)) (mVar 9))))))) mNext))
    (mRet (mCa tupleA (mCons (mSl (mVar 7) mNoPart (mPart (mVar 3))) mNil)))))))))))
def m_law_scalarB : MF := mFn 6 1 (mSeq (mSet 1 (mC (.str "abcdefghijklmnopqrstuvwxyzABCDEFGHIJKLMNOPQRSTUVWXYZ0123456789 !\"#$&'()*+,-./:;<=>?\x40[\\]^_`{|}~")))
    (mSeq (mSet 2 (mCall m_law_draw (mCons (mVar 0) (mCons (mC (.int 6)) mNil))))
    (mSeq (mIfS (mGB (mBin ltA (mVar 2) (mC (.int 3)))) (mRet (mBin subA (mCall m_law_draw (mCons (mVar 0) (mCons (mC (.int 9)) mNil))) (mC (.int 3)))) mNext)
    (mSeq (mIfS (mGB (mBin eqA (mVar 2) (mC (.int 3)))) (mSeq (mSet 3 (mBin subA (mCall m_law_draw (mCons (mVar 0) (mCons (mC (.int 2000001)) mNil))) (mC (.int 1000000))))
    (mRet (mBin ixA (mLst (mCons (mVar 3) (mCons (mVar 3) (mCons (mBin mulA (mVar 3) (mBin powA (mC (.int 10)) (mC (.int 9)))) (mCons (mBin powA (mC (.int 10)) (mC (.int 15))) (mCons (mUn negA (mBin powA (mC (.int 10)) (mC (.int 15)))) mNil)))))) (mCall m_law_draw (mCons (mVar 0) (mCons (mC (.int 5)) mNil)))))) mNext)
    (mSeq (mSet 4 (mBin ixA (mLst (mCons (mC (.str "")) (mCons (mC (.str "")) (mCons (mC (.str "9")) (mCons (mC (.str "same beginning")) mNil))))) (mCall m_law_draw (mCons (mVar 0) (mCons (mC (.int 4)) mNil)))))
    (mSeq (mFor (mRng (mCons (mBin ixA (mLst (mCons (mC (.int 0)) (mCons (mC (.int 1)) (mCons (mC (.int 1)) (mCons (mC (.int 2)) (mCons (mC (.int 3)) (mCons (mC (.int 6)) mNil))))))) (mCall m_law_draw (mCons (mVar 0) (mCons (mC (.int 6)) mNil)))) mNil)) (.one 5) (mSet 4 (mBin addA (mVar 4) (mBin ixA (mVar 1) (mCall m_law_draw (mCons (mVar 0) (mCons (mC (.int 94)) mNil)))))))
    (mRet (mVar 4))))))))
def m_law_elementB : MF := mFn 2 1 (mSeq (mIfS (mGB (mBin eqA (mCall m_law_draw (mCons (mVar 0) (mCons (mC (.int 4)) mNil))) (mC (.int 0)))) (mSeq (mSet 1 (mCall m_law_scalarB (mCons (mVar 0) mNil)))
    (mRet (mTup (mCons (mVar 1) (mCons (mCall m_law_scalarB (mCons (mVar 0) mNil)) mNil))))) mNext)
    (mRet (mCall m_law_scalarB (mCons (mVar 0) mNil))))
def m_law_pool : MF := mFn 2 1 (mRet (mLc (mRng (mCons (mBin addA (mC (.int 1)) (mCall m_law_draw (mCons (mVar 0) (mCons (mC (.int 6)) mNil)))) mNil)) (.one 1) [1] mYes (mCall m_law_elementB (mCons (mVar 0) mNil))))
def m_law_place : MF := mFn 3 2 (mSeq (mSet 2 (mCall m_law_draw (mCons (mVar 0) (mCons (mC (.int 9)) mNil))))
    (mSeq (mIfS (mGB (mBin eqA (mVar 2) (mC (.int 0)))) (mRet (mC (.int 0))) mNext)
    (mSeq (mIfS (mGB (mBin eqA (mVar 2) (mC (.int 1)))) (mRet (mVar 1)) mNext)
    (mSeq (mIfS (mGB (mBin eqA (mVar 2) (mC (.int 2)))) (mRet (mBin addA (mBin addA (mVar 1) (mC (.int 1))) (mCall m_law_draw (mCons (mVar 0) (mCons (mC (.int 3)) mNil))))) mNext)
    (mSeq (mIfS (mAnd (mGB (mBin eqA (mVar 2) (mC (.int 3)))) (mGB (mBin eqA (mCall m_law_draw (mCons (mVar 0) (mCons (mC (.int 4)) mNil))) (mC (.int 0))))) (mRet (mC (.int 1000000))) mNext)
    (mRet (mCall m_law_draw (mCons (mVar 0) (mCons (mBin addA (mVar 1) (mC (.int 1))) mNil)))))))))
def m_law_alikeB : Nat → MF
  | 0 => fun _ _ => .bad
  | n + 1 => mFn 3 2 (mSeq (mIfS (mTru (mUn (isiA .tup) (mVar 1))) (mSeq (mIfS (mOr (mNot (mTru (mUn (isiA .tup) (mVar 0)))) (mGB (mBin neA (mCa lenA (mCons (mVar 0) mNil)) (mCa lenA (mCons (mVar 1) mNil))))) (mRet (mC (.bl false))) mNext)
    (mRet (mBin eqA (mCa lenA (mCons (mLc (mRng (mCons (mCa lenA (mCons (mVar 1) mNil)) mNil)) (.one 2) [2] (mNot (mTru (mCall (m_law_alikeB n) (mCons (mBin ixA (mVar 0) (mVar 2)) (mCons (mBin ixA (mVar 1) (mVar 2)) mNil))))) (mVar 2)) mNil)) (mC (.int 0))))) mNext)
    (mSeq (mIfS (mGB (mBin isNA (mVar 1) (mC .non))) (mRet (mBin isNA (mVar 0) (mC .non))) mNext)
    (mSeq (mIfS (mTru (mUn (isiA .str) (mVar 1))) (mRet (mAndV (mUn (isiA .str) (mVar 0)) (mBin eqA (mVar 0) (mVar 1)))) mNext)
    (mRet (mAndV (mUn (isiA .int) (mVar 0)) (mAndV (mBin eqA (mUn (isiA .bool) (mVar 0)) (mUn (isiA .bool) (mVar 1))) (mBin eqA (mVar 0) (mVar 1))))))))
theorem alikeB_wp : ∀ (n : Nat) {a : A} {st : Store} {Q : A → Store → Prop}, plainA a = true → fewA a = true → depA a < n → (∀ st', Grown st st' → Q (.bl true) st') → (m_law_alikeB n [a, a] st).wp Q
  | 0, a, st, Q, _, _, h, _ => by omega
  | n + 1, a, st, Q, hp, hf, hd, hq => by
    cases a with
    | tup xs =>
      simp only [plainA] at hp
      simp only [fewA, Bool.and_eq_true, decide_eq_true_eq] at hf
      simp only [depA] at hd
      simp [m_law_alikeB]
      refine ⟨by omega, ?_⟩
      refine lc_rng (fun i st' acc => Grown st st' ∧ acc = []) ⟨.refl _, rfl⟩ ?_ ?_
      · rintro i st' acc hi ⟨g, rfl⟩
        refine ⟨_, rfl, ?_⟩
        have e : xs[i]? = some xs[i] := List.getElem?_eq_getElem hi
        simp [e]
        have := dep_get e
        refine alikeB_wp n (plain_get hp e) (few_get hf.2 e) (by omega) fun st2 g2 => ?_
        simp
        exact g.trans g2
      · rintro st' acc ⟨g, rfl⟩
        simp
        exact hq _ (g.trans (.one _ _))
    | scr xs => cases hp
    | ref r => cases hp
    | non => simpa [m_law_alikeB] using hq st (.refl _)
    | bl b => simpa [m_law_alikeB] using hq st (.refl _)
    | int i => simpa [m_law_alikeB] using hq st (.refl _)
    | str x => simpa [m_law_alikeB] using hq st (.refl _)
def signB : List Nat := [97,98,99,100,101,102,103,104,105,106,107,108,109,110,111,112,113,114,115,116,117,118,119,120,121,122,65,66,67,68,69,70,71,72,73,74,75,76,77,78,79,80,81,82,83,84,85,86,87,88,89,90,48,49,50,51,52,53,54,55,56,57,32,33,34,35,36,38,39,40,41,42,43,44,45,46,47,58,59,60,61,62,63,64,91,92,93,94,95,96,123,124,125,126]
theorem signB_eq : Str.ofString "abcdefghijklmnopqrstuvwxyzABCDEFGHIJKLMNOPQRSTUVWXYZ0123456789 !\"#$&'()*+,-./:;<=>?\x40[\\]^_`{|}~" = ⟨signB.toArray⟩ := by decide +kernel
def ScB (st0 : Store) (v2 v3 : Option A) (i : Nat) (ρ : ML.Env) (st : Store) : Prop := ∃ (x : Str) (v : Option A), x.length ≤ 14 + i ∧ (∀ (c : Nat), c ∈ x.cps.toList → 32 ≤ c ∧ c < 127) ∧ TpOk st ∧ Kp st0 st ∧ ρ = [some (.ref 1), some (.str ⟨signB.toArray⟩), v2, v3, some (.str x), v]
theorem drawA_wp {st : Store} {xs : List A} {many : Int} {Q : A → Store → Prop} (t : TpOk st) (hm : many = xs.length) (hl : xs.length ≤ 1000) (hne : xs ≠ []) (k : ∀ x st', x ∈ xs → TpOk st' → Kp st st' → Q x st') :
    (m_law_draw [.ref 1, .int many] (st ++ [.lst xs])).wp fun a st1 => (ixA (.ref st.length) a st1).wp Q := by
  have g : Grown st (st ++ [.lst xs]) := ⟨_, rfl⟩
  have hp := List.length_pos_iff.mpr hne
  refine draw_wp (t.grown g) (by omega) fun n st1 na nb t1 k1 l1 => ?_
  have h1 : stL st1 st.length = some xs := k1.stL (by have := t.len; omega) (by simp)
  rw [w_ixL]
  have hn : n.toNat < xs.length := by omega
  refine ⟨_, h1, xs[n.toNat], ?_, ?_⟩
  · rw [atI_nn na]
    exact List.getElem?_eq_getElem hn
  · exact k _ _ (List.getElem_mem hn) t1 ((Kp.grown g).trans k1)
theorem scalarB_wp {st : Store} {Q : A → Store → Prop} (t : TpOk st) (k : ∀ (a : A) st', Sca a → TpOk st' → Kp st st' → Q a st') : (m_law_scalarB [.ref 1] st).wp Q := by
  have ki : ∀ (i : Int) st', -1000000000000000 ≤ i → i ≤ 1000000000000000 → TpOk st' → Kp st st' → Q (.int i) st' := fun i st' h1 h2 t' k' => k _ _ (.inr ⟨i, rfl, h1, h2⟩) t' k'
  simp only [m_law_scalarB]
  rw [signB_eq]
  simp only [wp_fn, List.map_cons, List.map_nil, List.length_cons, List.length_nil, List.cons_append, List.nil_append, List.replicate, sp_seq, sp_set, wp_call, wp_cons, wp_nil, wp_var, wp_c, List.getElem?_cons_succ, List.getElem?_cons_zero, Option.some.injEq, ex_eq, List.set_cons_zero, List.set_cons_succ, Nat.reduceSub]
  refine ⟨trivial, ?_⟩
  refine draw_wp t (by decide) fun c st1 ca cb t1 k1 l1 => ?_
  simp only [sp_ifs, wp_gb, wp_bin, wp_var, wp_c, List.getElem?_cons_succ, List.getElem?_cons_zero, Option.some.injEq, ex_eq, w_lt, w_getB, decide_eq_true_eq]
  split
  · simp only [sp_ret, wp_bin, wp_call, wp_cons, wp_nil, wp_var, wp_c, List.getElem?_cons_zero, Option.some.injEq, ex_eq]
    refine draw_wp t1 (by decide) fun n st2 na nb t2 k2 l2 => ?_
    rw [w_sub]
    exact ki _ _ (by omega) (by omega) t2 (k1.trans k2)
  simp only [sp_next, sp_ifs, wp_gb, wp_bin, wp_var, wp_c, List.getElem?_cons_succ, List.getElem?_cons_zero, Option.some.injEq, ex_eq, w_eq, w_getB, decide_eq_true_eq]
  split
  · simp only [sp_seq, sp_set, wp_bin, wp_call, wp_cons, wp_nil, wp_var, wp_c, List.getElem?_cons_succ, List.getElem?_cons_zero, Option.some.injEq, ex_eq, List.set_cons_zero, List.set_cons_succ]
    refine draw_wp t1 (by decide) fun n st2 na nb t2 k2 l2 => ?_
    simp only [w_sub, sp_ret, wp_bin, wp_lst, wp_cons, wp_nil, wp_var, wp_c, wp_un, wp_call, List.getElem?_cons_succ, List.getElem?_cons_zero, Option.some.injEq, ex_eq]
    rw [w_pow]
    refine ⟨by decide, ?_⟩
    rw [w_mul]
    refine ⟨cmul_r (by decide) (by decide), ?_⟩
    rw [w_pow]
    refine ⟨by decide, ?_⟩
    rw [w_pow]
    refine ⟨by decide, ?_⟩
    rw [w_neg]
    refine ⟨by simp [sizeLine], ?_⟩
    refine drawA_wp (xs := [.int (n - 1000000), .int (n - 1000000), .int ((n - 1000000) * 10 ^ (9 : Int).toNat), .int (10 ^ (15 : Int).toNat), .int (-(10 ^ (15 : Int).toNat))]) t2 rfl (by simp) (by simp) fun x st3 hx t3 k3 => ?_
    have e9 : (10 : Int) ^ (9 : Int).toNat = 1000000000 := by decide +kernel
    have e15 : (10 : Int) ^ (15 : Int).toNat = 1000000000000000 := by decide +kernel
    rw [e9, e15] at hx
    have hk := (k1.trans k2).trans k3
    simp at hx
    rcases hx with rfl | rfl | rfl | rfl
    · exact ki _ _ (by omega) (by omega) t3 hk
    · exact ki _ _ (by omega) (by omega) t3 hk
    · exact ki _ _ (by omega) (by omega) t3 hk
    · exact ki _ _ (by omega) (by omega) t3 hk
  simp only [wp_lst, wp_cons, wp_nil, wp_c, wp_call, wp_var, List.getElem?_cons_succ, List.getElem?_cons_zero, Option.some.injEq, ex_eq]
  refine ⟨by simp [sizeLine], ?_⟩
  refine drawA_wp (xs := [.str "", .str "", .str "9", .str "same beginning"]) t1 rfl (by decide) (by simp) fun x st2 hx t2 k2' => ?_
  have k2 := k1.trans k2'
  obtain ⟨z, rfl, hzl, hzc⟩ : ∃ z : Str, x = .str z ∧ z.length ≤ 14 + 0 ∧ ∀ (c : Nat), c ∈ z.cps.toList → 32 ≤ c ∧ c < 127 := by
    have e0 : (Str.ofString "").length ≤ 14 + 0 ∧ ∀ (c : Nat), c ∈ (Str.ofString "").cps.toList → 32 ≤ c ∧ c < 127 := by decide +kernel
    have e1 : (Str.ofString "9").length ≤ 14 + 0 ∧ ∀ (c : Nat), c ∈ (Str.ofString "9").cps.toList → 32 ≤ c ∧ c < 127 := by decide +kernel
    have e2 : (Str.ofString "same beginning").length ≤ 14 + 0 ∧ ∀ (c : Nat), c ∈ (Str.ofString "same beginning").cps.toList → 32 ≤ c ∧ c < 127 := by decide +kernel
    simp at hx
    rcases hx with rfl | rfl | rfl
    · exact ⟨_, rfl, e0.1, e0.2⟩
    · exact ⟨_, rfl, e1.1, e1.2⟩
    · exact ⟨_, rfl, e2.1, e2.2⟩
  simp only [List.set_cons_zero, List.set_cons_succ]
  simp only [sp_for, wp_rng, wp_cons, wp_nil, wp_bin, wp_lst, wp_call, wp_var, wp_c, List.getElem?_cons_succ, List.getElem?_cons_zero, Option.some.injEq, ex_eq]
  refine ⟨by simp [sizeLine], ?_⟩
  refine drawA_wp (xs := [.int 0, .int 1, .int 1, .int 2, .int 3, .int 6]) t2 rfl (by decide) (by simp) fun y st3 hy t3 k3 => ?_
  obtain ⟨n, rfl, n0, n6⟩ : ∃ n : Int, y = .int n ∧ 0 ≤ n ∧ n ≤ 6 := by
    simp at hy
    rcases hy with rfl | rfl | rfl | rfl | rfl
    · exact ⟨_, rfl, by decide, by decide⟩
    · exact ⟨_, rfl, by decide, by decide⟩
    · exact ⟨_, rfl, by decide, by decide⟩
    · exact ⟨_, rfl, by decide, by decide⟩
    · exact ⟨_, rfl, by decide, by decide⟩
  rw [w_rng1]
  refine ⟨by omega, ?_⟩
  refine for_rng (ScB st (some (.int c)) none) ⟨z, none, hzl, hzc, t3, k2.trans k3, rfl⟩ ?_ ?_
  · rintro i ρ st4 hi ⟨x, v, hx, hc, t4, k4, rfl⟩
    refine ⟨_, rfl, ?_⟩
    simp only [sp_set, wp_bin, wp_var, wp_c, wp_call, wp_cons, wp_nil, List.set_cons_succ, List.set_cons_zero, List.getElem?_cons_succ, List.getElem?_cons_zero, Option.some.injEq, ex_eq]
    refine draw_wp t4 (by decide) fun n st5 na nb t5 k5 l5 => ?_
    rw [w_ixS]
    have hs : ∀ c ∈ signB, 32 ≤ c ∧ c < 127 := by decide +kernel
    have hn : n.toNat < signB.length := by
      have : signB.length = 94 := by decide +kernel
      omega
    refine ⟨by decide +kernel, signB[n.toNat], ?_, ?_⟩
    · rw [atI_nn na]
      exact List.getElem?_eq_getElem hn
    obtain ⟨ca, cb⟩ := hs _ (List.getElem_mem hn)
    generalize signB[n.toNat] = ch at *
    rw [w_addS]
    have hz : Str.length ⟨#[ch]⟩ = 1 := rfl
    refine ⟨by rw [hz]; simp only [sizeLine]; omega, _, _, ?_, ?_, t5, k4.trans k5, rfl⟩
    · show (x.cps ++ #[ch]).size ≤ _
      have : x.cps.size ≤ 14 + i := hx
      simp
      omega
    · intro d hd
      have : d ∈ (x.cps ++ #[ch]).toList := hd
      simp at this
      rcases this with h | rfl
      · exact hc d (by simpa using h)
      · exact ⟨ca, cb⟩
  · rintro ρ st4 ⟨x, v, hx, hc, t4, k4, rfl⟩
    simp
    exact k _ _ (.inl ⟨x, rfl, by omega, hc⟩) t4 k4
theorem elementB_wp {st : Store} {Q : A → Store → Prop} (t : TpOk st) (k : ∀ (a : A) st', El a → TpOk st' → Kp st st' → Q a st') : (m_law_elementB [.ref 1] st).wp Q := by
  simp only [m_law_elementB]
  simp
  refine draw_wp t (by decide) fun n st1 na nb t1 k1 l1 => ?_
  simp
  split
  · refine scalarB_wp t1 fun a st2 ha t2 k2 => ?_
    try simp
    refine scalarB_wp t2 fun b st3 hb t3 k3 => ?_
    exact k _ _ (.inr ⟨a, b, rfl, ha, hb⟩) t3 ((k1.trans k2).trans k3)
  · refine scalarB_wp t1 fun a st2 ha t2 k2 => ?_
    exact k _ _ (.inl ha) t2 (k1.trans k2)
theorem pool_wp {st : Store} {Q : A → Store → Prop} (t : TpOk st) (k : ∀ (r : Nat) (xs : List A) st', 1 ≤ xs.length → xs.length ≤ 6 → (∀ x ∈ xs, El x) → TpOk st' → Kp st st' → 1 < r → stL st' r = some xs → Q (.ref r) st') : (m_law_pool [.ref 1] st).wp Q := by
  simp only [m_law_pool]
  rw [wp_fn]
  refine ⟨rfl, ?_⟩
  simp only [List.map_cons, List.map_nil, List.cons_append, List.nil_append, List.replicate, sp_ret, wp_lc, wp_rng, wp_cons, wp_nil, wp_bin, wp_c, wp_call, wp_var, List.getElem?_cons_zero, Option.some.injEq, ex_eq, wipeA_cons, wipeA_nil, List.set_cons_succ, List.set_cons_zero]
  refine draw_wp t (by decide) fun n st1 na nb t1 k1 l1 => ?_
  rw [w_add, w_rng1]
  refine ⟨by omega, ?_⟩
  refine lc_rng (fun i st' acc => TpOk st' ∧ Kp st st' ∧ (∀ x ∈ acc, El x) ∧ acc.length = i) ⟨t1, k1, by simp, rfl⟩ ?_ ?_
  · rintro i st2 acc hi ⟨t2, k2, ha, hl⟩
    refine ⟨_, rfl, ?_⟩
    simp only [wp_yes, if_true, wp_call, wp_cons, wp_nil, wp_var, List.set_cons_succ, List.set_cons_zero, List.getElem?_cons_zero, Option.some.injEq, ex_eq]
    refine elementB_wp t2 fun a st3 hx t3 k3 => ?_
    refine ⟨by rw [size_eq]; omega, t3, k2.trans k3, fun x hx' => ?_, by simp [hl]⟩
    rcases List.mem_append.mp hx' with z | z
    · exact ha x z
    · simp at z
      subst z
      exact hx
  · rintro st2 acc ⟨t2, k2, ha, hl⟩
    exact k _ acc _ (by omega) (by omega) ha (t2.grown (.one _ _)) (k2.trans (Kp.grown (.one _ _))) (by have := t2.len; omega) stL_new
theorem el_nat {i : Int} (h0 : -1000000000000000 ≤ i) (h1 : i ≤ 1000000000000000) : El (.int i) := .inl (.inr ⟨i, rfl, h0, h1⟩)
theorem place_wp {size : Int} {st : Store} {Q : A → Store → Prop} (t : TpOk st) (h0 : 0 ≤ size) (h1 : size ≤ 100000) (k : ∀ (n : Int) st', 0 ≤ n → n ≤ 1000000 → TpOk st' → Kp st st' → Q (.int n) st') : (m_law_place [.ref 1, .int size] st).wp Q := by
  simp only [m_law_place]
  try simp
  refine draw_wp t (by decide) fun c st1 ca cb t1 k1 l1 => ?_
  try simp
  split
  · exact k _ _ (by omega) (by omega) t1 k1
  try simp
  split
  · exact k _ _ (by omega) (by omega) t1 k1
  try simp
  split
  · refine draw_wp t1 (by decide) fun n st2 na nb t2 k2 l2 => ?_
    try simp
    exact k _ _ (by omega) (by omega) t2 (k1.trans k2)
  try simp
  split
  · refine draw_wp t1 (by decide) fun n st2 na nb t2 k2 l2 => ?_
    try simp
    split
    · exact k _ _ (by omega) (by omega) t2 (k1.trans k2)
    · refine draw_wp t2 (by omega) fun m st3 ma mb t3 k3 l3 => ?_
      exact k _ _ (by omega) (by omega) t3 ((k1.trans k2).trans k3)
  · refine draw_wp t1 (by omega) fun m st3 ma mb t3 k3 l3 => ?_
    exact k _ _ (by omega) (by omega) t3 (k1.trans k3)
end Law
namespace Law
open PySem L2 ML
def isPk (cs : List Int) (j : Nat) : Prop := cs.getD (j - 1) 0 < cs.getD j 0 ∧ cs.getD (j + 1) 0 < cs.getD j 0
instance (cs : List Int) (j : Nat) : Decidable (isPk cs j) := by unfold isPk; infer_instance
end Law
namespace Law
open PySem L2 ML
structure It1 (nd : Nd) : Prop where
  ok : okN nd
  sz : szN nd ≤ 2000
  dp : dpN nd ≤ 28
theorem It1.len {nd : Nd} (h : It1 nd) : (codeN nd).length ≤ 300000 := by
  have := codeN_len nd h.ok
  have h1 := h.sz
  have h2 := h.dp
  have h3 : (45 + 3 * dpN nd) * szN nd ≤ 129 * 2000 := Nat.mul_le_mul (by omega) h1
  omega
theorem It1.cmp {nd : Nd} (h : It1 nd) : Cmp 60 (ndA nd) := (nd_cmp nd h.ok).mono (by have := h.dp; omega)
structure Row (xs : List Nd) : Prop where
  it : ∀ c ∈ xs, It1 c
  ap : ∀ (i : Nat) a b, xs[i]? = some a → xs[i + 1]? = some b → a ≠ b
theorem Row.add {xs : List Nd} {c : Nd} (h : Row xs) (hc : It1 c) (hl : ∀ a, xs[xs.length - 1]? = some a → 1 ≤ xs.length → a ≠ c) : Row (xs ++ [c]) := by
  refine ⟨fun d hd => ?_, fun i a b h1 h2 => ?_⟩
  · rcases List.mem_append.mp hd with z | z
    · exact h.it d z
    · simp at z
      subst z
      exact hc
  · have hi := (List.getElem?_eq_some_iff.mp h2).1
    simp at hi
    rw [List.getElem?_append_left (by omega)] at h1
    by_cases q : i + 1 < xs.length
    · rw [List.getElem?_append_left q] at h2
      exact h.ap i a b h1 h2
    · have e : i + 1 = xs.length := by omega
      rw [List.getElem?_append_right (by omega), e, Nat.sub_self] at h2
      simp at h2
      subst h2
      exact hl a (by rw [← e]; simpa using h1) (by omega)
def fd : List Int → List Int → Nat
  | x :: xs, y :: ys => if x = y then fd xs ys + 1 else 0
  | _, _ => 0
end Law
namespace Law
open PySem L2 ML
section
variable {st : Store} {r q : Nat} {kvs : List (NestedKey × A)} {k : NestedKey} {y v : A} {Q : A → Store → Prop} {ρ : ML.Env} {N B C : ML.Env → Store → Prop} {Rt : A → Store → Prop}
@[simp] theorem stD_new : stD (st ++ [.oth (.dct kvs)]) st.length = some kvs := by simp [stD]
theorem Grown.stD {st st' : Store} (h : Grown st st') {i : Nat} {kvs : List (NestedKey × A)} (e : ML.stD st i = some kvs) : ML.stD st' i = some kvs := by
  unfold ML.stD
  rw [h.get (stD_eq e)]
theorem stL_lt {st : Store} {xs : List A} (e : stL st r = some xs) : r < st.length := (List.getElem?_eq_some_iff.mp (stL_eq e)).1
end
end Law
namespace Law
open PySem L2 ML
open Classical
def kyN : A → NestedKey
  | .int i => .num i
  | .str x => .text x
  | _ => .none
def tbl (T : List (A × A)) : List (NestedKey × A) := T.map fun p => (kyN p.1, p.2)
end Law
namespace Law
open PySem L2 ML
def cpd : Nd → Nd
  | .run b _ => b
  | .leaf e => .leaf e
  | .blk cs => .blk cs
def cps : Nd → Nat
  | .run _ t => t
  | _ => 1
def Gd (m : Nat) (c : Nd) : Prop := ∃ n : Int, 0 ≤ n ∧ n < 1000000 ∧ (c = .leaf (.int n) ∨ ∃ t, 2 ≤ t ∧ t ≤ m + 1 ∧ c = .run (.leaf (.int n)) t)
theorem Gd.mono {m k : Nat} {c : Nd} (h : Gd m c) (hk : m ≤ k) : Gd k c := by
  obtain ⟨n, h0, h1, h2⟩ := h
  refine ⟨n, h0, h1, ?_⟩
  rcases h2 with rfl | ⟨t, t1, t2, rfl⟩
  · exact .inl rfl
  · exact .inr ⟨t, t1, by omega, rfl⟩
theorem el_int {n : Int} (h0 : 0 ≤ n) (h1 : n < 1000000) : El (.int n) := .inl (.inr ⟨n, rfl, by omega, by omega⟩)
theorem Gd.it {m : Nat} {c : Nd} (h : Gd m c) (hm : m ≤ 300) : It1 c := by
  obtain ⟨n, h0, h1, h2⟩ := h
  have he := el_int h0 h1
  rcases h2 with rfl | ⟨t, t1, t2, rfl⟩
  · exact ⟨by simpa only [okN] using he, by simp only [szN]; omega, by simp only [dpN]; omega⟩
  · exact ⟨by simp only [okN]; exact ⟨he, t1, by omega⟩, by simp only [szN]; omega, by simp only [dpN]; omega⟩
structure GRow (m : Nat) (xs : List Nd) : Prop where
  gd : ∀ c ∈ xs, Gd m c
  ap : ∀ (i : Nat) a b, xs[i]? = some a → xs[i + 1]? = some b → cpd a ≠ cpd b
theorem GRow.row {m : Nat} {xs : List Nd} (h : GRow m xs) (hm : m ≤ 300) : Row xs := ⟨fun c hc => (h.gd c hc).it hm, fun i a b h1 h2 e => h.ap i a b h1 h2 (by rw [e])⟩
theorem GRow.add {m : Nat} {xs : List Nd} {n : Int} (h : GRow m xs) (h0 : 0 ≤ n) (h1 : n < 1000000) (hl : ∀ a, xs[xs.length - 1]? = some a → 1 ≤ xs.length → cpd a ≠ .leaf (.int n)) : GRow (m + 1) (xs ++ [.leaf (.int n)]) := by
  refine ⟨fun d hd => ?_, fun i a b h2 h3 => ?_⟩
  · rcases List.mem_append.mp hd with z | z
    · exact (h.gd d z).mono (by omega)
    · simp at z
      subst z
      exact ⟨n, h0, h1, .inl rfl⟩
  · have hi := (List.getElem?_eq_some_iff.mp h3).1
    simp at hi
    rw [List.getElem?_append_left (by omega)] at h2
    by_cases q : i + 1 < xs.length
    · rw [List.getElem?_append_left q] at h3
      exact h.ap i a b h2 h3
    · have e : i + 1 = xs.length := by omega
      rw [List.getElem?_append_right (by omega), e, Nat.sub_self] at h3
      simp at h3
      subst h3
      exact hl a (by rw [← e]; simpa using h2) (by omega)
end Law
namespace Law
open PySem L2 ML
theorem Row.app {xs ys : List Nd} (h : Row xs) (k : Row ys) (hm : ∀ a b, xs[xs.length - 1]? = some a → ys[0]? = some b → 1 ≤ xs.length → a ≠ b) : Row (xs ++ ys) := by
  refine ⟨fun d hd => ?_, fun i a b h1 h2 => ?_⟩
  · rcases List.mem_append.mp hd with z | z
    · exact h.it d z
    · exact k.it d z
  · by_cases q : i + 1 < xs.length
    · rw [List.getElem?_append_left (by omega)] at h1
      rw [List.getElem?_append_left q] at h2
      exact h.ap i a b h1 h2
    · by_cases q2 : i + 1 = xs.length
      · rw [List.getElem?_append_left (by omega)] at h1
        rw [List.getElem?_append_right (by omega), q2, Nat.sub_self] at h2
        exact hm a b (by rw [← q2]; simpa using h1) h2 (by omega)
      · rw [List.getElem?_append_right (by omega)] at h1
        rw [List.getElem?_append_right (by omega), show i + 1 - xs.length = i - xs.length + 1 by omega] at h2
        exact k.ap _ a b h1 h2
theorem Row.take {xs : List Nd} (h : Row xs) (n : Nat) : Row (xs.take n) := by
  refine ⟨fun d hd => h.it d (List.mem_of_mem_take hd), fun i a b h1 h2 => ?_⟩
  have l2 := (List.getElem?_eq_some_iff.mp h2).1
  simp at l2
  rw [List.getElem?_take_of_lt (by omega)] at h1 h2
  exact h.ap i a b h1 h2
theorem Row.drop {xs : List Nd} (h : Row xs) (n : Nat) : Row (xs.drop n) := by
  refine ⟨fun d hd => h.it d (List.mem_of_mem_drop hd), fun i a b h1 h2 => ?_⟩
  rw [List.getElem?_drop] at h1 h2
  exact h.ap (n + i) a b h1 (by rw [← h2]; congr 1)
def Sty (st st' : Store) : Prop := ∀ r ys, stL st r = some ys → r ≠ 0 → r ≠ 1 → stL st' r = some ys
theorem Sty.trans {a b c : Store} (h : Sty a b) (k : Sty b c) : Sty a c := fun r ys e r0 r1 => k r ys (h r ys e r0 r1) r0 r1
theorem Sty.grown {a b : Store} (h : Grown a b) : Sty a b := fun r ys e _ _ => h.stL e
theorem Sty.get {a b : Store} (h : Sty a b) {r : Nat} {ys : List A} (e : stL a r = some ys) (hr : 1 < r) : stL b r = some ys := h r ys e (by omega) (by omega)
end Law
namespace Law
open PySem L2 ML
def Old (st st' : Store) : Prop := ∀ r ys, stL st r = some ys → stL st' r = some ys
theorem Old.trans {a b c : Store} (h : Old a b) (k : Old b c) : Old a c := fun r ys e => k r ys (h r ys e)
theorem Old.grown {a b : Store} (h : Grown a b) : Old a b := fun r ys e => h.stL e
def OldB (st0 : Store) (r : Nat) (st : Store) : Prop := ∀ r' ys, stL st0 r' = some ys → stL st r' = some ys ∧ r' ≠ r
theorem OldB.old {st0 st : Store} {r : Nat} (h : OldB st0 r st) : Old st0 st := fun r' ys e => (h r' ys e).1
theorem OldB.grown {st0 st st' : Store} {r : Nat} (h : OldB st0 r st) (g : Grown st st') : OldB st0 r st' := fun r' ys e => ⟨g.stL (h r' ys e).1, (h r' ys e).2⟩
theorem OldB.set {st0 st : Store} {r : Nat} {o : Ob} (h : OldB st0 r st) : OldB st0 r (st.set r o) := fun r' ys e => by
  obtain ⟨h1, h2⟩ := h r' ys e
  refine ⟨?_, h2⟩
  unfold stL
  rw [List.getElem?_set_ne (Ne.symm h2)]
  exact h1
theorem OldB.new' {st0 st : Store} {r : Nat} (hr : st0.length ≤ r) (g : Grown st0 st) : OldB st0 r st := fun r' ys e => ⟨g.stL e, by
  have := (List.getElem?_eq_some_iff.mp (stL_eq e)).1
  omega⟩
theorem OldB.new {st0 st : Store} (g : Grown st0 st) : OldB st0 st0.length st := OldB.new' (Nat.le_refl _) g
end Law
namespace ML
abbrev Iv := Int × Int
theorem snoc_cases {α : Type} : ∀ (l : List α), l = [] ∨ ∃ l' a, l = l' ++ [a]
  | [] => .inl rfl
  | x :: l => .inr ⟨(x :: l).dropLast, (x :: l).getLast (by simp), (List.dropLast_concat_getLast _).symm⟩
def imax (a b : Int) : Int := if b > a then b else a
def imin (a b : Int) : Int := if b < a then b else a
def ovH (p q : Iv) : List Iv := if imax p.1 q.1 < imin p.2 q.2 then [(imax p.1 q.1, imin p.2 q.2)] else []
def ov : List Iv → List Iv → List Iv
  | [], _ => []
  | _ :: _, [] => []
  | p :: A, q :: B => ovH p q ++ (if p.2 < q.2 then ov A (q :: B) else ov (p :: A) B)
termination_by A B => A.length + B.length
end ML
namespace Law
open PySem L2 ML
structure Cont (most : Nat) (xs : List A) : Prop where
  el : ∀ x ∈ xs, El x
  len : xs.length ≤ most
theorem Cont.cmp {m : Nat} {xs : List A} (h : Cont m xs) (hm : m ≤ 1000000) : Cmp 2 (.tup xs) := Cmp.tup (d := 1) (fun x hx => el_cmp (h.el x hx)) (by have := h.len; omega)
theorem el_at {xs : List A} (h : ∀ x ∈ xs, El x) {n : Int} (h0 : 0 ≤ n) (h1 : n < xs.length) : ∃ x, atI xs n = some x ∧ El x := by
  refine ⟨xs[n.toNat]'(by omega), ?_, h _ (List.getElem_mem _)⟩
  rw [atI_nn h0]
  exact List.getElem?_eq_getElem (by omega)
def CtI (st0 : Store) (rp : Nat) (ps : List A) (most size : Int) (v4 v5 : Option A) (v6 : Option A) (i : Nat) (ρ : ML.Env) (st : Store) : Prop := ∃ (r7 : Nat) (xs : List A) (v8 v9 v10 : Option A), (∀ x ∈ xs, El x) ∧ xs.length ≤ size.toNat + 4 ∧ TpOk st ∧ Kp st0 st ∧ 1 < r7 ∧ stL st r7 = some xs ∧ ρ = [some (.ref 1), some (.ref rp), some (.int most), some (.int size), v4, v5, v6, some (.ref r7), v8, v9, v10]
theorem contents_wp {rp : Nat} {ps : List A} {most : Int} {st : Store} {Q : A → Store → Prop} (t : TpOk st) (hp : stL st rp = some ps) (hrp : 1 < rp) (he : ∀ x ∈ ps, El x) (hl : 1 ≤ ps.length) (hl2 : ps.length ≤ 1000) (h0 : 2 ≤ most) (h1 : most ≤ 10000)
    (k : ∀ (xs : List A) st', Cont most.toNat xs → TpOk st' → Kp st st' → Q (.tup xs) st') : (m_law_contents [.ref 1, .ref rp, .int most] st).wp Q := by
  simp only [m_law_contents]
  rw [wp_fn]
  refine ⟨rfl, ?_⟩
  simp only [List.map_cons, List.map_nil, List.cons_append, List.nil_append, List.replicate]
  generalize hF : @mFor = F
  refine seq_cut (fun ρ st1 => ∃ size : Int, 0 ≤ size ∧ size ≤ most ∧ TpOk st1 ∧ Kp st st1 ∧ ρ = [some (.ref 1), some (.ref rp), some (.int most), some (.int size), none, none, none, none, none, none, none]) ?_ ?_
  · simp only [sp_set, wp_bin, wp_call, wp_cons, wp_nil, wp_var, wp_c, List.getElem?_cons_succ, List.getElem?_cons_zero, Option.some.injEq, ex_eq, List.set_cons_zero, List.set_cons_succ, w_add]
    refine draw_wp t (by omega) fun n st1 na nb t1 k1 l1 => ?_
    exact ⟨n, na, by omega, t1, k1, rfl⟩
  rintro ρ st1 ⟨size, s0, s1, t1, k1, rfl⟩
  refine seq_cut (fun ρ st1 => ∃ size : Int, 0 ≤ size ∧ size ≤ most ∧ TpOk st1 ∧ Kp st st1 ∧ ρ = [some (.ref 1), some (.ref rp), some (.int most), some (.int size), none, none, none, none, none, none, none]) ?_ ?_
  · simp only [sp_ifs, wp_gb, wp_bin, wp_call, wp_cons, wp_nil, wp_var, wp_c, List.getElem?_cons_succ, List.getElem?_cons_zero, Option.some.injEq, ex_eq]
    refine draw_wp t1 (by decide) fun n st2 na nb t2 k2 l2 => ?_
    simp only [w_eq, w_getB, decide_eq_true_eq]
    split
    · simp only [sp_set, wp_bin, wp_lst, wp_call, wp_cons, wp_nil, wp_var, wp_c, List.getElem?_cons_succ, List.getElem?_cons_zero, Option.some.injEq, ex_eq, List.set_cons_zero, List.set_cons_succ]
      refine ⟨by simp [sizeLine], ?_⟩
      refine drawA_wp (xs := [.int 0, .int 1, .int 2, .int most]) t2 rfl (by simp) (by simp) fun x st3 hx t3 k3 => ?_
      have hk := (k1.trans k2).trans k3
      simp at hx
      rcases hx with rfl | rfl | rfl | rfl
      · exact ⟨0, by omega, by omega, t3, hk, rfl⟩
      · exact ⟨1, by omega, by omega, t3, hk, rfl⟩
      · exact ⟨2, by omega, by omega, t3, hk, rfl⟩
      · exact ⟨most, by omega, by omega, t3, hk, rfl⟩
    · exact ⟨size, s0, s1, t2, k1.trans k2, rfl⟩
  rintro ρ st2 ⟨size, s0, s1, t2, k2, rfl⟩
  refine seq_cut (fun ρ st3 => ∃ shape : Int, TpOk st3 ∧ Kp st st3 ∧ ρ = [some (.ref 1), some (.ref rp), some (.int most), some (.int size), some (.int shape), none, none, none, none, none, none]) ?_ ?_
  · simp only [sp_set, wp_call, wp_cons, wp_nil, wp_var, wp_c, List.getElem?_cons_succ, List.getElem?_cons_zero, Option.some.injEq, ex_eq, List.set_cons_zero, List.set_cons_succ]
    refine draw_wp t2 (by decide) fun n st3 na nb t3 k3 l3 => ?_
    exact ⟨n, t3, k2.trans k3, rfl⟩
  rintro ρ st3 ⟨shape, t3, k3, rfl⟩
  refine seq_cut (fun ρ st4 => ∃ first : Int, 0 ≤ first ∧ first < 40 ∧ TpOk st4 ∧ Kp st st4 ∧ ρ = [some (.ref 1), some (.ref rp), some (.int most), some (.int size), some (.int shape), some (.int first), none, none, none, none, none]) ?_ ?_
  · simp only [sp_set, wp_call, wp_cons, wp_nil, wp_var, wp_c, List.getElem?_cons_succ, List.getElem?_cons_zero, Option.some.injEq, ex_eq, List.set_cons_zero, List.set_cons_succ]
    refine draw_wp t3 (by decide) fun n st4 na nb t4 k4 l4 => ?_
    exact ⟨n, na, by omega, t4, k3.trans k4, rfl⟩
  rintro ρ st4 ⟨first, f0, f1, t4, k4, rfl⟩
  have hp4 := k4.stL hrp hp
  refine seq_cutR (fun ρ st5 => st5 = st4 ∧ ρ = [some (.ref 1), some (.ref rp), some (.int most), some (.int size), some (.int shape), some (.int first), none, none, none, none, none]) ?_ ?_
  · by_cases c : shape = 0
    · simp [c]
      refine ⟨by omega, ?_⟩
      refine lc_rng (fun i st' acc => st' = st4 ∧ Cont i acc) ⟨rfl, ⟨by simp, by simp⟩⟩ ?_ ?_
      · rintro i st' acc hi ⟨rfl, ha⟩
        refine ⟨_, rfl, ?_⟩
        have := ha.len
        simp
        refine ⟨by omega, fun x hx => ?_, by simp; omega⟩
        rcases List.mem_append.mp hx with z | z
        · exact ha.el x z
        · simp at z
          subst z
          exact el_nat (by omega) (by omega)
      · rintro st' acc ⟨rfl, ha⟩
        have := ha.len
        try simp
        exact k _ _ ⟨ha.el, by omega⟩ (t4.grown (.one _ _)) (k4.trans (Kp.grown (.one _ _)))
    · simp [c]
  rintro ρ st5 ⟨rfl, rfl⟩
  refine seq_cutR (fun ρ st6 => st6 = st5 ∧ ρ = [some (.ref 1), some (.ref rp), some (.int most), some (.int size), some (.int shape), some (.int first), none, none, none, none, none]) ?_ ?_
  · by_cases c : shape = 1
    · simp [c]
      refine ⟨by omega, ?_⟩
      refine lc_rng (fun i st' acc => TpOk st' ∧ Kp st st' ∧ Cont i acc ∧ acc.length = i) ⟨t4, k4, ⟨by simp, by simp⟩, rfl⟩ ?_ ?_
      · rintro i st' acc hi ⟨t', k', ha, hal⟩
        refine ⟨_, rfl, ?_⟩
        have hp' := k'.stL hrp hp
        simp [hp', -atI_nn]
        refine draw_wp t' (by omega) fun n st6 na nb t6 k6 l6 => ?_
        have hp6 := k6.stL hrp hp'
        obtain ⟨x, hx, hxe⟩ := el_at he na (by omega)
        simp [hp6, hx, -atI_nn]
        refine ⟨by omega, t6, k'.trans k6, ⟨fun y hy => ?_, by simp; omega⟩, by omega⟩
        rcases List.mem_append.mp hy with z | z
        · exact ha.el y z
        · simp at z
          subst z
          exact hxe
      · rintro st' part ⟨t', k', ha, hal⟩
        have hpl : 1 ≤ part.length := by omega
        have hpl2 : part.length ≤ 4 := by omega
        try simp
        refine ⟨by omega, ?_⟩
        refine lc_rng (fun i st6 acc => st6 = st' ++ [.lst part] ∧ Cont i acc ∧ acc.length = i) ⟨rfl, ⟨by simp, by simp⟩, rfl⟩ ?_ ?_
        · rintro i st6 acc hi ⟨rfl, hb, hbl⟩
          refine ⟨_, rfl, ?_⟩
          obtain ⟨x, hx, hxe⟩ := el_at (n := ((i : Int) % (part.length : Int))) ha.el (Int.emod_nonneg _ (by omega)) (Int.emod_lt_of_pos _ (by omega))
          simp [hx, -atI_nn]
          refine ⟨by omega, by omega, ⟨fun y hy => ?_, by simp; omega⟩, by omega⟩
          rcases List.mem_append.mp hy with z | z
          · exact hb.el y z
          · simp at z
            subst z
            exact hxe
        · rintro st6 acc ⟨rfl, hb, hbl⟩
          simp
          exact k _ _ ⟨hb.el, by omega⟩ (t'.grown ⟨_, rfl⟩) (k'.trans (Kp.grown ⟨_, rfl⟩))
    · simp [c]
  rintro ρ st6 ⟨rfl, rfl⟩
  have l6 := t4.len
  refine seq_cut (CtI st rp ps most size (some (.int shape)) (some (.int first)) none 0) ?_ ?_
  · simp
    exact ⟨_, [], none, none, none, by simp, by simp, t4.grown (.one _ _), k4.trans (Kp.grown (.one _ _)), by omega, stL_new, rfl⟩
  intro ρ st7 h7
  refine seq_cut (CtI st rp ps most size (some (.int shape)) (some (.int first)) none size.toNat) ?_ ?_
  · subst hF
    have h7' := h7
    obtain ⟨r7, xs, v8, v9, v10, _, _, _, _, _, _, rfl⟩ := h7
    simp only [sp_for, wp_rng, wp_cons, wp_nil, wp_var, List.getElem?_cons_succ, List.getElem?_cons_zero, Option.some.injEq, ex_eq, w_rng1]
    refine ⟨by omega, ?_⟩
    refine for_rng (CtI st rp ps most size (some (.int shape)) (some (.int first)) none) h7' ?_ (fun _ _ h => h)
    rintro i ρ st8 hi ⟨r7, xs, v8, v9, v10, a1, a2, a3, a4, a5, a6, rfl⟩
    refine ⟨_, rfl, ?_⟩
    have hp8 := a4.stL hrp hp
    simp only [List.set_cons_zero, List.set_cons_succ, sp_ifs, wp_gb, wp_bin, wp_ca, wp_cons, wp_nil, wp_var, List.getElem?_cons_succ, List.getElem?_cons_zero, Option.some.injEq, ex_eq, w_lenL, a6, w_lt, w_getB, decide_eq_true_eq]
    split
    · rename_i hlt
      refine seq_cut (fun ρ st9 => st9 = st8 ∧ ρ = [some (.ref 1), some (.ref rp), some (.int most), some (.int size), some (.int shape), some (.int first), none, some (.ref r7), some (.int (0 + (i : Int))), some (.int 1), v10]) ?_ ?_
      · simp
      rintro ρ st9 ⟨rfl, rfl⟩
      refine seq_cut (fun ρ st10 => ∃ m : Int, 1 ≤ m ∧ m ≤ 4 ∧ TpOk st10 ∧ Kp st9 st10 ∧ ρ = [some (.ref 1), some (.ref rp), some (.int most), some (.int size), some (.int shape), some (.int first), none, some (.ref r7), some (.int (0 + (i : Int))), some (.int m), v10]) ?_ ?_
      · by_cases c : shape = 2
        · simp [c]
          refine draw_wp a3 (by decide) fun n st10 na nb t10 k10 l10 => ?_
          simp
          exact ⟨1 + n, by omega, by omega, t10, k10, rfl⟩
        · simp [c]
          exact ⟨1, by omega, by omega, a3, .refl _, rfl⟩
      rintro ρ st10 ⟨m, m1, m2, t10, k10, rfl⟩
      have hp10 := k10.stL hrp hp8
      have h710 := k10.stL a5 a6
      refine seq_cut (fun ρ st11 => ∃ x : A, El x ∧ TpOk st11 ∧ Kp st10 st11 ∧ ρ = [some (.ref 1), some (.ref rp), some (.int most), some (.int size), some (.int shape), some (.int first), none, some (.ref r7), some (.int (0 + (i : Int))), some (.int m), some x]) ?_ ?_
      · simp [hp10, -atI_nn]
        refine draw_wp t10 (by omega) fun n st11 na nb t11 k11 l11 => ?_
        obtain ⟨x, hx, hxe⟩ := el_at he na (by omega)
        simp [k11.stL hrp hp10, hx, -atI_nn]
        exact ⟨x, hxe, t11, k11, rfl⟩
      rintro ρ st11 ⟨x, hx, t11, k11, rfl⟩
      have h711 := k11.stL a5 h710
      have l11 := t11.len
      simp only [sp_set, wp_bin, wp_var, wp_lst, wp_cons, wp_nil, List.getElem?_cons_succ, List.getElem?_cons_zero, Option.some.injEq, ex_eq, w_mulL, stL_new]
      refine ⟨by simp [sizeLine], ⟨by omega, by omega, by simp [sizeLine]; omega⟩, ?_⟩
      rw [w_addL]
      refine ⟨_, Grown.stL ((Grown.one _ _).trans (.one _ _)) h711, _, stL_new, by simp [sizeLine]; omega, ?_⟩
      refine ⟨_, _, _, _, _, ?_, ?_, ((t11.grown (.one _ _)).grown (.one _ _)).grown (.one _ _), ((a4.trans k10).trans k11).trans (((Kp.grown (.one _ _)).trans (Kp.grown (.one _ _))).trans (Kp.grown (.one _ _))), by simp, stL_new, rfl⟩
      · intro y hy
        rcases List.mem_append.mp hy with z | z
        · exact a1 y z
        · simp at z
          rw [z.2]
          exact hx
      · simp
        omega
    · simp only [sp_next]
      exact ⟨r7, xs, _, v9, v10, a1, a2, a3, a4, a5, a6, rfl⟩
  subst hF
  rintro ρ st8 ⟨r7, xs, v8, v9, v10, a1, a2, a3, a4, a5, a6, rfl⟩
  simp only [sp_ret, wp_ca, wp_cons, wp_nil, wp_sl, wp_noPart, wp_part, wp_var, List.getElem?_cons_succ, List.getElem?_cons_zero, Option.some.injEq, ex_eq, w_getI, w_slL, a6]
  rw [cut_to s0, w_tupL, stL_new]
  refine ⟨_, rfl, ?_⟩
  exact k _ _ ⟨fun x hx => a1 x (List.mem_of_mem_take hx), by simp; omega⟩ (a3.grown (.one _ _)) (a4.trans (Kp.grown (.one _ _)))
structure Pl (d : Nat) (a : A) : Prop where
  pl : plainA a = true
  fw : fewA a = true
  dp : depA a ≤ d
theorem Cmp.toPl {d : Nat} {a : A} (h : Cmp d a) : Pl d a := ⟨plain_of_clean h.cl, h.fw, h.dp⟩
theorem Pl.mono {d e : Nat} {a : A} (h : Pl d a) (k : d ≤ e) : Pl e a := ⟨h.pl, h.fw, Nat.le_trans h.dp k⟩
theorem pl_bl {d : Nat} (b : Bool) : Pl d (.bl b) := ⟨rfl, rfl, by simp [depA]⟩
theorem pl_int {d : Nat} (i : Int) : Pl d (.int i) := ⟨rfl, rfl, by simp [depA]⟩
theorem pl_str {d : Nat} (x : Str) : Pl d (.str x) := ⟨rfl, rfl, by simp [depA]⟩
theorem pls {d : Nat} : ∀ {xs : List A}, (∀ x ∈ xs, Pl d x) → plainAs xs = true ∧ fewAs xs = true ∧ depAs xs ≤ d
  | [], _ => ⟨rfl, rfl, by simp [depAs]⟩
  | x :: xs, h => by
    have h1 := h x (by simp)
    obtain ⟨a1, a2, a3⟩ := pls (xs := xs) (d := d) fun y hy => h y (by simp [hy])
    simp only [plainAs, fewAs, depAs, h1.pl, h1.fw, a1, a2, Bool.and_self, true_and]
    have := h1.dp
    omega
theorem Pl.tup {d : Nat} {xs : List A} (h : ∀ x ∈ xs, Pl d x) (hl : xs.length ≤ 1000000) : Pl (d + 1) (.tup xs) := by
  obtain ⟨a1, a2, a3⟩ := pls h
  refine ⟨a1, ?_, ?_⟩
  · simp only [fewA, a2, Bool.and_true]
    simp
    omega
  · simp only [depA]
    omega
theorem Cont.pl {m : Nat} {xs : List A} (h : Cont m xs) (hm : m ≤ 1000000) : Pl 2 (.tup xs) := (h.cmp hm).toPl
theorem alikeB_pl {a : A} {st : Store} {Q : A → Store → Prop} (h : Pl 39 a) (k : ∀ st', Grown st st' → Q (.bl true) st') : (m_law_alikeB 40 [a, a] st).wp Q :=
  alikeB_wp 40 h.pl h.fw (by have := h.dp; omega) k
theorem Cont.take {m : Nat} {xs : List A} (h : Cont m xs) (n : Nat) : Cont m (xs.take n) := ⟨fun x hx => h.el x (List.mem_of_mem_take hx), by have := h.len; simp; omega⟩
theorem Cont.drop {m : Nat} {xs : List A} (h : Cont m xs) (n : Nat) : Cont m (xs.drop n) := ⟨fun x hx => h.el x (List.mem_of_mem_drop hx), by have := h.len; simp; omega⟩
theorem Cont.app {m n k : Nat} {xs ys : List A} (h : Cont m xs) (g : Cont n ys) (hk : m + n ≤ k) : Cont k (xs ++ ys) := ⟨fun x hx => (List.mem_append.mp hx).elim (h.el x) (g.el x), by have := h.len; have := g.len; simp; omega⟩
theorem Cont.mono {m n : Nat} {xs : List A} (h : Cont m xs) (k : m ≤ n) : Cont n xs := ⟨h.el, Nat.le_trans h.len k⟩
theorem cont_rg {n : Int} (h : n ≤ 1000000) : Cont n.toNat (rgA 0 n) := ⟨fun x hx => by
  unfold rgA at hx
  rw [List.mem_map] at hx
  obtain ⟨i, hi, rfl⟩ := hx
  have := List.mem_range.mp hi
  exact el_nat (by omega) (by omega), by simp [rgA]⟩
theorem pl_told {w : Str} {a b c : A} {d : Nat} (ha : Pl d a) (hb : Pl d b) (hc : Pl d c) : Pl (d + 1) (.tup [.str w, a, b, c]) := Pl.tup (fun x hx => by
  simp at hx
  rcases hx with rfl | rfl | rfl | rfl
  · exact pl_str _
  · exact ha
  · exact hb
  · exact hc) (by simp)
end Law
namespace Law
open PySem L2 ML
def m_check_count : MF := mFn 1 1 (mIfS (mGB (mBin gtA (mVar 0) (mC (.int 2000)))) (mRaise "TooManyElements" "count" (mVar 0)) mNext)
abbrev tooMany (n : Int) : Er := ⟨"TooManyElements", [("count", .int n)]⟩
theorem check_eq (n : Int) (st : Store) : m_check_count [.int n] st = if 2000 < n then .er (tooMany n) st else .ok .non st := by
  by_cases c : 2000 < n
  · rw [if_pos c]
    simp [m_check_count, mFn, mIfS, mGB, mBin, mVar, mC, gtA, getB, R.bind, R.toS, c, mRaise]
  · rw [if_neg c]
    simp [m_check_count, mFn, mIfS, mGB, mBin, mVar, mC, gtA, getB, R.bind, R.toS, c, mNext]
theorem rep_len {α : Type} (xs : List α) (k : Nat) : (List.replicate k xs).flatten.length = k * xs.length := by simp
theorem wp_is {α : Type} {r : R α} {a : α} {st : Store} (h : r.wp fun x s => x = a ∧ s = st) : r = .ok a st := by
  obtain ⟨x, s, q, r1, r2⟩ := R.wp.ex h
  rw [q, r1, r2]
end Law
namespace Law
open PySem L2 ML
open Classical
structure Ed where
  s : Nat
  e : Nat
  x : List A
def edA (d : Ed) : A := .tup [.int d.s, .int d.e, .tup d.x]
structure EdB (d : Ed) : Prop where
  s : d.s ≤ 100000
  e : d.e ≤ 100000
  x : ∀ y ∈ d.x, El y
  l : d.x.length ≤ 1000
def EdsAt (n : Nat) : Nat → List Ed → Prop
  | _, [] => True
  | p, d :: r => p ≤ d.s ∧ d.s ≤ d.e ∧ d.e ≤ n ∧ (d.s = d.e → d.x ≠ []) ∧ EdsAt n (d.e + 1) r
theorem eds_mem {n : Nat} : ∀ {p : Nat} {E : List Ed}, EdsAt n p E → ∀ d ∈ E, p ≤ d.s ∧ d.s ≤ d.e ∧ d.e ≤ n ∧ (d.s = d.e → d.x ≠ [])
  | p, c :: E, h, d, hd => by
    obtain ⟨a1, a2, a3, a4, a5⟩ := h
    rcases List.mem_cons.mp hd with rfl | hd
    · exact ⟨a1, a2, a3, a4⟩
    · obtain ⟨b1, b2⟩ := eds_mem a5 d hd
      exact ⟨by omega, b2⟩
theorem eds_le {n : Nat} : ∀ {p q : Nat} {E : List Ed}, EdsAt n p E → q ≤ p → EdsAt n q E
  | p, q, [], _, _ => True.intro
  | p, q, c :: E, h, hq => ⟨by have := h.1; omega, h.2⟩
theorem eds_sub {n : Nat} : ∀ {E F : List Ed}, List.Sublist F E → ∀ {p : Nat}, EdsAt n p E → EdsAt n p F
  | _, _, .slnil, _, _ => True.intro
  | _, _, .cons c q, p, h => by
    obtain ⟨a1, a2, a3, a4, a5⟩ := h
    exact eds_le (eds_sub q a5) (by omega)
  | _, _, .cons_cons c q, p, h => by
    obtain ⟨a1, a2, a3, a4, a5⟩ := h
    exact ⟨a1, a2, a3, a4, eds_sub q a5⟩
structure Eds (n : Nat) (E : List Ed) : Prop where
  at_ : EdsAt n 0 E
  x : ∀ d ∈ E, (∀ y ∈ d.x, El y) ∧ d.x.length ≤ 3
theorem Eds.b {n : Nat} {E : List Ed} (h : Eds n E) (hn : n ≤ 100000) : ∀ d ∈ E, EdB d := fun d hd => by
  obtain ⟨b1, b2, b3, b4⟩ := eds_mem h.at_ d hd
  exact ⟨by omega, by omega, (h.x d hd).1, by have := (h.x d hd).2; omega⟩
theorem Eds.sub {n : Nat} {E F : List Ed} (h : Eds n E) (s : List.Sublist F E) : Eds n F := ⟨eds_sub s h.at_, fun d hd => h.x d (s.subset hd)⟩
end Law
namespace Law
open PySem L2 ML
open Classical
inductive Pc where
  | kp (a b : Nat)
  | is (xs : List A)
inductive Og where
  | kp (i : Nat)
  | is (x : A)
def pcA : Pc → A
  | .kp a b => .tup [.str "kept", .int a, .int b]
  | .is xs => .tup [.str "inserted", .tup xs]
def kpL (a n : Nat) : List Og := (List.range n).map fun i => .kp (a + i)
theorem kpL_len {a n : Nat} : (kpL a n).length = n := by simp [kpL]
theorem kpL_get {a n i : Nat} : (kpL a n)[i]? = if i < n then some (.kp (a + i)) else none := by
  unfold kpL
  rw [List.getElem?_map]
  by_cases h : i < n
  · rw [List.getElem?_range h, if_pos h]
    rfl
  · rw [if_neg h, List.getElem?_eq_none (by simp; omega)]
    rfl
theorem kpL_take {a n m : Nat} (h : m ≤ n) : (kpL a n).take m = kpL a m := List.ext_getElem? fun i => by
  rw [List.getElem?_take, kpL_get, kpL_get]
  by_cases c : i < m
  · rw [if_pos c, if_pos (by omega), if_pos c]
  · rw [if_neg c, if_neg c]
theorem kpL_drop {a n m : Nat} : (kpL a n).drop m = kpL (a + m) (n - m) := List.ext_getElem? fun i => by
  rw [List.getElem?_drop, kpL_get, kpL_get]
  by_cases c : m + i < n
  · rw [if_pos c, if_pos (by omega), Nat.add_assoc]
  · rw [if_neg c, if_neg (by omega)]
theorem kpL_app {a m n : Nat} : kpL a m ++ kpL (a + m) n = kpL a (m + n) := List.ext_getElem? fun i => by
  by_cases c : i < m
  · rw [List.getElem?_append_left (by rw [kpL_len]; exact c), kpL_get, kpL_get, if_pos c, if_pos (by omega)]
  · rw [List.getElem?_append_right (by rw [kpL_len]; omega), kpL_len, kpL_get, kpL_get]
    by_cases d : i < m + n
    · rw [if_pos (by omega), if_pos d, show a + m + (i - m) = a + i by omega]
    · rw [if_neg (by omega), if_neg d]
theorem kpL_succ {a n : Nat} : kpL a (n + 1) = kpL a n ++ [.kp (a + n)] := kpL_app.symm
def ogs1 : Pc → List Og
  | .kp a b => kpL a (b - a)
  | .is xs => xs.map .is
def ogs (P : List Pc) : List Og := P.flatMap ogs1
def lenP : Pc → Nat
  | .kp a b => b - a
  | .is xs => xs.length
def PcOk : Pc → Prop
  | .kp a b => a ≤ b
  | .is _ => True
theorem ogs1_len (p : Pc) : (ogs1 p).length = lenP p := by cases p <;> simp [ogs1, lenP, kpL_len]
theorem ogs_app (P Q : List Pc) : ogs (P ++ Q) = ogs P ++ ogs Q := by simp [ogs]
theorem ogs_cons (p : Pc) (P : List Pc) : ogs (p :: P) = ogs1 p ++ ogs P := by simp [ogs]
theorem ogs_one (p : Pc) : ogs [p] = ogs1 p := by simp [ogs]
theorem ogs_nil : ogs [] = [] := rfl
def partP : Pc → Nat → Nat → Pc
  | .kp a b, s, e => .kp (a + s) (a + e)
  | .is xs, s, e => .is ((xs.take e).drop s)
theorem part_ogs {p : Pc} {s e : Nat} (h : e ≤ lenP p) (hs : s ≤ e) : ogs1 (partP p s e) = ((ogs1 p).take e).drop s := by
  cases p with
  | kp a b =>
    simp only [partP, ogs1, lenP] at *
    rw [kpL_take h, kpL_drop, show a + e - (a + s) = e - s by omega]
  | is xs => simp only [partP, ogs1, List.map_take, List.map_drop]
theorem part_ok {p : Pc} {s e : Nat} (hs : s ≤ e) : PcOk (partP p s e) := by
  cases p with
  | kp a b => exact Nat.add_le_add_left hs a
  | is xs => trivial
def partsP : Nat → Nat → List Pc → List Pc
  | _, _, [] => []
  | s, e, p :: r => (if s < min e (lenP p) then [partP p s (min e (lenP p))] else []) ++ partsP (s - lenP p) (e - lenP p) r
theorem ptsP_ok {P : List Pc} : ∀ {s e : Nat}, ∀ p ∈ partsP s e P, PcOk p := by
  induction P with
  | nil => intro s e p hp; cases hp
  | cons q r ih =>
    intro s e p hp
    simp only [partsP, List.mem_append] at hp
    rcases hp with hp | hp
    · split at hp
      · rw [List.mem_singleton.mp hp]
        exact part_ok (by omega)
      · cases hp
    · exact ih p hp
theorem parts_ogs {P : List Pc} : ∀ {s e : Nat}, ogs (partsP s e P) = ((ogs P).take e).drop s := by
  induction P with
  | nil => intro s e; simp [partsP, ogs]
  | cons q r ih =>
    intro s e
    simp only [partsP, ogs_app, ogs_cons, ih]
    rw [List.take_append, List.drop_append, ogs1_len, List.length_take, ogs1_len]
    congr 1
    · by_cases c : s < min e (lenP q)
      · rw [if_pos c, ogs_one, part_ogs (by omega) (by omega)]
        by_cases d : e ≤ lenP q
        · rw [Nat.min_eq_left d]
        · rw [Nat.min_eq_right (by omega), List.take_of_length_le (by rw [ogs1_len]; omega), List.take_of_length_le (by rw [ogs1_len]; omega)]
      · rw [if_neg c, ogs_nil]
        exact (List.drop_of_length_le (by rw [List.length_take, ogs1_len]; omega)).symm
    · by_cases c : e ≤ lenP q
      · rw [show e - lenP q = 0 by omega]
        simp
      · rw [Nat.min_eq_right (by omega)]
def lenS (P : List Pc) : Nat := (ogs P).length
theorem lenS_nil : lenS [] = 0 := rfl
theorem lenS_snoc (P : List Pc) (p : Pc) : lenS (P ++ [p]) = lenS P + lenP p := by simp [lenS, ogs_app, ogs_one, ogs1_len]
theorem lenS_cons (P : List Pc) (p : Pc) : lenS (p :: P) = lenP p + lenS P := by simp [lenS, ogs_cons, ogs1_len]
theorem parts_snoc {P : List Pc} {p : Pc} : ∀ {s e : Nat}, partsP s e (P ++ [p]) = partsP s e P ++ (if s - lenS P < min (e - lenS P) (lenP p) then [partP p (s - lenS P) (min (e - lenS P) (lenP p))] else []) := by
  induction P with
  | nil => intro s e; simp only [List.nil_append, partsP, lenS_nil, List.append_nil]; rfl
  | cons q r ih =>
    intro s e
    simp only [List.cons_append, partsP, ih, lenS_cons, List.append_assoc, Nat.sub_sub]
def canJ : Pc → Pc → Bool
  | .kp _ b, .kp c _ => decide (b = c)
  | .is _, .is _ => true
  | _, _ => false
def joinP : Pc → Pc → Pc
  | .kp a _, .kp _ d => .kp a d
  | .is x, .is y => .is (x ++ y)
  | p, _ => p
def stepP (F : List Pc) (p : Pc) : List Pc := match F.getLast? with
  | some l => if canJ l p then F.dropLast ++ [joinP l p] else if 0 < lenP p then F ++ [p] else F
  | none => if 0 < lenP p then F ++ [p] else F
theorem step_n1 {p : Pc} (h : 0 < lenP p) : stepP [] p = [p] := by
  unfold stepP
  simp only [List.getLast?_nil, if_pos h, List.nil_append]
theorem step_n0 {p : Pc} (h : lenP p = 0) : stepP [] p = [] := by
  unfold stepP
  simp only [List.getLast?_nil, if_neg (show ¬ 0 < lenP p by omega)]
theorem step_j {F : List Pc} {l p : Pc} (h : canJ l p = true) : stepP (F ++ [l]) p = F ++ [joinP l p] := by
  unfold stepP
  simp only [List.getLast?_concat, List.dropLast_concat, if_pos h]
theorem step_a {F : List Pc} {l p : Pc} (h : canJ l p = false) (h2 : 0 < lenP p) : stepP (F ++ [l]) p = (F ++ [l]) ++ [p] := by
  unfold stepP
  simp only [List.getLast?_concat, h, Bool.false_eq_true, if_false, if_pos h2]
theorem step_z {F : List Pc} {l p : Pc} (h : canJ l p = false) (h2 : lenP p = 0) : stepP (F ++ [l]) p = F ++ [l] := by
  unfold stepP
  simp only [List.getLast?_concat, h, Bool.false_eq_true, if_false, if_neg (show ¬ 0 < lenP p by omega)]
theorem snoc_cases (F : List Pc) : F = [] ∨ ∃ G l, F = G ++ [l] := by
  rcases List.eq_nil_or_concat F with h | ⟨G, l, h⟩
  · exact .inl h
  · exact .inr ⟨G, l, by rw [h]; simp⟩
theorem step_kp0 {a : Nat} (F : List Pc) : stepP F (.kp a a) = F := by
  have z : lenP (.kp a a) = 0 := Nat.sub_self a
  rcases snoc_cases F with rfl | ⟨G, l, rfl⟩
  · exact step_n0 z
  · cases l with
    | kp x y =>
      by_cases e : y = a
      · rw [step_j (by simp [canJ, e])]
        simp [joinP, e]
      · exact step_z (by simp [canJ, e]) z
    | is zs => exact step_z rfl z
theorem step_is0 (F : List Pc) : stepP F (.is []) = F := by
  rcases snoc_cases F with rfl | ⟨G, l, rfl⟩
  · exact step_n0 rfl
  · cases l with
    | kp x y => exact step_z rfl rfl
    | is zs =>
      rw [step_j rfl]
      simp [joinP]
theorem step_kp {a b c : Nat} (F : List Pc) (h : a ≤ b) (h2 : b ≤ c) : stepP (stepP F (.kp a b)) (.kp b c) = stepP F (.kp a c) := by
  by_cases d : a = b
  · rw [d, step_kp0]
  · have l1 : 0 < lenP (.kp a b) := by show 0 < b - a; omega
    have l2 : 0 < lenP (.kp a c) := by show 0 < c - a; omega
    have jj : ∀ x, canJ (.kp x b) (.kp b c) = true := fun x => by simp [canJ]
    rcases snoc_cases F with rfl | ⟨G, l, rfl⟩
    · rw [step_n1 l1, step_n1 l2, show [Pc.kp a b] = [] ++ [Pc.kp a b] from rfl, step_j (jj a)]
      rfl
    · by_cases cj : canJ l (.kp a b) = true
      · have cj2 : canJ l (.kp a c) = true := by cases l <;> simpa [canJ] using cj
        rw [step_j cj, step_j cj2]
        cases l with
        | kp x y => exact step_j (jj x)
        | is zs => cases cj
      · rw [Bool.not_eq_true] at cj
        have cj2 : canJ l (.kp a c) = false := by cases l <;> simpa [canJ] using cj
        rw [step_a cj l1, step_a cj2 l2, step_j (jj a)]
        rfl
theorem step_is {x y : List A} (F : List Pc) : stepP (stepP F (.is x)) (.is y) = stepP F (.is (x ++ y)) := by
  cases x with
  | nil => rw [step_is0]; rfl
  | cons u us =>
    have l1 : 0 < lenP (.is (u :: us)) := Nat.succ_pos _
    have l2 : 0 < lenP (.is (u :: us ++ y)) := Nat.succ_pos _
    rcases snoc_cases F with rfl | ⟨G, l, rfl⟩
    · rw [step_n1 l1, step_n1 l2, show [Pc.is (u :: us)] = [] ++ [Pc.is (u :: us)] from rfl, step_j rfl]
      rfl
    · cases l with
      | is zs =>
        rw [step_j rfl, step_j rfl]
        simp only [joinP]
        rw [step_j rfl]
        simp only [joinP, List.append_assoc]
      | kp c d =>
        rw [step_a rfl l1, step_a rfl l2, step_j rfl]
        rfl
def pc1 : Og → Pc
  | .kp i => .kp i (i + 1)
  | .is x => .is [x]
def pcsO (L : List Og) : List Pc := (L.map pc1).foldl stepP []
theorem step_ogs {p : Pc} (F : List Pc) (h : PcOk p) : stepP F p = ((ogs1 p).map pc1).foldl stepP F := by
  cases p with
  | kp a b =>
    have key : ∀ n, stepP F (.kp a (a + n)) = ((kpL a n).map pc1).foldl stepP F := by
      intro n
      induction n with
      | zero => rw [Nat.add_zero, step_kp0]; rfl
      | succ n ih =>
        rw [kpL_succ, List.map_append, List.foldl_append, ← ih]
        simp only [List.map_cons, List.map_nil, List.foldl_cons, List.foldl_nil, pc1]
        rw [step_kp F (by omega) (by omega)]
        rfl
    have h : a ≤ b := h
    have := key (b - a)
    rw [show a + (b - a) = b by omega] at this
    exact this
  | is xs =>
    have key : ∀ (xs : List A) (F : List Pc), stepP F (.is xs) = ((xs.map Og.is).map pc1).foldl stepP F := by
      intro xs
      induction xs with
      | nil => intro F; exact step_is0 F
      | cons x xs ih =>
        intro F
        rw [List.map_cons, List.map_cons, List.foldl_cons, ← ih, pc1, step_is]
        rfl
    exact key xs F
def tidyP (P : List Pc) : List Pc := P.foldl stepP []
theorem tidy_from {P : List Pc} : ∀ {F : List Pc}, (∀ p ∈ P, PcOk p) → P.foldl stepP F = ((ogs P).map pc1).foldl stepP F := by
  induction P with
  | nil => intro F _; rfl
  | cons p r ih =>
    intro F h
    rw [List.foldl_cons, ogs_cons, List.map_append, List.foldl_append, ← step_ogs F (h p (List.mem_cons_self ..))]
    exact ih fun q hq => h q (List.mem_cons_of_mem _ hq)
theorem tidy_ogs {P : List Pc} (h : ∀ p ∈ P, PcOk p) : tidyP P = pcsO (ogs P) := tidy_from h
theorem ogs_step {F : List Pc} {p : Pc} (hF : ∀ q ∈ F, PcOk q) (h : PcOk p) : ogs (stepP F p) = ogs F ++ ogs1 p ∧ ∀ q ∈ stepP F p, PcOk q := by
  have z : ∀ {p : Pc}, ¬ 0 < lenP p → ogs1 p = [] := fun {p} hz => List.length_eq_zero_iff.mp (by rw [ogs1_len]; omega)
  rcases snoc_cases F with rfl | ⟨G, l, rfl⟩
  · by_cases c : 0 < lenP p
    · rw [step_n1 c]
      exact ⟨by simp [ogs_one, ogs_nil], fun q hq => by rw [List.mem_singleton.mp hq]; exact h⟩
    · rw [step_n0 (by omega), z c]
      exact ⟨by simp, hF⟩
  · have hl := hF l (by simp)
    by_cases cj : canJ l p = true
    · rw [step_j cj]
      refine ⟨?_, fun q hq => ?_⟩
      · rw [ogs_app, ogs_app, ogs_one, ogs_one, List.append_assoc]
        congr 1
        cases l <;> cases p <;> simp only [canJ, Bool.false_eq_true, decide_eq_true_eq] at cj
        · rename_i a b c d
          subst cj
          simp only [joinP, ogs1, PcOk] at *
          have := kpL_app (a := a) (m := b - a) (n := d - b)
          rw [show a + (b - a) = b by omega, show b - a + (d - b) = d - a by omega] at this
          exact this.symm
        · simp [joinP, ogs1]
      · rcases List.mem_append.mp hq with hq | hq
        · exact hF q (by simp [hq])
        · rw [List.mem_singleton.mp hq]
          cases l <;> cases p <;> simp only [canJ, Bool.false_eq_true, decide_eq_true_eq] at cj
          · subst cj
            simp only [joinP, PcOk] at *
            omega
          · trivial
    · rw [Bool.not_eq_true] at cj
      by_cases c : 0 < lenP p
      · rw [step_a cj c]
        refine ⟨by rw [ogs_app (G ++ [l]), ogs_one], fun q hq => ?_⟩
        rcases List.mem_append.mp hq with hq | hq
        · exact hF q hq
        · rw [List.mem_singleton.mp hq]
          exact h
      · rw [step_z cj (by omega), z c]
        exact ⟨by simp, hF⟩
theorem ogs_pcs : ∀ (L : List Og) (F : List Pc), (∀ q ∈ F, PcOk q) → ogs ((L.map pc1).foldl stepP F) = ogs F ++ L ∧ ∀ q ∈ (L.map pc1).foldl stepP F, PcOk q
  | [], F, h => ⟨by simp, h⟩
  | o :: L, F, h => by
    have ho : PcOk (pc1 o) := by cases o <;> simp [pc1, PcOk]
    obtain ⟨h1, h2⟩ := ogs_step h ho
    obtain ⟨h3, h4⟩ := ogs_pcs L _ h2
    refine ⟨?_, h4⟩
    rw [List.map_cons, List.foldl_cons, h3, h1, List.append_assoc]
    congr 1
    cases o <;> simp [pc1, ogs1, kpL]
theorem pcs_ogs (L : List Og) : ogs (pcsO L) = L := by
  have := (ogs_pcs L [] (fun q hq => by cases hq)).1
  rw [ogs_nil, List.nil_append] at this
  exact this
theorem pcs_ok (L : List Og) : ∀ q ∈ pcsO L, PcOk q := (ogs_pcs L [] (fun q hq => by cases hq)).2
def valO (base : List A) : Og → A
  | .kp i => base.getD i .non
  | .is x => x
def OgB (n : Nat) : Og → Prop
  | .kp i => i < n
  | .is x => El x
def PcB (n : Nat) : Pc → Prop
  | .kp a b => a ≤ b ∧ b ≤ n
  | .is xs => ∀ x ∈ xs, El x
theorem val_kp {base : List A} {a b : Nat} (h : b ≤ base.length) : (ogs1 (.kp a b)).map (valO base) = (base.take b).drop a := List.ext_getElem? fun i => by
  simp only [ogs1]
  rw [List.getElem?_map, kpL_get, List.getElem?_drop, List.getElem?_take]
  by_cases c : a + i < b
  · rw [if_pos (by omega), if_pos c, List.getElem?_eq_getElem (show a + i < base.length by omega)]
    simp [valO, show a + i < base.length by omega]
  · rw [if_neg (by omega), if_neg c]
    rfl
theorem val_is {base xs : List A} : (ogs1 (.is xs)).map (valO base) = xs := by
  simp only [ogs1, List.map_map]
  exact List.map_id' xs
theorem kpL_mem {a n : Nat} {o : Og} (h : o ∈ kpL a n) : ∃ i, o = .kp i ∧ a ≤ i ∧ i < a + n := by
  simp only [kpL, List.mem_map, List.mem_range] at h
  obtain ⟨i, hi, rfl⟩ := h
  exact ⟨a + i, rfl, by omega, by omega⟩
theorem pcb_step {n : Nat} {F : List Pc} {p : Pc} (hF : ∀ q ∈ F, PcB n q) (h : PcB n p) : ∀ q ∈ stepP F p, PcB n q := by
  rcases snoc_cases F with rfl | ⟨G, l, rfl⟩
  · by_cases c : 0 < lenP p
    · rw [step_n1 c]
      exact fun q hq => by rw [List.mem_singleton.mp hq]; exact h
    · rw [step_n0 (by omega)]
      exact hF
  · have hl := hF l (by simp)
    by_cases cj : canJ l p = true
    · rw [step_j cj]
      intro q hq
      rcases List.mem_append.mp hq with hq | hq
      · exact hF q (by simp [hq])
      · rw [List.mem_singleton.mp hq]
        cases l <;> cases p <;> simp only [canJ, Bool.false_eq_true, decide_eq_true_eq] at cj
        · subst cj
          simp only [joinP, PcB] at *
          omega
        · simp only [joinP, PcB] at *
          intro x hx
          exact (List.mem_append.mp hx).elim (hl x) (h x)
    · rw [Bool.not_eq_true] at cj
      by_cases c : 0 < lenP p
      · rw [step_a cj c]
        intro q hq
        rcases List.mem_append.mp hq with hq | hq
        · exact hF q hq
        · rw [List.mem_singleton.mp hq]
          exact h
      · rw [step_z cj (by omega)]
        exact hF
theorem pcs_b {n : Nat} {L : List Og} (h : ∀ o ∈ L, OgB n o) : ∀ p ∈ pcsO L, PcB n p := by
  have key : ∀ (L : List Og) (F : List Pc), (∀ o ∈ L, OgB n o) → (∀ q ∈ F, PcB n q) → ∀ q ∈ (L.map pc1).foldl stepP F, PcB n q := by
    intro L
    induction L with
    | nil => intro F _ hF; exact hF
    | cons o L ih =>
      intro F hL hF
      rw [List.map_cons, List.foldl_cons]
      refine ih _ (fun p hp => hL p (List.mem_cons_of_mem _ hp)) (pcb_step hF ?_)
      have := hL o (List.mem_cons_self ..)
      cases o with
      | kp i =>
        simp only [OgB, pc1, PcB] at *
        omega
      | is x =>
        simp only [OgB, pc1, PcB] at *
        intro y hy
        rw [List.mem_singleton.mp hy]
        exact this
  exact key L [] h fun q hq => by cases hq
theorem step_len (F : List Pc) (p : Pc) : (stepP F p).length ≤ F.length + 1 := by
  rcases snoc_cases F with rfl | ⟨G, l, rfl⟩
  · by_cases c : 0 < lenP p
    · rw [step_n1 c]; simp
    · rw [step_n0 (by omega)]; simp
  · by_cases cj : canJ l p = true
    · rw [step_j cj]; simp
    · rw [Bool.not_eq_true] at cj
      by_cases c : 0 < lenP p
      · rw [step_a cj c]; simp
      · rw [step_z cj (by omega)]; simp
theorem pcs_len (L : List Og) : (pcsO L).length ≤ L.length := by
  have key : ∀ (L : List Og) (F : List Pc), ((L.map pc1).foldl stepP F).length ≤ F.length + L.length := by
    intro L
    induction L with
    | nil => intro F; simp
    | cons o L ih =>
      intro F
      rw [List.map_cons, List.foldl_cons, List.length_cons]
      have := ih (stepP F (pc1 o))
      have := step_len F (pc1 o)
      omega
  have := key L []
  rw [List.length_nil, Nat.zero_add] at this
  exact this
end Law
namespace Law
open PySem L2 ML
open Classical
abbrev EdS3 := Nat × List A × List Ed
def edStep (s : EdS3) : Pc → EdS3
  | .is xs => (s.1, xs, s.2.2)
  | .kp a b => (b, [], if s.1 < a ∨ s.2.1 ≠ [] then s.2.2 ++ [⟨s.1, a, s.2.1⟩] else s.2.2)
noncomputable def edsF (P : List Pc) (n : Nat) : List Ed := ((P ++ [Pc.kp n n]).foldl edStep (0, [], [])).2.2
theorem ed_yes {p a b : Nat} {x : List A} {F : List Ed} (h : p < a ∨ x ≠ []) : edStep (p, x, F) (.kp a b) = (b, [], F ++ [⟨p, a, x⟩]) := by
  simp only [edStep, if_pos h]
theorem val_kpL {base : List A} {a n : Nat} (h : a + n ≤ base.length) : (kpL a n).map (valO base) = (base.take (a + n)).drop a := by
  have := val_kp (base := base) (a := a) (b := a + n) h
  simp only [ogs1] at this
  rw [show a + n - a = n by omega] at this
  exact this
end Law
namespace Law
open PySem L2 ML
open Classical
def m_can_join : MF := mFn 2 2 (mSeq (mIfS (mGB (mBin eqA (mBin ixA (mVar 0) (mC (.int 0))) (mC (.str "kept")))) (mRet (mAndV (mBin eqA (mBin ixA (mVar 1) (mC (.int 0))) (mC (.str "kept"))) (mBin eqA (mBin ixA (mVar 0) (mC (.int 2))) (mBin ixA (mVar 1) (mC (.int 1)))))) mNext)
    (mRet (mBin eqA (mBin ixA (mVar 1) (mC (.int 0))) (mC (.str "inserted")))))
def m_joined_piece : MF := mFn 2 2 (mSeq (mIfS (mGB (mBin eqA (mBin ixA (mVar 0) (mC (.int 0))) (mC (.str "kept")))) (mRet (mTup (mCons (mC (.str "kept")) (mCons (mBin ixA (mVar 0) (mC (.int 1))) (mCons (mBin ixA (mVar 1) (mC (.int 2))) mNil))))) mNext)
    (mRet (mTup (mCons (mC (.str "inserted")) (mCons (mBin addA (mBin ixA (mVar 0) (mC (.int 1))) (mBin ixA (mVar 1) (mC (.int 1)))) mNil)))))
def m_length_of : MF := mFn 1 1 (mSeq (mIfS (mGB (mBin eqA (mBin ixA (mVar 0) (mC (.int 0))) (mC (.str "kept")))) (mRet (mBin subA (mBin ixA (mVar 0) (mC (.int 2))) (mBin ixA (mVar 0) (mC (.int 1))))) mNext)
    (mRet (mCa lenA (mCons (mBin ixA (mVar 0) (mC (.int 1))) mNil))))
def m_tidied : MF := mFn 3 1 (mSeq (mSet 1 (mLst mNil))
    (mSeq (mFor (mSrc (mVar 0)) (.one 2) (mIfS (mAnd (mTru (mVar 1)) (mTru (mCall m_can_join (mCons (mBin ixA (mVar 1) (mUn negA (mC (.int 1)))) (mCons (mVar 2) mNil))))) (mPut (mVar 1) (mUn negA (mC (.int 1))) (mCall m_joined_piece (mCons (mBin ixA (mVar 1) (mUn negA (mC (.int 1)))) (mCons (mVar 2) mNil)))) (mIfS (mGB (mBin gtA (mCall m_length_of (mCons (mVar 2) mNil)) (mC (.int 0)))) (mExpr (mBm appendA (mVar 1) (mCons (mVar 2) mNil))) mNext)))
    (mRet (mCa tupleA (mCons (mVar 1) mNil)))))
def m_described : MF := mFn 4 2 (mSeq (mSet 2 (mLst mNil))
    (mSeq (mFor (mSrc (mVar 0)) (.one 3) (mIfS (mGB (mBin eqA (mBin ixA (mVar 3) (mC (.int 0))) (mC (.str "kept")))) (mExpr (mBm extendA (mVar 2) (mCons (mSl (mVar 1) (mPart (mBin ixA (mVar 3) (mC (.int 1)))) (mPart (mBin ixA (mVar 3) (mC (.int 2))))) mNil))) (mExpr (mBm extendA (mVar 2) (mCons (mBin ixA (mVar 3) (mC (.int 1))) mNil)))))
    (mRet (mCa tupleA (mCons (mVar 2) mNil)))))
def m_piece_part : MF := mFn 3 3 (mSeq (mIfS (mGB (mBin eqA (mBin ixA (mVar 0) (mC (.int 0))) (mC (.str "kept")))) (mRet (mTup (mCons (mC (.str "kept")) (mCons (mBin addA (mBin ixA (mVar 0) (mC (.int 1))) (mVar 1)) (mCons (mBin addA (mBin ixA (mVar 0) (mC (.int 1))) (mVar 2)) mNil))))) mNext)
    (mRet (mTup (mCons (mC (.str "inserted")) (mCons (mSl (mBin ixA (mVar 0) (mC (.int 1))) (mPart (mVar 1)) (mPart (mVar 2))) mNil)))))
def m_pieces_part : MF := mFn 8 3 (mSeq (mSet 3 (mLst mNil))
    (mSeq (mSet 4 (mC (.int 0)))
    (mSeq (mFor (mSrc (mVar 0)) (.one 5) (mSeq (mSet 6 (mCa maxA (mCons (mBin subA (mVar 1) (mVar 4)) (mCons (mC (.int 0)) mNil))))
    (mSeq (mSet 7 (mCa minA (mCons (mBin subA (mVar 2) (mVar 4)) (mCons (mCall m_length_of (mCons (mVar 5) mNil)) mNil))))
    (mSeq (mIfS (mGB (mBin ltA (mVar 6) (mVar 7))) (mExpr (mBm appendA (mVar 3) (mCons (mCall m_piece_part (mCons (mVar 5) (mCons (mVar 6) (mCons (mVar 7) mNil)))) mNil))) mNext)
    (mSet 4 (mBin addA (mVar 4) (mCall m_length_of (mCons (mVar 5) mNil))))))))
    (mRet (mVar 3)))))
def m_edits_of : MF := mFn 6 2 (mSeq (mSet 2 (mLst mNil))
    (mSeq (mSet 3 (mC (.int 0)))
    (mSeq (mSet 4 (mTup mNil))
    (mSeq (mFor (mSrc (mBin addA (mVar 0) (mTup (mCons (mTup (mCons (mC (.str "kept")) (mCons (mVar 1) (mCons (mVar 1) mNil)))) mNil)))) (.one 5) (mIfS (mGB (mBin eqA (mBin ixA (mVar 5) (mC (.int 0))) (mC (.str "inserted")))) (mSet 4 (mBin ixA (mVar 5) (mC (.int 1)))) (mSeq (mIfS (mOr (mGB (mBin ltA (mVar 3) (mBin ixA (mVar 5) (mC (.int 1))))) (mTru (mVar 4))) (mExpr (mBm appendA (mVar 2) (mCons (mTup (mCons (mVar 3) (mCons (mBin ixA (mVar 5) (mC (.int 1))) (mCons (mVar 4) mNil)))) mNil))) mNext)
    (mSeq (mSet 3 (mBin ixA (mVar 5) (mC (.int 2))))
    (mSet 4 (mTup mNil))))))
    (mRet (mCa tupleA (mCons (mVar 2) mNil)))))))
variable {st : Store} {Q : A → Store → Prop}
theorem ixk0 {a b : Nat} (k : Q (.str "kept") st) : (ixA (pcA (.kp a b)) (.int 0) st).wp Q := by
  simp only [pcA, w_ixT]
  exact ⟨_, rfl, k⟩
theorem ixk1 {a b : Nat} (k : Q (.int a) st) : (ixA (pcA (.kp a b)) (.int 1) st).wp Q := by
  simp only [pcA, w_ixT]
  exact ⟨_, rfl, k⟩
theorem ixk2 {a b : Nat} (k : Q (.int b) st) : (ixA (pcA (.kp a b)) (.int 2) st).wp Q := by
  simp only [pcA, w_ixT]
  exact ⟨_, rfl, k⟩
theorem ixi0 {x : List A} (k : Q (.str "inserted") st) : (ixA (pcA (.is x)) (.int 0) st).wp Q := by
  simp only [pcA, w_ixT]
  exact ⟨_, rfl, k⟩
theorem ixi1 {x : List A} (k : Q (.tup x) st) : (ixA (pcA (.is x)) (.int 1) st).wp Q := by
  simp only [pcA, w_ixT]
  exact ⟨_, rfl, k⟩
theorem kept_ins : ¬ (Str.ofString "inserted" = Str.ofString "kept") := by decide +kernel
theorem ins_kept : ¬ (Str.ofString "kept" = Str.ofString "inserted") := by decide +kernel
theorem eqkk (k : Q (.bl true) st) : (eqA (.str "kept") (.str "kept") st).wp Q := by
  rw [w_eqS]
  simpa using k
theorem eqii (k : Q (.bl true) st) : (eqA (.str "inserted") (.str "inserted") st).wp Q := by
  rw [w_eqS]
  simpa using k
theorem eqik (k : Q (.bl false) st) : (eqA (.str "inserted") (.str "kept") st).wp Q := by
  rw [w_eqS, decide_eq_false kept_ins]
  exact k
theorem eqki (k : Q (.bl false) st) : (eqA (.str "kept") (.str "inserted") st).wp Q := by
  rw [w_eqS, decide_eq_false ins_kept]
  exact k
theorem length_of_wp {p : Pc} (h : PcOk p) (k : Q (.int (lenP p : Nat)) st) : (m_length_of [pcA p] st).wp Q := by
  simp only [m_length_of, wp_fn]
  refine ⟨rfl, ?_⟩
  simp only [List.map_cons, List.map_nil, List.cons_append, List.nil_append, List.replicate, Nat.reduceSub, sp_seq, sp_ifs, sp_ret, wp_gb, wp_bin, wp_ca, wp_cons, wp_nil, wp_var, wp_c, List.getElem?_cons_zero, Option.some.injEq, ex_eq]
  cases p with
  | kp a b =>
    refine ixk0 (eqkk ?_)
    rw [w_getB, if_pos rfl]
    refine ixk2 (ixk1 ?_)
    rw [w_sub]
    have h : a ≤ b := h
    rw [show (b : Int) - a = ((lenP (.kp a b) : Nat) : Int) by show (b : Int) - a = ((b - a : Nat) : Int); omega]
    exact k
  | is xs =>
    refine ixi0 (eqik ?_)
    rw [w_getB, if_neg (by decide), sp_next]
    simp only [wp_tup, wp_sl, wp_part, wp_bin, wp_ca, wp_cons, wp_nil, wp_var, wp_c, List.getElem?_cons_succ, List.getElem?_cons_zero, Option.some.injEq, ex_eq]
    refine ixi1 ?_
    rw [w_lenT]
    exact k
theorem piece_part_wp {p : Pc} {s e : Nat} (k : Q (pcA (partP p s e)) st) : (m_piece_part [pcA p, .int s, .int e] st).wp Q := by
  simp only [m_piece_part, wp_fn]
  refine ⟨rfl, ?_⟩
  simp only [List.map_cons, List.map_nil, List.cons_append, List.nil_append, List.replicate, Nat.reduceSub, sp_seq, sp_ifs, sp_ret, wp_tup, wp_sl, wp_part, wp_gb, wp_bin, wp_ca, wp_cons, wp_nil, wp_var, wp_c, List.getElem?_cons_succ, List.getElem?_cons_zero, Option.some.injEq, ex_eq]
  cases p with
  | kp a b =>
    refine ixk0 (eqkk ?_)
    rw [w_getB, if_pos rfl]
    refine ixk1 ?_
    rw [w_add]
    refine ixk1 ?_
    rw [w_add]
    exact ⟨by simp [sizeLine], k⟩
  | is xs =>
    refine ixi0 (eqik ?_)
    rw [w_getB, if_neg (by decide), sp_next]
    simp only [wp_tup, wp_sl, wp_part, wp_bin, wp_ca, wp_cons, wp_nil, wp_var, wp_c, List.getElem?_cons_succ, List.getElem?_cons_zero, Option.some.injEq, ex_eq]
    refine ixi1 ?_
    rw [w_getI, w_getI, w_slT, cut_mid (by omega) (by omega)]
    exact ⟨by simp [sizeLine], k⟩
theorem can_join_wp {p q : Pc} (k : Q (.bl (canJ p q)) st) : (m_can_join [pcA p, pcA q] st).wp Q := by
  simp only [m_can_join, wp_fn]
  refine ⟨rfl, ?_⟩
  simp only [List.map_cons, List.map_nil, List.cons_append, List.nil_append, List.replicate, Nat.reduceSub, sp_seq, sp_ifs, sp_ret, wp_andV, wp_gb, wp_bin, wp_var, wp_c, List.getElem?_cons_succ, List.getElem?_cons_zero, Option.some.injEq, ex_eq]
  cases p with
  | kp a b =>
    refine ixk0 (eqkk ?_)
    rw [w_getB, if_pos rfl]
    cases q with
    | kp c d =>
      refine ixk0 (eqkk ?_)
      rw [w_getB, if_pos rfl]
      refine ixk2 (ixk1 ?_)
      rw [w_eq]
      have : decide ((b : Int) = (c : Int)) = canJ (.kp a b) (.kp c d) := by
        simp only [canJ, decide_eq_decide]
        omega
      rw [this]
      exact k
    | is ys =>
      refine ixi0 (eqik ?_)
      rw [w_getB, if_neg (by decide)]
      exact k
  | is xs =>
    refine ixi0 (eqik ?_)
    rw [w_getB, if_neg (by decide), sp_next]
    simp only [wp_tup, wp_sl, wp_part, wp_bin, wp_ca, wp_cons, wp_nil, wp_var, wp_c, List.getElem?_cons_succ, List.getElem?_cons_zero, Option.some.injEq, ex_eq]
    cases q with
    | kp c d => exact ixk0 (eqki k)
    | is ys => exact ixi0 (eqii k)
theorem joined_piece_wp {p q : Pc} (h : canJ p q = true) (hl : lenP p + lenP q ≤ 1000000) (k : Q (pcA (joinP p q)) st) : (m_joined_piece [pcA p, pcA q] st).wp Q := by
  simp only [m_joined_piece, wp_fn]
  refine ⟨rfl, ?_⟩
  simp only [List.map_cons, List.map_nil, List.cons_append, List.nil_append, List.replicate, Nat.reduceSub, sp_seq, sp_ifs, sp_ret, wp_tup, wp_gb, wp_bin, wp_cons, wp_nil, wp_var, wp_c, List.getElem?_cons_succ, List.getElem?_cons_zero, Option.some.injEq, ex_eq]
  cases p with
  | kp a b =>
    cases q with
    | kp c d =>
      refine ixk0 (eqkk ?_)
      rw [w_getB, if_pos rfl]
      exact ixk1 (ixk2 ⟨by simp [sizeLine], k⟩)
    | is ys => cases h
  | is xs =>
    cases q with
    | kp c d => cases h
    | is ys =>
      refine ixi0 (eqik ?_)
      rw [w_getB, if_neg (by decide), sp_next]
      simp only [wp_tup, wp_sl, wp_part, wp_bin, wp_ca, wp_cons, wp_nil, wp_var, wp_c, List.getElem?_cons_succ, List.getElem?_cons_zero, Option.some.injEq, ex_eq]
      refine ixi1 (ixi1 ?_)
      rw [w_addT]
      have hs := size_eq
      simp only [lenP] at hl
      exact ⟨by simp; omega, by simp [sizeLine], k⟩
def PpI (P : List Pc) (s e : Nat) (st0 : Store) (i : Nat) (ρ : ML.Env) (st : Store) : Prop := ∃ v5 v6 v7 : Option A, st = st0 ++ [.lst ((partsP s e (P.take i)).map pcA)] ∧ ρ = [some (.tup (P.map pcA)), some (.int (s : Nat)), some (.int (e : Nat)), some (.ref st0.length), some (.int (lenS (P.take i) : Nat)), v5, v6, v7]
theorem parts_len {P : List Pc} : ∀ {s e : Nat}, (partsP s e P).length ≤ P.length := by
  induction P with
  | nil => intro s e; exact Nat.le_refl _
  | cons p r ih =>
    intro s e
    simp only [partsP, List.length_append, List.length_cons]
    have := ih (s := s - lenP p) (e := e - lenP p)
    split <;> simp <;> omega
theorem take_snoc {α : Type} {P : List α} {i : Nat} {p : α} (h : P[i]? = some p) : P.take (i + 1) = P.take i ++ [p] := by
  rw [List.take_add_one, h]
  rfl
theorem pieces_part_wp {P : List Pc} {s e : Nat} (hP : ∀ p ∈ P, PcOk p) (hl : P.length ≤ 100000) (k : Q (.ref st.length) (st ++ [.lst ((partsP s e P).map pcA)])) : (m_pieces_part [.tup (P.map pcA), .int s, .int e] st).wp Q := by
  have LW := @length_of_wp
  have PW := @piece_part_wp
  simp only [m_pieces_part]
  generalize m_length_of = lo at LW ⊢
  generalize m_piece_part = pp at PW ⊢
  generalize hF : @mFor = F
  rw [wp_fn]
  refine ⟨rfl, ?_⟩
  have hs := size_eq
  simp only [List.map_cons, List.map_nil, List.cons_append, List.nil_append, List.replicate, Nat.reduceSub]
  refine seq_cut (fun ρ st' => st' = st ++ [.lst []] ∧ ρ = [some (.tup (P.map pcA)), some (.int (s : Nat)), some (.int (e : Nat)), some (.ref st.length), none, none, none, none]) ?_ ?_
  · simp only [sp_set, wp_lst, wp_nil, List.set_cons_zero, List.set_cons_succ]
    exact ⟨by simp [sizeLine], by trivial, by trivial⟩
  rintro ρ st1 ⟨rfl, rfl⟩
  refine seq_cut (PpI P s e st 0) ?_ ?_
  · simp only [sp_set, wp_c, List.set_cons_zero, List.set_cons_succ]
    exact ⟨none, none, none, rfl, rfl⟩
  intro ρ st1 h1
  refine seq_cut (PpI P s e st P.length) ?_ ?_
  · have h1' := h1
    obtain ⟨v5, v6, v7, e1, e2⟩ := h1'
    subst e1 e2
    rw [← hF]
    simp only [sp_for, wp_src, wp_var, List.getElem?_cons_zero, Option.some.injEq, ex_eq, w_srcT]
    refine for_vals (PpI P s e st) h1 ?_ (fun ρ st' h => by simpa using h)
    rintro i x ρ st2 hx ⟨v5, v6, v7, rfl, rfl⟩
    rw [List.getElem?_map, Option.map_eq_some_iff] at hx
    obtain ⟨p, hp, rfl⟩ := hx
    have pok := hP p (List.mem_of_getElem? hp)
    refine ⟨_, rfl, ?_⟩
    simp only [List.set_cons_zero, List.set_cons_succ]
    generalize hX : partsP s e (P.take i) = X
    generalize hLn : lenS (P.take i) = L
    have lX : X.length ≤ 100000 := by
      have := parts_len (P := P.take i) (s := s) (e := e)
      rw [hX, List.length_take] at this
      omega
    have nx : partsP s e (P.take (i + 1)) = X ++ (if s - L < min (e - L) (lenP p) then [partP p (s - L) (min (e - L) (lenP p))] else []) := by rw [take_snoc hp, parts_snoc, hX, hLn]
    have nl : lenS (P.take (i + 1)) = L + lenP p := by rw [take_snoc hp, lenS_snoc, hLn]
    refine seq_cut (fun ρ st' => st' = st ++ [.lst (X.map pcA)] ∧ ρ = [some (.tup (P.map pcA)), some (.int (s : Nat)), some (.int (e : Nat)), some (.ref st.length), some (.int (L : Nat)), some (pcA p), some (.int (s - L : Nat)), v7]) ?_ ?_
    · simp only [sp_set, wp_ca, wp_bin, wp_cons, wp_nil, wp_var, wp_c, List.getElem?_cons_succ, List.getElem?_cons_zero, Option.some.injEq, ex_eq, List.set_cons_zero, List.set_cons_succ, w_sub, w_max2]
      refine ⟨by trivial, ?_⟩
      rw [show (if (0 : Int) > (s : Int) - (L : Int) then (0 : Int) else (s : Int) - (L : Int)) = ((s - L : Nat) : Int) by split <;> omega]
    rintro ρ st3 ⟨rfl, rfl⟩
    refine seq_cut (fun ρ st' => st' = st ++ [.lst (X.map pcA)] ∧ ∃ h : Int, ((s - L : Nat) < h ↔ s - L < min (e - L) (lenP p)) ∧ (s - L < min (e - L) (lenP p) → h = (min (e - L) (lenP p) : Nat)) ∧ ρ = [some (.tup (P.map pcA)), some (.int (s : Nat)), some (.int (e : Nat)), some (.ref st.length), some (.int (L : Nat)), some (pcA p), some (.int (s - L : Nat)), some (.int h)]) ?_ ?_
    · simp only [sp_set, wp_ca, wp_bin, wp_call, wp_cons, wp_nil, wp_var, wp_c, List.getElem?_cons_succ, List.getElem?_cons_zero, Option.some.injEq, ex_eq, List.set_cons_zero, List.set_cons_succ, w_sub]
      refine LW pok ?_
      rw [w_min2]
      refine ⟨rfl, _, ?_, ?_, rfl⟩
      · split <;> omega
      · intro c
        split <;> omega
    rintro ρ st3 ⟨rfl, h, h1, h2, rfl⟩
    refine seq_cut (fun ρ st' => st' = st ++ [.lst ((partsP s e (P.take (i + 1))).map pcA)] ∧ ρ = [some (.tup (P.map pcA)), some (.int (s : Nat)), some (.int (e : Nat)), some (.ref st.length), some (.int (L : Nat)), some (pcA p), some (.int (s - L : Nat)), some (.int h)]) ?_ ?_
    · simp only [sp_ifs, wp_gb, wp_bin, wp_var, List.getElem?_cons_succ, List.getElem?_cons_zero, Option.some.injEq, ex_eq, w_lt, w_getB, decide_eq_true_eq]
      by_cases c : s - L < min (e - L) (lenP p)
      · rw [if_pos (h1.mpr c), h2 c]
        simp only [sp_expr, wp_bm, wp_call, wp_cons, wp_nil, wp_var, List.getElem?_cons_succ, List.getElem?_cons_zero, Option.some.injEq, ex_eq, isL_ref, stL_new, Option.isSome_some]
        refine ⟨trivial, PW ?_⟩
        rw [w_append, stL_new]
        refine ⟨_, rfl, by rw [List.length_map]; omega, ?_, by trivial⟩
        rw [nx, if_pos c, List.set_append_right _ _ (Nat.le_refl _)]
        simp
      · rw [if_neg (fun z => c (h1.mp z)), sp_next, nx, if_neg c]
        exact ⟨by simp, rfl⟩
    rintro ρ st3 ⟨rfl, rfl⟩
    simp only [sp_set, wp_bin, wp_call, wp_cons, wp_nil, wp_var, List.getElem?_cons_succ, List.getElem?_cons_zero, Option.some.injEq, ex_eq, List.set_cons_zero, List.set_cons_succ]
    refine LW pok ?_
    rw [w_add]
    refine ⟨some (pcA p), some (.int (s - L : Nat)), some (.int h), rfl, ?_⟩
    rw [nl]
    rfl
  rintro ρ st2 ⟨v5, v6, v7, rfl, rfl⟩
  simp only [sp_ret, wp_var, List.getElem?_cons_succ, List.getElem?_cons_zero, Option.some.injEq, ex_eq]
  rw [List.take_length]
  exact k
def TiI (P : List Pc) (r : Nat) (st0 : Store) (i : Nat) (ρ : ML.Env) (st : Store) : Prop := ∃ v2 : Option A, st = st0 ++ [.lst ((tidyP (P.take i)).map pcA)] ∧ ρ = [some (.ref r), some (.ref st0.length), v2]
theorem last_pc {G : List Pc} {l : Pc} : atI ((G ++ [l]).map pcA) (-1) = some (pcA l) := by
  have e : ixN ((G ++ [l]).map pcA).length (-1) = some G.length := by
    unfold ixN
    rw [if_neg (by decide), if_pos (by simp; omega)]
    simp
    omega
  unfold atI
  rw [e]
  simp
theorem last_ixN {G : List Pc} {l : Pc} : ixN ((G ++ [l]).map pcA).length (-1) = some G.length := by
  unfold ixN
  rw [if_neg (by decide), if_pos (by simp; omega)]
  simp
  omega
theorem tidy_len (P : List Pc) : (tidyP P).length ≤ P.length := by
  have key : ∀ (P F : List Pc), (P.foldl stepP F).length ≤ F.length + P.length := by
    intro P
    induction P with
    | nil => intro F; simp
    | cons o P ih =>
      intro F
      rw [List.foldl_cons, List.length_cons]
      have := ih (stepP F o)
      have := step_len F o
      omega
  have := key P []
  rw [List.length_nil, Nat.zero_add] at this
  exact this
theorem tidy_snoc (P : List Pc) (p : Pc) : tidyP (P ++ [p]) = stepP (tidyP P) p := by
  unfold tidyP
  rw [List.foldl_append]
  rfl
theorem lenS_take {P : List Pc} {i : Nat} : lenS (P.take i) ≤ lenS P := by
  have : lenS P = lenS (P.take i) + lenS (P.drop i) := by
    unfold lenS
    rw [← List.length_append, ← ogs_app, List.take_append_drop]
  omega
theorem lenP_le {P : List Pc} {p : Pc} (h : p ∈ P) : lenP p ≤ lenS P := by
  induction P with
  | nil => cases h
  | cons q r ih =>
    rw [lenS_cons]
    rcases List.mem_cons.mp h with rfl | h
    · omega
    · have := ih h
      omega
theorem tidy_lenS {P : List Pc} (h : ∀ p ∈ P, PcOk p) : lenS (tidyP P) = lenS P := by
  rw [tidy_ogs h]
  unfold lenS
  rw [pcs_ogs]
theorem tidied_wp {P : List Pc} {r : Nat} (hr : stL st r = some (P.map pcA)) (hP : ∀ p ∈ P, PcOk p) (hl : P.length ≤ 100000) (hn : lenS P ≤ 100000) (k : ∀ st', Grown st st' → Q (.tup ((tidyP P).map pcA)) st') : (m_tidied [.ref r] st).wp Q := by
  have LW := @length_of_wp
  have CW := @can_join_wp
  have JW := @joined_piece_wp
  simp only [m_tidied]
  generalize m_length_of = lo at LW ⊢
  generalize m_can_join = cj at CW ⊢
  generalize m_joined_piece = jp at JW ⊢
  generalize hF : @mFor = F
  rw [wp_fn]
  refine ⟨rfl, ?_⟩
  have hs := size_eq
  have hrl := stL_lt hr
  simp only [List.map_cons, List.map_nil, List.cons_append, List.nil_append, List.replicate, Nat.reduceSub]
  refine seq_cut (TiI P r st 0) ?_ ?_
  · simp only [sp_set, wp_lst, wp_nil, List.set_cons_zero, List.set_cons_succ]
    exact ⟨by simp [sizeLine], none, rfl, rfl⟩
  intro ρ st1 h1
  refine seq_cut (TiI P r st P.length) ?_ ?_
  · have h1' := h1
    obtain ⟨v2, e1, e2⟩ := h1'
    subst e1 e2
    rw [← hF]
    simp only [sp_for, wp_src, wp_var, List.getElem?_cons_zero, Option.some.injEq, ex_eq]
    rw [w_srcL]
    refine ⟨by rw [(Grown.one _ _).stL hr]; rfl, ?_⟩
    refine for_lst (TiI P r st) ((Grown.one _ _).stL hr) h1 (fun i ρ st' ⟨v2, e1, _⟩ => by rw [e1]; exact (Grown.one _ _).stL hr) ?_ (fun ρ st' h => by simpa using h)
    rintro i x ρ st2 hx ⟨v2, rfl, rfl⟩
    rw [List.getElem?_map, Option.map_eq_some_iff] at hx
    obtain ⟨p, hp, rfl⟩ := hx
    have pok := hP p (List.mem_of_getElem? hp)
    refine ⟨_, rfl, ?_⟩
    have nx : tidyP (P.take (i + 1)) = stepP (tidyP (P.take i)) p := by rw [take_snoc hp, tidy_snoc]
    have lT : (tidyP (P.take i)).length ≤ 100000 := by
      have := tidy_len (P.take i)
      rw [List.length_take] at this
      omega
    have sT : lenS (tidyP (P.take i)) + lenP p ≤ 100000 := by
      rw [tidy_lenS fun q hq => hP q (List.mem_of_mem_take hq), ← lenS_snoc, ← take_snoc hp]
      have := lenS_take (P := P) (i := i + 1)
      omega
    simp only [List.set_cons_zero, List.set_cons_succ]
    unfold TiI
    rw [nx]
    generalize tidyP (P.take i) = T at lT sT ⊢
    rcases snoc_cases T with rfl | ⟨G, l, rfl⟩
    · simp only [sp_ifs, wp_and, wp_tru, wp_gb, wp_bin, wp_call, wp_cons, wp_nil, wp_var, wp_c, List.getElem?_cons_succ, List.getElem?_cons_zero, Option.some.injEq, ex_eq]
      rw [w_truL, stL_new]
      refine ⟨_, rfl, ?_⟩
      simp only [List.map_nil, List.isEmpty_nil, Bool.not_true, Bool.false_eq_true, if_false]
      refine LW pok ?_
      rw [w_gt, w_getB]
      by_cases c : 0 < lenP p
      · rw [if_pos (by simpa using c), step_n1 c]
        simp only [sp_expr, wp_bm, wp_cons, wp_nil, wp_var, List.getElem?_cons_succ, List.getElem?_cons_zero, Option.some.injEq, ex_eq, isL_ref, stL_new, Option.isSome_some]
        refine ⟨trivial, ?_⟩
        rw [w_append, stL_new]
        refine ⟨_, rfl, by simp [sizeLine], some (pcA p), ?_, rfl⟩
        rw [List.set_append_right _ _ (Nat.le_refl _)]
        simp
      · rw [if_neg (by simpa using c), sp_next, step_n0 (by omega)]
        exact ⟨_, rfl, rfl⟩
    · simp only [sp_ifs, wp_and, wp_tru, wp_gb, wp_un, wp_bin, wp_call, wp_cons, wp_nil, wp_var, wp_c, List.getElem?_cons_succ, List.getElem?_cons_zero, Option.some.injEq, ex_eq, w_neg]
      rw [w_truL, stL_new]
      refine ⟨_, rfl, ?_⟩
      rw [if_pos (by simp)]
      rw [w_ixL, stL_new]
      refine ⟨_, rfl, _, last_pc, ?_⟩
      refine CW ?_
      rw [w_truB]
      by_cases cj : canJ l p = true
      · rw [if_pos cj, step_j cj]
        simp only [sp_put, wp_un, wp_bin, wp_call, wp_cons, wp_nil, wp_var, wp_c, List.getElem?_cons_succ, List.getElem?_cons_zero, Option.some.injEq, ex_eq, w_neg]
        rw [w_ixL, stL_new]
        refine ⟨_, rfl, _, last_pc, ?_⟩
        have ll : lenP l ≤ lenS (G ++ [l]) := lenP_le (by simp)
        refine JW cj (by omega) ?_
        rw [ex_setA, stL_new]
        refine ⟨_, rfl, _, last_ixN, some (pcA p), ?_, rfl⟩
        rw [List.set_append_right _ _ (Nat.le_refl _)]
        simp [List.set_append_right]
      · rw [if_neg cj]
        rw [Bool.not_eq_true] at cj
        refine LW pok ?_
        rw [w_gt, w_getB]
        by_cases c : 0 < lenP p
        · rw [if_pos (by simpa using c), step_a cj c]
          simp only [sp_expr, wp_bm, wp_cons, wp_nil, wp_var, List.getElem?_cons_succ, List.getElem?_cons_zero, Option.some.injEq, ex_eq, isL_ref, stL_new, Option.isSome_some]
          refine ⟨trivial, ?_⟩
          rw [w_append, stL_new]
          refine ⟨_, rfl, by rw [List.length_map]; omega, some (pcA p), ?_, rfl⟩
          rw [List.set_append_right _ _ (Nat.le_refl _)]
          simp
        · rw [if_neg (by simpa using c), sp_next, step_z cj (by omega)]
          exact ⟨_, rfl, rfl⟩
  rintro ρ st2 ⟨v2, rfl, rfl⟩
  simp only [sp_ret, wp_ca, wp_cons, wp_nil, wp_var, List.getElem?_cons_succ, List.getElem?_cons_zero, Option.some.injEq, ex_eq]
  rw [w_tupL, List.take_length]
  exact ⟨_, stL_new, k _ (.one _ _)⟩
def DsI (P : List Pc) (base : List A) (st0 : Store) (i : Nat) (ρ : ML.Env) (st : Store) : Prop := ∃ v3 : Option A, st = st0 ++ [.lst ((ogs (P.take i)).map (valO base))] ∧ ρ = [some (.tup (P.map pcA)), some (.tup base), some (.ref st0.length), v3]
theorem described_wp {P : List Pc} {base : List A} (hP : ∀ p ∈ P, PcB base.length p) (hl : P.length ≤ 100000) (hn : lenS P ≤ 100000) (k : ∀ st', Grown st st' → Q (.tup ((ogs P).map (valO base))) st') : (m_described [.tup (P.map pcA), .tup base] st).wp Q := by
  simp only [m_described]
  generalize hF : @mFor = F
  rw [wp_fn]
  refine ⟨rfl, ?_⟩
  have hs := size_eq
  simp only [List.map_cons, List.map_nil, List.cons_append, List.nil_append, List.replicate, Nat.reduceSub]
  refine seq_cut (DsI P base st 0) ?_ ?_
  · simp only [sp_set, wp_lst, wp_nil, List.set_cons_zero, List.set_cons_succ]
    exact ⟨by simp [sizeLine], none, rfl, rfl⟩
  intro ρ st1 h1
  refine seq_cut (DsI P base st P.length) ?_ ?_
  · have h1' := h1
    obtain ⟨v2, e1, e2⟩ := h1'
    subst e1 e2
    rw [← hF]
    simp only [sp_for, wp_src, wp_var, List.getElem?_cons_zero, Option.some.injEq, ex_eq, w_srcT]
    refine for_vals (DsI P base st) h1 ?_ (fun ρ st' h => by simpa using h)
    rintro i x ρ st2 hx ⟨v3, rfl, rfl⟩
    rw [List.getElem?_map, Option.map_eq_some_iff] at hx
    obtain ⟨p, hp, rfl⟩ := hx
    have pok := hP p (List.mem_of_getElem? hp)
    have nx : (ogs (P.take (i + 1))).map (valO base) = (ogs (P.take i)).map (valO base) ++ (ogs1 p).map (valO base) := by rw [take_snoc hp, ogs_app, List.map_append, ogs_one]
    have sT : lenS (P.take i) + lenP p ≤ 100000 := by
      rw [← lenS_snoc, ← take_snoc hp]
      have := lenS_take (P := P) (i := i + 1)
      omega
    refine ⟨_, rfl, ?_⟩
    simp only [List.set_cons_zero, List.set_cons_succ]
    unfold DsI
    rw [nx]
    have lT : ((ogs (P.take i)).map (valO base)).length = lenS (P.take i) := by rw [List.length_map]; rfl
    generalize (ogs (P.take i)).map (valO base) = T at lT ⊢
    simp only [sp_ifs, sp_expr, wp_bm, wp_sl, wp_part, wp_gb, wp_bin, wp_cons, wp_nil, wp_var, wp_c, List.getElem?_cons_succ, List.getElem?_cons_zero, Option.some.injEq, ex_eq, isL_ref, stL_new, Option.isSome_some]
    have ln : lenP p = ((ogs1 p).map (valO base)).length := by rw [List.length_map, ogs1_len]
    cases p with
    | kp a b =>
      have hb : a ≤ b ∧ b ≤ base.length := pok
      refine ixk0 (eqkk ?_)
      rw [w_getB, if_pos rfl]
      refine ⟨by rw [stL_new]; rfl, ixk1 ?_⟩
      rw [w_getI]
      refine ixk2 ?_
      rw [w_getI, w_slT, w_extendT, stL_new]
      rw [val_kp hb.2] at ln ⊢
      rw [show cutA base (some (a : Int)) (some (b : Int)) = (base.take b).drop a by rw [cut_mid (by omega) (by omega)]; simp]
      refine ⟨_, rfl, by omega, some (pcA (.kp a b)), ?_, rfl⟩
      rw [List.set_append_right _ _ (Nat.le_refl _)]
      simp
    | is xs =>
      refine ixi0 (eqik ?_)
      rw [w_getB, if_neg (by decide)]
      refine ⟨by rw [stL_new]; rfl, ixi1 ?_⟩
      rw [w_extendT, stL_new]
      rw [val_is] at ln ⊢
      refine ⟨_, rfl, by omega, some (pcA (.is xs)), ?_, rfl⟩
      rw [List.set_append_right _ _ (Nat.le_refl _)]
      simp
  rintro ρ st2 ⟨v2, rfl, rfl⟩
  simp only [sp_ret, wp_ca, wp_cons, wp_nil, wp_var, List.getElem?_cons_succ, List.getElem?_cons_zero, Option.some.injEq, ex_eq]
  rw [w_tupL, List.take_length]
  exact ⟨_, stL_new, k _ (.one _ _)⟩
def edSt (P : List Pc) (i : Nat) : EdS3 := (P.take i).foldl edStep (0, [], [])
def EfI (P : List Pc) (v0 v1 : Option A) (st0 : Store) (i : Nat) (ρ : ML.Env) (st : Store) : Prop := ∃ v5 : Option A, st = st0 ++ [.lst ((edSt P i).2.2.map edA)] ∧ ρ = [v0, v1, some (.ref st0.length), some (.int ((edSt P i).1 : Nat)), some (.tup (edSt P i).2.1), v5]
theorem edst_next {P : List Pc} {i : Nat} {p : Pc} (h : P[i]? = some p) : edSt P (i + 1) = edStep (edSt P i) p := by
  unfold edSt
  rw [take_snoc h, List.foldl_append]
  rfl
theorem edst_len {P : List Pc} : ∀ i, (edSt P i).2.2.length ≤ i := by
  intro i
  induction i with
  | zero => simp [edSt]
  | succ i ih =>
    by_cases h : i < P.length
    · rw [edst_next (List.getElem?_eq_getElem h)]
      cases P[i] with
      | is xs => show (edSt P i).2.2.length ≤ i + 1; omega
      | kp a b =>
        simp only [edStep]
        split
        · rw [List.length_append]; simp; omega
        · omega
    · have : edSt P (i + 1) = edSt P i := by
        unfold edSt
        rw [List.take_of_length_le (by omega), List.take_of_length_le (by omega)]
      rw [this]
      omega
theorem edits_of_wp {P : List Pc} {n : Nat} (hl : P.length ≤ 100000) (k : ∀ st', Grown st st' → Q (.tup ((edsF P n).map edA)) st') : (m_edits_of [.tup (P.map pcA), .int n] st).wp Q := by
  simp only [m_edits_of]
  generalize hF : @mFor = F
  rw [wp_fn]
  refine ⟨rfl, ?_⟩
  have hs := size_eq
  simp only [List.map_cons, List.map_nil, List.cons_append, List.nil_append, List.replicate, Nat.reduceSub]
  have eP : (P.map pcA) ++ [A.tup [.str "kept", .int n, .int n]] = (P ++ [Pc.kp n n]).map pcA := by simp [pcA]
  unfold edsF at k
  have ef : (P ++ [Pc.kp n n]).foldl edStep (0, [], []) = edSt (P ++ [Pc.kp n n]) (P ++ [Pc.kp n n]).length := by
    unfold edSt
    rw [List.take_length]
  rw [ef] at k
  have lR : (P ++ [Pc.kp n n]).length = P.length + 1 := by simp
  generalize hv0 : some (A.tup (P.map pcA)) = v0
  generalize hv1 : some (A.int (n : Int)) = v1
  refine seq_cut (fun ρ st' => st' = st ++ [.lst []] ∧ ρ = [v0, v1, some (.ref st.length), none, none, none]) ?_ ?_
  · simp only [sp_set, wp_lst, wp_nil, List.set_cons_zero, List.set_cons_succ]
    exact ⟨by simp [sizeLine], by trivial, by trivial⟩
  rintro ρ st1 ⟨rfl, rfl⟩
  refine seq_cut (fun ρ st' => st' = st ++ [.lst []] ∧ ρ = [v0, v1, some (.ref st.length), some (.int 0), none, none]) ?_ ?_
  · simp only [sp_set, wp_c, List.set_cons_zero, List.set_cons_succ]
    exact ⟨by trivial, by trivial⟩
  rintro ρ st1 ⟨rfl, rfl⟩
  refine seq_cut (EfI (P ++ [Pc.kp n n]) v0 v1 st 0) ?_ ?_
  · simp only [sp_set, wp_tup, wp_nil, List.set_cons_zero, List.set_cons_succ]
    exact ⟨by simp [sizeLine], none, rfl, rfl⟩
  intro ρ st1 h1
  refine seq_cut (EfI (P ++ [Pc.kp n n]) v0 v1 st (P ++ [Pc.kp n n]).length) ?_ ?_
  · have h1' := h1
    obtain ⟨v2, e1, e2⟩ := h1'
    subst e1 e2
    rw [← hF, ← hv0, ← hv1]
    rw [← hv0, ← hv1] at h1
    simp only [sp_for, wp_src, wp_bin, wp_tup, wp_cons, wp_nil, wp_var, wp_c, List.getElem?_cons_succ, List.getElem?_cons_zero, Option.some.injEq, ex_eq]
    refine ⟨by simp [sizeLine], by simp [sizeLine], ?_⟩
    rw [w_addT]
    refine ⟨by simp; omega, ?_⟩
    rw [w_srcT, eP]
    rw [hv0, hv1] at h1 ⊢
    generalize (P ++ [Pc.kp n n]) = R at *
    refine for_vals (EfI R v0 v1 st) h1 ?_ (fun ρ st' h => by simpa using h)
    rintro i x ρ st2 hx ⟨v5, rfl, rfl⟩
    rw [List.getElem?_map, Option.map_eq_some_iff] at hx
    obtain ⟨p, hp, rfl⟩ := hx
    have hi := (List.getElem?_eq_some_iff.mp hp).1
    refine ⟨_, rfl, ?_⟩
    simp only [List.set_cons_zero, List.set_cons_succ]
    have ll := edst_len (P := R) i
    unfold EfI
    rw [edst_next hp]
    generalize edSt R i = S at ll ⊢
    obtain ⟨pl, ins, fd⟩ := S
    simp only at ll ⊢
    simp only [sp_ifs, wp_gb, wp_bin, wp_var, wp_c, List.getElem?_cons_succ, List.getElem?_cons_zero, Option.some.injEq, ex_eq]
    cases p with
    | is xs =>
      refine ixi0 (eqii ?_)
      rw [w_getB, if_pos rfl]
      simp only [sp_set, wp_bin, wp_var, wp_c, List.getElem?_cons_succ, List.getElem?_cons_zero, Option.some.injEq, ex_eq, List.set_cons_zero, List.set_cons_succ]
      exact ixi1 ⟨some (pcA (.is xs)), by trivial, by trivial⟩
    | kp a b =>
      refine ixk0 (eqki ?_)
      rw [w_getB, if_neg (by decide)]
      refine seq_cut (fun ρ st' => st' = st ++ [.lst ((edStep (pl, ins, fd) (.kp a b)).2.2.map edA)] ∧ ρ = [v0, v1, some (.ref st.length), some (.int (pl : Nat)), some (.tup ins), some (pcA (.kp a b))]) ?_ ?_
      · have yes : (pl < a ∨ ins ≠ []) → ((mExpr (mBm appendA (mVar 2) (mCons (mTup (mCons (mVar 3) (mCons (mBin ixA (mVar 5) (mC (.int 1))) (mCons (mVar 4) mNil)))) mNil))) [v0, v1, some (.ref st.length), some (.int (pl : Nat)), some (.tup ins), some (pcA (.kp a b))] (st ++ [.lst (fd.map edA)])).wp (fun ρ st' => st' = st ++ [.lst ((edStep (pl, ins, fd) (.kp a b)).2.2.map edA)] ∧ ρ = [v0, v1, some (.ref st.length), some (.int (pl : Nat)), some (.tup ins), some (pcA (.kp a b))]) (fun _ _ => False) (fun _ _ => False) (fun _ _ => False) := fun c => by
          simp only [sp_expr, wp_bm, wp_bin, wp_tup, wp_cons, wp_nil, wp_var, wp_c, List.getElem?_cons_succ, List.getElem?_cons_zero, Option.some.injEq, ex_eq, isL_ref, stL_new, Option.isSome_some]
          refine ⟨trivial, ixk1 ⟨by simp [sizeLine], ?_⟩⟩
          rw [w_append, stL_new]
          refine ⟨_, rfl, by rw [List.length_map]; omega, ?_, by trivial⟩
          rw [ed_yes c, List.set_append_right _ _ (Nat.le_refl _)]
          simp [edA]
        generalize (mExpr (mBm appendA (mVar 2) (mCons (mTup (mCons (mVar 3) (mCons (mBin ixA (mVar 5) (mC (.int 1))) (mCons (mVar 4) mNil)))) mNil))) = AP at yes ⊢
        simp only [sp_ifs, wp_or, wp_gb, wp_tru, wp_bin, wp_var, wp_c, List.getElem?_cons_succ, List.getElem?_cons_zero, Option.some.injEq, ex_eq]
        refine ixk1 ?_
        rw [w_lt, w_getB]
        by_cases c1 : pl < a
        · rw [if_pos (by simpa using c1), if_pos trivial]
          exact yes (.inl c1)
        · rw [if_neg (by simpa using c1), w_truT]
          cases ins with
          | nil =>
            rw [if_neg (by simp), sp_next]
            have : (edStep (pl, [], fd) (.kp a b)).2.2 = fd := by
              simp only [edStep]
              rw [if_neg (by simp; omega)]
            rw [this]
            exact ⟨rfl, rfl⟩
          | cons y ys =>
            rw [if_pos (by simp)]
            exact yes (.inr (by simp))
      rintro ρ st3 ⟨rfl, rfl⟩
      simp only [sp_seq, sp_set, wp_bin, wp_tup, wp_nil, wp_var, wp_c, List.getElem?_cons_succ, List.getElem?_cons_zero, Option.some.injEq, ex_eq, List.set_cons_zero, List.set_cons_succ]
      refine ixk2 ⟨by simp [sizeLine], some (pcA (.kp a b)), rfl, rfl⟩
  rintro ρ st2 ⟨v5, rfl, rfl⟩
  simp only [sp_ret, wp_ca, wp_cons, wp_nil, wp_var, List.getElem?_cons_succ, List.getElem?_cons_zero, Option.some.injEq, ex_eq]
  rw [w_tupL]
  exact ⟨_, stL_new, k _ (.one _ _)⟩
end Law
namespace Law
open PySem L2 ML
open Classical
def m_Editor___init__ : MF := mFn 2 2 (mSeq (mPutF "Editor" "_base" (mVar 0) (mVar 1))
    (mSeq (mPutF "Editor" "_contents" (mVar 0) (mVar 1))
    (mSeq (mPutF "Editor" "_pieces" (mVar 0) (mCall m_tidied (mCons (mLst (mCons (mTup (mCons (mC (.str "kept")) (mCons (mC (.int 0)) (mCons (mCa lenA (mCons (mVar 1) mNil)) mNil)))) mNil)) mNil)))
    (mSeq (mPutF "Editor" "_undoable" (mVar 0) (mLst mNil))
    (mPutF "Editor" "_redoable" (mVar 0) (mLst mNil))))))
def m_Editor__become : MF := mFn 2 2 (mSeq (mPutF "Editor" "_pieces" (mVar 0) (mVar 1))
    (mPutF "Editor" "_contents" (mVar 0) (mCall m_described (mCons (mVar 1) (mCons (mFld "Editor" "_base" (mVar 0)) mNil)))))
def m_Editor_replace_range : MF := mFn 7 4 (mSeq (mSet 4 (mCa lenA (mCons (mFld "Editor" "_contents" (mVar 0)) mNil)))
    (mSeq (mIfS (mGB (mBin gtA (mVar 2) (mVar 4))) (mRaise "IndexOutOfRange" "place" (mVar 2)) mNext)
    (mSeq (mIfS (mGB (mBin gtA (mVar 1) (mVar 2))) (mRaise "IndexOutOfRange" "place" (mVar 1)) mNext)
    (mSeq (mExpr (mCall m_check_count (mCons (mBin addA (mBin subA (mVar 4) (mBin subA (mVar 2) (mVar 1))) (mCa lenA (mCons (mVar 3) mNil))) mNil)))
    (mSeq (mSet 5 (mCall m_pieces_part (mCons (mFld "Editor" "_pieces" (mVar 0)) (mCons (mC (.int 0)) (mCons (mVar 1) mNil)))))
    (mSeq (mSet 6 (mCall m_pieces_part (mCons (mFld "Editor" "_pieces" (mVar 0)) (mCons (mVar 2) (mCons (mVar 4) mNil)))))
    (mSeq (mExpr (mBm appendA (mFld "Editor" "_undoable" (mVar 0)) (mCons (mFld "Editor" "_pieces" (mVar 0)) mNil)))
    (mSeq (mPutF "Editor" "_redoable" (mVar 0) (mLst mNil))
    (mSeq (mExpr (mMeth "Editor" "_become" m_Editor__become (mVar 0) (mCons (mCall m_tidied (mCons (mBin addA (mBin addA (mVar 5) (mLst (mCons (mTup (mCons (mC (.str "inserted")) (mCons (mVar 3) mNil))) mNil))) (mVar 6)) mNil)) mNil)))
    (mRet (mCa lenA (mCons (mFld "Editor" "_contents" (mVar 0)) mNil))))))))))))
def m_Editor_edits : MF := mFn 1 1 (mRet (mCall m_edits_of (mCons (mFld "Editor" "_pieces" (mVar 0)) (mCons (mCa lenA (mCons (mFld "Editor" "_base" (mVar 0)) mNil)) mNil))))
def m_Editor_contents : MF := mFn 1 1 (mRet (mFld "Editor" "_contents" (mVar 0)))
section
variable {st : Store} {cls f : Str} {Q : A → Store → Prop} {ρ : ML.Env} {N B C : ML.Env → Store → Prop} {Rt : A → Store → Prop}
theorem wp_fldE {ma : MX} : (mFld cls f ma ρ st).wp Q ↔ (ma ρ st).wp fun x st1 => ∃ fs, insA cls x st1 = some fs ∧ ∃ v, fs.lookup f = some v ∧ Q v st1 := by
  unfold mFld
  rw [wp_bind]
  refine iff_of_eq (congrArg _ (funext fun x => funext fun st1 => propext ?_))
  cases insA cls x st1 with
  | none => simp
  | some fs =>
    simp only [Option.some.injEq, ex_eq]
    cases e : fs.lookup f with
    | none => simp only [reduceCtorEq, false_and, exists_false]; rfl
    | some v => simp only [Option.some.injEq, ex_eq]; rfl
theorem sp_putfE {mo ma : MX} : (mPutF cls f mo ma ρ st).wp N B C Rt ↔ (ma ρ st).wp fun v st1 => (mo ρ st1).wp fun x st2 => ∃ st3, setIA cls f v x st2 = some st3 ∧ N ρ st3 := by
  unfold mPutF
  rw [wp_toS]
  refine iff_of_eq (congrArg _ (funext fun v => funext fun st1 => propext ?_))
  rw [wp_toS]
  refine iff_of_eq (congrArg _ (funext fun x => funext fun st2 => propext ?_))
  cases setIA cls f v x st2 with
  | none => simp [SR.wp]
  | some st3 => simp [SR.wp]
theorem wp_methE {mf : MF} {mo : MX} {ms : MA} : (mMeth cls f mf mo ms ρ st).wp Q ↔ (mo ρ st).wp fun x st1 => ∃ fs, insA cls x st1 = some fs ∧ fs.lookup f = none ∧ (ms ρ st1).wp fun vs st2 => (mf (x :: vs) st2).wp Q := by
  unfold mMeth
  rw [wp_bind]
  refine iff_of_eq (congrArg _ (funext fun x => funext fun st1 => propext ?_))
  cases insA cls x st1 with
  | none => simp
  | some fs =>
    simp only [Option.some.injEq, ex_eq]
    by_cases c : fs.lookup f = none
    · simp only [c, if_true, wp_bind, true_and]
    · simp only [c, if_false, false_and]
      rfl
theorem wp_makeE {mf : MF} {ms : MA} : (mMake cls mf ms ρ st).wp Q ↔ (ms ρ st).wp fun vs st1 => (mf (.ref st1.length :: vs) (st1 ++ [.oth (.ins cls [])])).wp fun v st2 => v = .non ∧ Q (.ref st1.length) st2 := by
  unfold mMake
  rw [wp_bind]
  refine iff_of_eq (congrArg _ (funext fun vs => funext fun st1 => propext ?_))
  rw [wp_bind]
  refine iff_of_eq (congrArg _ (funext fun v => funext fun st2 => propext ?_))
  cases v <;> simp
theorem wp_propE {mf : MF} {mo : MX} : (mProp cls mf mo ρ st).wp Q ↔ (mo ρ st).wp fun x st1 => ∃ fs, insA cls x st1 = some fs ∧ (mf [x] st1).wp Q := by
  unfold mProp
  rw [wp_bind]
  refine iff_of_eq (congrArg _ (funext fun x => funext fun st1 => propext ?_))
  cases insA cls x st1 with
  | none => simp
  | some fs =>
    simp only [Option.some.injEq, ex_eq]
    cases mf [x] st1 <;> simp [R.wp]
end
theorem insE {cls : Str} {t : Nat} {fs : List (Str × A)} {st : Store} (h : st[t]? = some (.oth (.ins cls fs))) : insA cls (.ref t) st = some fs := by
  unfold insA
  simp only [h, if_true]
theorem setE {cls f : Str} {t : Nat} {v : A} {fs : List (Str × A)} {st : Store} (h : st[t]? = some (.oth (.ins cls fs))) (hl : fs.length < 1000) : setIA cls f v (.ref t) st = some (st.set t (.oth (.ins cls (putFA f v fs)))) := by
  unfold setIA
  simp only [insE h, hl, if_true]
theorem putFA_len {f : Str} {v : A} : ∀ {fs : List (Str × A)}, (putFA f v fs).length ≤ fs.length + 1
  | [] => Nat.le_refl _
  | (g, x) :: r => by
    unfold putFA
    split
    · simp
    · have := putFA_len (f := f) (v := v) (fs := r)
      simp
      omega
structure KpX (S : List Nat) (st st' : Store) : Prop where
  len : st.length ≤ st'.length
  get : ∀ i, i < st.length → i ∉ S → st'[i]? = st[i]?
theorem KpX.refl {S : List Nat} (st : Store) : KpX S st st := ⟨Nat.le_refl _, fun _ _ _ => rfl⟩
theorem KpX.trans {S : List Nat} {a b c : Store} (h : KpX S a b) (k : KpX S b c) : KpX S a c := ⟨Nat.le_trans h.len k.len, fun i h1 h2 => by rw [k.get i (Nat.lt_of_lt_of_le h1 h.len) h2, h.get i h1 h2]⟩
theorem KpX.grown {S : List Nat} {a b : Store} (h : Grown a b) : KpX S a b := by
  obtain ⟨g, rfl⟩ := h
  exact ⟨by simp, fun i h1 _ => List.getElem?_append_left h1⟩
theorem KpX.set {S : List Nat} {st : Store} {i : Nat} {o : Ob} (h : i ∈ S) : KpX S st (st.set i o) := ⟨by rw [List.length_set]; exact Nat.le_refl _, fun j _ hj => List.getElem?_set_ne (fun z => hj (by rw [← z]; exact h))⟩
theorem KpX.more {S T : List Nat} {a b : Store} (h : KpX S a b) (k : ∀ i ∈ S, i ∈ T ∨ a.length ≤ i) : KpX T a b := ⟨h.len, fun i h1 h2 => h.get i h1 fun z => (k i z).elim h2 fun q => by omega⟩
theorem KpX.stL {S : List Nat} {a b : Store} {r : Nat} {xs : List A} (h : KpX S a b) (hr : r ∉ S) (e : stL a r = some xs) : stL b r = some xs := by
  have hl := stL_lt e
  unfold ML.stL at e ⊢
  rw [h.get r hl hr]
  exact e
theorem KpX.at_ {S : List Nat} {a b : Store} {r : Nat} {o : Ob} (h : KpX S a b) (hr : r ∉ S) (e : a[r]? = some o) : b[r]? = some o := by
  rw [h.get r (List.getElem?_eq_some_iff.mp e).1 hr]
  exact e
theorem KpX.kp {S : List Nat} {a b : Store} (h : KpX S a b) : (∀ i ∈ S, i ≤ 1) → Kp a b := fun hS => ⟨h.len, fun i h1 h2 => h.get i h2 fun z => by have := hS i z; omega⟩
theorem tape_kpx {S : List Nat} {a b : Store} (h : KpX S a b) (h0 : 0 ∉ S) (h1 : 1 ∉ S) (t : TpOk a) : TpOk b := by
  obtain ⟨ns, p, r, z, hp, e0, e1⟩ := t.ex
  exact ⟨ns, p, r, z, hp, h.at_ h0 e0, h.at_ h1 e1⟩
def pcsA (L : List Og) : A := .tup ((pcsO L).map pcA)
def csA (base : List A) (L : List Og) : A := .tup (L.map (valO base))
def edFs (base : List A) (L : List Og) (u d : Nat) : List (Str × A) := [("_base", .tup base), ("_contents", csA base L), ("_pieces", pcsA L), ("_undoable", .ref u), ("_redoable", .ref d)]
structure OL (base : List A) (L : List Og) : Prop where
  b : ∀ o ∈ L, OgB base.length o
  n : L.length ≤ 2000
structure EdT (base : List A) (r u d : Nat) (L : List Og) (U D : List (List Og)) (st : Store) : Prop where
  i : st[r]? = some (.oth (.ins "Editor" (edFs base L u d)))
  hu : stL st u = some (U.map pcsA)
  hd : stL st d = some (D.map pcsA)
  ok : OL base L
  okU : ∀ M ∈ U, OL base M
  okD : ∀ M ∈ D, OL base M
  ud : u ≠ d
  r1 : 1 < r
  u1 : 1 < u
  d1 : 1 < d
theorem EdT.kpx {base : List A} {r u d : Nat} {L : List Og} {U D : List (List Og)} {S : List Nat} {st st' : Store} (h : EdT base r u d L U D st) (k : KpX S st st') (hr : r ∉ S) (hu : u ∉ S) (hd : d ∉ S) : EdT base r u d L U D st' :=
  ⟨k.at_ hr h.i, k.stL hu h.hu, k.stL hd h.hd, h.ok, h.okU, h.okD, h.ud, h.r1, h.u1, h.d1⟩
theorem EdT.grown {base : List A} {r u d : Nat} {L : List Og} {U D : List (List Og)} {st st' : Store} (h : EdT base r u d L U D st) (k : Grown st st') : EdT base r u d L U D st' := h.kpx (S := []) (.grown k) (by simp) (by simp) (by simp)
section
variable {base : List A} {r u d : Nat} {L : List Og} {U D : List (List Og)} {st : Store} {Q : A → Store → Prop}
theorem EdT.ru (h : EdT base r u d L U D st) : r ≠ u ∧ r ≠ d := by
  have h1 := h.i
  refine ⟨fun z => ?_, fun z => ?_⟩
  · have h2 := stL_eq h.hu
    rw [z, h2] at h1
    cases h1
  · have h2 := stL_eq h.hd
    rw [z, h2] at h1
    cases h1
theorem og_len (h : OL base L) : (pcsO L).length ≤ 2000 ∧ lenS (pcsO L) = L.length := ⟨Nat.le_trans (pcs_len L) h.n, by unfold lenS; rw [pcs_ogs]⟩
theorem contentsE_wp (h : EdT base r u d L U D st) (k : Q (csA base L) st) : (m_Editor_contents [.ref r] st).wp Q := by
  simp only [m_Editor_contents, wp_fn]
  refine ⟨rfl, ?_⟩
  simp only [List.map_cons, List.map_nil, List.cons_append, List.nil_append, List.replicate, Nat.reduceSub, sp_ret, wp_fldE, wp_var, List.getElem?_cons_zero, Option.some.injEq, ex_eq]
  exact ⟨_, insE h.i, _, rfl, k⟩
theorem editsE_wp (h : EdT base r u d L U D st) (k : ∀ st', Grown st st' → Q (.tup ((edsF (pcsO L) base.length).map edA)) st') : (m_Editor_edits [.ref r] st).wp Q := by
  have EW := @edits_of_wp
  simp only [m_Editor_edits]
  generalize m_edits_of = eo at EW ⊢
  rw [wp_fn]
  refine ⟨rfl, ?_⟩
  simp only [List.map_cons, List.map_nil, List.cons_append, List.nil_append, List.replicate, Nat.reduceSub, sp_ret, wp_call, wp_ca, wp_cons, wp_nil, wp_fldE, wp_var, List.getElem?_cons_zero, Option.some.injEq, ex_eq]
  refine ⟨_, insE h.i, _, rfl, _, insE h.i, _, rfl, ?_⟩
  rw [w_lenT]
  exact EW (by have := (og_len h.ok).1; omega) k
theorem become_wp {P : List Pc} {fs : List (Str × A)} (hi : st[r]? = some (.oth (.ins "Editor" fs))) (hl : fs.length < 1000) (hb : List.lookup ("_base" : Str) (putFA "_pieces" (.tup (P.map pcA)) fs) = some (.tup base)) (hl2 : (putFA "_pieces" (.tup (P.map pcA)) fs).length < 1000)
    (hP : ∀ p ∈ P, PcB base.length p) (hn : P.length ≤ 100000) (hs : lenS P ≤ 100000)
    (k : ∀ st', KpX [r] st st' → st'[r]? = some (.oth (.ins "Editor" (putFA "_contents" (.tup ((ogs P).map (valO base))) (putFA "_pieces" (.tup (P.map pcA)) fs)))) → Q .non st') : (m_Editor__become [.ref r, .tup (P.map pcA)] st).wp Q := by
  have DW := @described_wp
  simp only [m_Editor__become]
  generalize m_described = de at DW ⊢
  rw [wp_fn]
  refine ⟨rfl, ?_⟩
  have hlt := (List.getElem?_eq_some_iff.mp hi).1
  simp only [List.map_cons, List.map_nil, List.cons_append, List.nil_append, List.replicate, Nat.reduceSub, sp_seq, sp_putfE, wp_var, List.getElem?_cons_succ, List.getElem?_cons_zero, Option.some.injEq, ex_eq, setE hi hl]
  have hi2 : (st.set r (.oth (.ins "Editor" (putFA "_pieces" (.tup (P.map pcA)) fs))))[r]? = some (.oth (.ins "Editor" (putFA "_pieces" (.tup (P.map pcA)) fs))) := List.getElem?_set_self hlt
  simp only [wp_call, wp_cons, wp_nil, wp_fldE, wp_var, List.getElem?_cons_succ, List.getElem?_cons_zero, Option.some.injEq, ex_eq]
  refine ⟨_, insE hi2, _, hb, DW hP hn hs fun st' g => ?_⟩
  refine ⟨_, setE (g.get hi2) hl2, ?_⟩
  refine k _ ((KpX.set (by simp)).trans ((KpX.grown g).trans (KpX.set (by simp)))) ?_
  exact List.getElem?_set_self (by have := (List.getElem?_eq_some_iff.mp (g.get hi2)).1; exact this)
theorem init_wp {t : Nat} (hi : st[t]? = some (.oth (.ins "Editor" []))) (ht : 1 < t) (hn : base.length ≤ 2000) (k : ∀ u d st', KpX [t] st st' → st.length ≤ u → st.length ≤ d → EdT base t u d (kpL 0 base.length) [] [] st' → Q .non st') : (m_Editor___init__ [.ref t, .tup base] st).wp Q := by
  have TW := @tidied_wp
  simp only [m_Editor___init__]
  generalize m_tidied = ti at TW ⊢
  rw [wp_fn]
  refine ⟨rfl, ?_⟩
  have hlt := (List.getElem?_eq_some_iff.mp hi).1
  simp only [List.map_cons, List.map_nil, List.cons_append, List.nil_append, List.replicate, Nat.reduceSub]
  refine seq_cut (fun ρ st' => KpX [t] st st' ∧ st'[t]? = some (.oth (.ins "Editor" [("_base", .tup base)])) ∧ ρ = [some (.ref t), some (.tup base)]) ?_ ?_
  · simp only [sp_putfE, wp_var, List.getElem?_cons_succ, List.getElem?_cons_zero, Option.some.injEq, ex_eq]
    exact ⟨_, setE hi (by simp), KpX.set (by simp), List.getElem?_set_self hlt, by trivial⟩
  rintro ρ st1 ⟨k1, i1, rfl⟩
  refine seq_cut (fun ρ st' => KpX [t] st st' ∧ st'[t]? = some (.oth (.ins "Editor" [("_base", .tup base), ("_contents", .tup base)])) ∧ ρ = [some (.ref t), some (.tup base)]) ?_ ?_
  · simp only [sp_putfE, wp_var, List.getElem?_cons_succ, List.getElem?_cons_zero, Option.some.injEq, ex_eq]
    exact ⟨_, setE i1 (by simp), k1.trans (KpX.set (by simp)), List.getElem?_set_self (List.getElem?_eq_some_iff.mp i1).1, by trivial⟩
  rintro ρ st2 ⟨k2, i2, rfl⟩
  refine seq_cut (fun ρ st' => KpX [t] st st' ∧ st'[t]? = some (.oth (.ins "Editor" [("_base", .tup base), ("_contents", .tup base), ("_pieces", pcsA (kpL 0 base.length))])) ∧ ρ = [some (.ref t), some (.tup base)]) ?_ ?_
  · simp only [sp_putfE, wp_call, wp_lst, wp_tup, wp_ca, wp_cons, wp_nil, wp_var, wp_c, List.getElem?_cons_succ, List.getElem?_cons_zero, Option.some.injEq, ex_eq, w_lenT]
    refine ⟨by simp [sizeLine], by simp [sizeLine], ?_⟩
    have okP : ∀ p ∈ [Pc.kp 0 base.length], PcOk p := fun p hp => by
      rw [List.mem_singleton.mp hp]
      exact Nat.zero_le _
    refine TW (P := [.kp 0 base.length]) (by rw [stL_new]; rfl) okP (by simp) (by unfold lenS; rw [ogs_one, ogs1_len]; show base.length - 0 ≤ 100000; omega) fun st3 g3 => ?_
    have e : tidyP [Pc.kp 0 base.length] = pcsO (kpL 0 base.length) := by
      rw [tidy_ogs okP, ogs_one]
      rfl
    rw [e]
    have i3 := g3.get ((Grown.one st2 (.lst [A.tup [.str "kept", .int 0, .int (base.length : Nat)]])).get i2)
    refine ⟨_, setE i3 (by simp), (k2.trans ((KpX.grown (.one _ _)).trans (KpX.grown g3))).trans (KpX.set (by simp)), List.getElem?_set_self (List.getElem?_eq_some_iff.mp i3).1, by trivial⟩
  rintro ρ st3 ⟨k3, i3, rfl⟩
  refine seq_cut (fun ρ st' => KpX [t] st st' ∧ ∃ u, st.length ≤ u ∧ stL st' u = some [] ∧ st'[t]? = some (.oth (.ins "Editor" [("_base", .tup base), ("_contents", .tup base), ("_pieces", pcsA (kpL 0 base.length)), ("_undoable", .ref u)])) ∧ ρ = [some (.ref t), some (.tup base)]) ?_ ?_
  · simp only [sp_putfE, wp_lst, wp_nil, wp_var, List.getElem?_cons_succ, List.getElem?_cons_zero, Option.some.injEq, ex_eq]
    have i4 := (Grown.one st3 (.lst [])).get i3
    refine ⟨by simp [sizeLine], _, setE i4 (by simp), k3.trans ((KpX.grown (.one _ _)).trans (KpX.set (by simp))), st3.length, k3.len, ?_, List.getElem?_set_self (List.getElem?_eq_some_iff.mp i4).1, by trivial⟩
    have := k3.len
    unfold ML.stL
    rw [List.getElem?_set_ne (by omega)]
    exact stL_new
  rintro ρ st4 ⟨k4, u, hu, hu4, i4, rfl⟩
  simp only [sp_putfE, wp_lst, wp_nil, wp_var, List.getElem?_cons_succ, List.getElem?_cons_zero, Option.some.injEq, ex_eq]
  have i5 := (Grown.one st4 (.lst [])).get i4
  refine ⟨by simp [sizeLine], _, setE i5 (by simp), ?_⟩
  have ll := k4.len
  have hul := stL_lt hu4
  have cs : csA base (kpL 0 base.length) = .tup base := by
    unfold csA
    rw [val_kpL (by omega)]
    simp
  refine k u st4.length _ (k4.trans ((KpX.grown (.one _ _)).trans (KpX.set (by simp)))) hu ll ⟨?_, ?_, ?_, ⟨fun o ho => ?_, by rw [kpL_len]; exact hn⟩, (fun M hM => by cases hM), (fun M hM => by cases hM), by omega, ht, by omega, by omega⟩
  · rw [List.getElem?_set_self (List.getElem?_eq_some_iff.mp i5).1]
    unfold edFs
    rw [cs]
    rfl
  · unfold ML.stL
    rw [List.getElem?_set_ne (by omega)]
    exact (Grown.one _ _).stL hu4
  · unfold ML.stL
    rw [List.getElem?_set_ne (by omega)]
    exact stL_new
  · obtain ⟨i, rfl, _, h2⟩ := kpL_mem ho
    show i < base.length
    omega
theorem make_wp {mx : MX} {ρ : ML.Env} {st0 : Store} (hx : (mx ρ st0).wp fun x st' => x = .tup base ∧ st' = st) (ht : 1 < st.length) (hn : base.length ≤ 2000) (k : ∀ u d st', Grown st st' → st.length < u → st.length < d → EdT base st.length u d (kpL 0 base.length) [] [] st' → Q (.ref st.length) st') : (mMake "Editor" m_Editor___init__ (mCons mx mNil) ρ st0).wp Q := by
  have IW := @init_wp
  generalize m_Editor___init__ = ini at IW ⊢
  rw [wp_makeE, wp_cons]
  refine hx.imp fun x st' ⟨e1, e2⟩ => ?_
  subst e1 e2
  rw [wp_nil]
  refine IW (by simp) ht hn fun u d st2 k2 hu hd h2 => ⟨rfl, ?_⟩
  rw [List.length_append, List.length_singleton] at hu hd
  refine k u d st2 ⟨st2.drop st'.length, ?_⟩ (by omega) (by omega) h2
  refine List.ext_getElem? fun i => ?_
  have l2 := k2.len
  rw [List.length_append, List.length_singleton] at l2
  by_cases c : i < st'.length
  · rw [List.getElem?_append_left c, k2.get i (by simp; omega) (by simp; omega), List.getElem?_append_left c]
  · rw [List.getElem?_append_right (by omega), List.getElem?_drop]
    congr 1
    omega
def repO (L : List Og) (s e : Nat) (xs : List A) : List Og := L.take s ++ (xs.map .is ++ L.drop e)
theorem repO_len {s e : Nat} {xs : List A} (hs : s ≤ e) (he : e ≤ L.length) : (repO L s e xs).length = L.length - (e - s) + xs.length := by
  simp only [repO, List.length_append, List.length_take, List.length_map, List.length_drop]
  omega
theorem repO_ok {s e : Nat} {xs : List A} (h : OL base L) (hs : s ≤ e) (he : e ≤ L.length) (hx : ∀ x ∈ xs, El x) (hn : L.length - (e - s) + xs.length ≤ 2000) : OL base (repO L s e xs) := ⟨fun o ho => by
  simp only [repO, List.mem_append, List.mem_map] at ho
  rcases ho with ho | ⟨x, hx', rfl⟩ | ho
  · exact h.b o (List.mem_of_mem_take ho)
  · exact hx x hx'
  · exact h.b o (List.mem_of_mem_drop ho), by rw [repO_len hs he]; exact hn⟩
theorem rep_pieces {s e : Nat} {xs : List A} (h : OL base L) (hs : s ≤ e) (he : e ≤ L.length) : tidyP (partsP 0 s (pcsO L) ++ [Pc.is xs] ++ partsP e L.length (pcsO L)) = pcsO (repO L s e xs) := by
  rw [tidy_ogs fun p hp => ?_]
  · rw [ogs_app, ogs_app, parts_ogs, parts_ogs, pcs_ogs, ogs_one]
    unfold repO
    rw [List.drop_zero, List.take_length, List.append_assoc]
    rfl
  · simp only [List.mem_append, List.mem_singleton] at hp
    rcases hp with (hp | rfl) | hp
    · exact ptsP_ok p hp
    · trivial
    · exact ptsP_ok p hp
theorem replace_wp {s e : Nat} {xs : List A} (h : EdT base r u d L U D st) (hs : s ≤ e) (he : e ≤ L.length) (hx : ∀ x ∈ xs, El x) (hn : L.length - (e - s) + xs.length ≤ 2000) (hU : U.length ≤ 100000)
    (k : ∀ d' st', KpX [r, u] st st' → st.length ≤ d' → EdT base r u d' (repO L s e xs) (U ++ [L]) [] st' → Q (.int (repO L s e xs).length) st') : (m_Editor_replace_range [.ref r, .int s, .int e, .tup xs] st).wp Q := by
  have PW := @pieces_part_wp
  have TW := @tidied_wp
  have BW := @become_wp
  have CE := @check_eq
  simp only [m_Editor_replace_range]
  generalize m_pieces_part = pp at PW ⊢
  generalize m_tidied = ti at TW ⊢
  generalize m_Editor__become = be at BW ⊢
  generalize m_check_count = cc at CE ⊢
  rw [wp_fn]
  refine ⟨rfl, ?_⟩
  have hsz := size_eq
  obtain ⟨pl, pS⟩ := og_len h.ok
  have pB : ∀ p ∈ pcsO L, PcB base.length p := pcs_b h.ok.b
  have pO : ∀ p ∈ pcsO L, PcOk p := pcs_ok L
  have oN := repO_ok h.ok hs he hx hn
  have lN := repO_len (L := L) (xs := xs) hs he
  have hL := h.ok.n
  simp only [List.map_cons, List.map_nil, List.cons_append, List.nil_append, List.replicate, Nat.reduceSub]
  generalize hw1 : some (A.int (s : Int)) = w1
  generalize hw3 : some (A.tup xs) = w3
  refine seq_cut (fun ρ st' => st' = st ∧ ρ = [some (.ref r), w1, some (.int (e : Nat)), w3, some (.int (L.length : Nat)), none, none]) ?_ ?_
  · simp only [sp_set, wp_ca, wp_cons, wp_nil, wp_fldE, wp_var, List.getElem?_cons_zero, Option.some.injEq, ex_eq, List.set_cons_succ, List.set_cons_zero]
    refine ⟨_, insE h.i, _, rfl, ?_⟩
    rw [csA, w_lenT]
    exact ⟨rfl, by rw [List.length_map]⟩
  rintro ρ st1 ⟨rfl, rfl⟩
  refine seq_cut (fun ρ st' => st' = st1 ∧ ρ = [some (.ref r), w1, some (.int (e : Nat)), w3, some (.int (L.length : Nat)), none, none]) ?_ ?_
  · simp only [sp_ifs, wp_gb, wp_bin, wp_var, List.getElem?_cons_succ, List.getElem?_cons_zero, Option.some.injEq, ex_eq]
    rw [w_gt, w_getB, if_neg (by simp; omega), sp_next]
    exact ⟨rfl, rfl⟩
  rintro ρ st2 ⟨rfl, rfl⟩
  refine seq_cut (fun ρ st' => st' = st2 ∧ ρ = [some (.ref r), w1, some (.int (e : Nat)), w3, some (.int (L.length : Nat)), none, none]) ?_ ?_
  · rw [← hw1]
    simp only [sp_ifs, wp_gb, wp_bin, wp_var, List.getElem?_cons_succ, List.getElem?_cons_zero, Option.some.injEq, ex_eq]
    rw [w_gt, w_getB, if_neg (by simp; omega), sp_next]
    exact ⟨rfl, rfl⟩
  rintro ρ st3 ⟨rfl, rfl⟩
  refine seq_cut (fun ρ st' => st' = st3 ∧ ρ = [some (.ref r), w1, some (.int (e : Nat)), w3, some (.int (L.length : Nat)), none, none]) ?_ ?_
  · rw [← hw1, ← hw3]
    simp only [sp_expr, wp_call, wp_ca, wp_bin, wp_cons, wp_nil, wp_var, List.getElem?_cons_succ, List.getElem?_cons_zero, Option.some.injEq, ex_eq, w_sub, w_lenT, w_add]
    rw [CE, if_neg (by omega)]
    exact ⟨by trivial, by trivial⟩
  rintro ρ st4 ⟨rfl, rfl⟩
  refine seq_cut (fun ρ st' => st' = st4 ++ [.lst ((partsP 0 s (pcsO L)).map pcA)] ∧ ρ = [some (.ref r), w1, some (.int (e : Nat)), w3, some (.int (L.length : Nat)), some (.ref st4.length), none]) ?_ ?_
  · rw [← hw1]
    simp only [sp_set, wp_call, wp_cons, wp_nil, wp_fldE, wp_var, wp_c, List.getElem?_cons_succ, List.getElem?_cons_zero, Option.some.injEq, ex_eq, List.set_cons_succ, List.set_cons_zero]
    refine ⟨_, insE h.i, _, rfl, ?_⟩
    rw [pcsA, show (0 : Int) = ((0 : Nat) : Int) from rfl]
    exact PW pO (by omega) ⟨rfl, rfl⟩
  rintro ρ st5 ⟨rfl, rfl⟩
  have h5 := h.grown (.one st4 (.lst ((partsP 0 s (pcsO L)).map pcA)))
  have b5 : stL (st4 ++ [.lst ((partsP 0 s (pcsO L)).map pcA)]) st4.length = some ((partsP 0 s (pcsO L)).map pcA) := stL_new
  have k5 : KpX [r, u] st4 (st4 ++ [.lst ((partsP 0 s (pcsO L)).map pcA)]) := .grown (.one _ _)
  generalize hq : st4.length = q at b5 ⊢
  generalize (st4 ++ [.lst ((partsP 0 s (pcsO L)).map pcA)]) = st5 at h5 b5 k5 ⊢
  refine seq_cut (fun ρ st' => ∃ q2, q ≤ q2 ∧ EdT base r u d L U D st' ∧ KpX [r, u] st4 st' ∧ stL st' q = some ((partsP 0 s (pcsO L)).map pcA) ∧ stL st' q2 = some ((partsP e L.length (pcsO L)).map pcA) ∧ ρ = [some (.ref r), w1, some (.int (e : Nat)), w3, some (.int (L.length : Nat)), some (.ref q), some (.ref q2)]) ?_ ?_
  · simp only [sp_set, wp_call, wp_cons, wp_nil, wp_fldE, wp_var, wp_c, List.getElem?_cons_succ, List.getElem?_cons_zero, Option.some.injEq, ex_eq, List.set_cons_succ, List.set_cons_zero]
    refine ⟨_, insE h5.i, _, rfl, ?_⟩
    rw [pcsA]
    exact PW pO (by omega) ⟨st5.length, by have := k5.len; omega, h5.grown (.one _ _), k5.trans (.grown (.one _ _)), (Grown.one _ _).stL b5, stL_new, rfl⟩
  rintro ρ st6 ⟨q2, hq2, h6, k6, b6, c6, rfl⟩
  clear h5 b5 k5
  have nr := h6.ru
  have hqu : q ≠ u ∧ q ≠ r ∧ q2 ≠ u ∧ q2 ≠ r := by
    have := stL_lt h.hu
    have := (List.getElem?_eq_some_iff.mp h.i).1
    omega
  refine seq_cut (fun ρ st' => EdT base r u d L (U ++ [L]) D st' ∧ KpX [r, u] st4 st' ∧ stL st' q = some ((partsP 0 s (pcsO L)).map pcA) ∧ stL st' q2 = some ((partsP e L.length (pcsO L)).map pcA) ∧ ρ = [some (.ref r), w1, some (.int (e : Nat)), w3, some (.int (L.length : Nat)), some (.ref q), some (.ref q2)]) ?_ ?_
  · simp only [sp_expr, wp_bm, wp_cons, wp_nil, wp_fldE, wp_var, List.getElem?_cons_zero, Option.some.injEq, ex_eq]
    refine ⟨_, insE h6.i, _, rfl, by rw [isL_ref, h6.hu]; rfl, _, insE h6.i, _, rfl, ?_⟩
    rw [w_append]
    refine ⟨_, h6.hu, by rw [List.length_map]; omega, ⟨?_, ?_, ?_, h.ok, ?_, h.okD, h.ud, h.r1, h.u1, h.d1⟩, k6.trans (.set (by simp)), ?_, ?_, by trivial⟩
    · rw [List.getElem?_set_ne (Ne.symm nr.1)]
      exact h6.i
    · rw [stL_set_self h6.hu]
      simp
    · rw [stL_set_ne h.ud]
      exact h6.hd
    · intro M hM
      rcases List.mem_append.mp hM with hM | hM
      · exact h.okU M hM
      · rw [List.mem_singleton.mp hM]
        exact h.ok
    · rw [stL_set_ne (by omega)]
      exact b6
    · rw [stL_set_ne (by omega)]
      exact c6
  rintro ρ st7 ⟨h7, k7, b7, c7, rfl⟩
  clear h6 k6 b6 c6
  refine seq_cut (fun ρ st' => ∃ d', st4.length ≤ d' ∧ EdT base r u d' L (U ++ [L]) [] st' ∧ KpX [r, u] st4 st' ∧ stL st' q = some ((partsP 0 s (pcsO L)).map pcA) ∧ stL st' q2 = some ((partsP e L.length (pcsO L)).map pcA) ∧ ρ = [some (.ref r), w1, some (.int (e : Nat)), w3, some (.int (L.length : Nat)), some (.ref q), some (.ref q2)]) ?_ ?_
  · simp only [sp_putfE, wp_lst, wp_nil, wp_var, List.getElem?_cons_zero, Option.some.injEq, ex_eq]
    have i8 := (Grown.one st7 (.lst [])).get h7.i
    have u8 := (Grown.one st7 (.lst [])).stL h7.hu
    have ul := stL_lt h7.hu
    have rl := (List.getElem?_eq_some_iff.mp h7.i).1
    have kl := k7.len
    refine ⟨by simp [sizeLine], _, setE i8 (by simp [edFs]), st7.length, kl, ⟨?_, ?_, ?_, h.ok, h7.okU, fun M hM => (by cases hM), by omega, h.r1, h.u1, by have := h.r1; omega⟩, k7.trans ((KpX.grown (.one _ _)).trans (.set (by simp))), ?_, ?_, by trivial⟩
    · rw [List.getElem?_set_self (List.getElem?_eq_some_iff.mp i8).1]
      rfl
    · unfold ML.stL
      rw [List.getElem?_set_ne nr.1]
      exact u8
    · unfold ML.stL
      rw [List.getElem?_set_ne (by omega)]
      exact stL_new
    · unfold ML.stL
      rw [List.getElem?_set_ne (by omega)]
      exact (Grown.one _ _).stL b7
    · unfold ML.stL
      rw [List.getElem?_set_ne (by omega)]
      exact (Grown.one _ _).stL c7
  rintro ρ st8 ⟨d', hd', h8, k8, b8, c8, rfl⟩
  clear h7 k7 b7 c7
  refine seq_cut (fun ρ st' => EdT base r u d' (repO L s e xs) (U ++ [L]) [] st' ∧ KpX [r, u] st4 st' ∧ ρ = [some (.ref r), w1, some (.int (e : Nat)), w3, some (.int (L.length : Nat)), some (.ref q), some (.ref q2)]) ?_ ?_
  · rw [← hw3]
    simp only [sp_expr, wp_methE, wp_call, wp_bin, wp_lst, wp_tup, wp_cons, wp_nil, wp_var, wp_c, List.getElem?_cons_succ, List.getElem?_cons_zero, Option.some.injEq, ex_eq]
    refine ⟨_, insE h8.i, rfl, by simp [sizeLine], by simp [sizeLine], ?_⟩
    have p1 := parts_len (P := pcsO L) (s := 0) (e := s)
    have p2 := parts_len (P := pcsO L) (s := e) (e := L.length)
    rw [w_addL]
    refine ⟨_, (Grown.one _ _).stL b8, _, stL_new, by simp; omega, ?_⟩
    rw [w_addL]
    refine ⟨_, stL_new, _, (Grown.one _ _).stL ((Grown.one _ _).stL c8), by simp; omega, ?_⟩
    rw [show (partsP 0 s (pcsO L)).map pcA ++ [A.tup [.str "inserted", .tup xs]] ++ (partsP e L.length (pcsO L)).map pcA = (partsP 0 s (pcsO L) ++ [Pc.is xs] ++ partsP e L.length (pcsO L)).map pcA by simp [pcA]]
    generalize (partsP 0 s (pcsO L)).map pcA ++ [A.tup [.str "inserted", .tup xs]] = gx
    have gg : Grown st8 (st8 ++ [.lst [A.tup [.str "inserted", .tup xs]]] ++ [.lst gx] ++ [.lst ((partsP 0 s (pcsO L) ++ [Pc.is xs] ++ partsP e L.length (pcsO L)).map pcA)]) := ((Grown.one _ _).trans (.one _ _)).trans (.one _ _)
    have pOk : ∀ p ∈ partsP 0 s (pcsO L) ++ [Pc.is xs] ++ partsP e L.length (pcsO L), PcOk p := fun p hp => by
      simp only [List.mem_append, List.mem_singleton] at hp
      rcases hp with (hp | rfl) | hp
      · exact ptsP_ok p hp
      · trivial
      · exact ptsP_ok p hp
    refine TW stL_new pOk (by simp; omega) ?_ fun st9 g9 => ?_
    · unfold lenS
      rw [ogs_app, ogs_app, parts_ogs, parts_ogs, pcs_ogs, ogs_one]
      simp only [List.length_append, List.length_drop, List.length_take, ogs1, List.length_map]
      omega
    rw [rep_pieces h.ok hs he]
    have h9 := h8.grown (gg.trans g9)
    obtain ⟨pl2, pS2⟩ := og_len oN
    refine BW (base := base) h9.i (by simp [edFs]) rfl (Nat.lt_of_le_of_lt putFA_len (by simp [edFs])) (pcs_b oN.b) (by omega) (by omega) fun st10 k10 i10 => ?_
    have nr8 := h9.ru
    refine ⟨⟨?_, ?_, ?_, oN, h9.okU, h9.okD, h9.ud, h.r1, h.u1, h9.d1⟩, ?_, by trivial⟩
    · rw [i10, pcs_ogs]
      rfl
    · exact k10.stL (by simp; exact Ne.symm nr8.1) h9.hu
    · exact k10.stL (by simp; exact Ne.symm nr8.2) h9.hd
    · exact (k8.trans (.grown (gg.trans g9))).trans (k10.more fun i hi => .inl (by simp at hi; simp [hi]))
  rintro ρ st9 ⟨h9, k9, rfl⟩
  simp only [sp_ret, wp_ca, wp_cons, wp_nil, wp_fldE, wp_var, List.getElem?_cons_zero, Option.some.injEq, ex_eq]
  refine ⟨_, insE h9.i, _, rfl, ?_⟩
  rw [csA, w_lenT, List.length_map]
  exact k d' st9 k9 hd' h9
end
end Law
namespace Law
open PySem L2 ML
open Classical
section
variable {base : List A} {E : List Ed} {st : Store} {Q : A → Store → Prop}
theorem cutF {xs : List A} {p : Nat} : cutA xs (some (p : Int)) none = xs.drop p := by rw [cut_from (by omega)]; simp
end
end Law
namespace Law
open PySem L2 ML
open Classical
def m_Editor___len__ : MF := mFn 1 1 (mRet (mCa lenA (mCons (mFld "Editor" "_contents" (mVar 0)) mNil)))
def m_law_pieces : MF := mFn 4 1 (mSeq (mSet 1 (mLst mNil))
    (mSeq (mFor (mSrc (mVar 0)) (.one 2) (mSeq (mSet 3 (mTup (mCons (mC (.str "")) (mCons (mC (.int 0)) (mCons (mC (.int 0)) mNil)))))
    (mSeq (mIfS (mGB (mBin gtA (mCa lenA (mCons (mVar 1) mNil)) (mC (.int 0)))) (mSet 3 (mBin ixA (mVar 1) (mUn negA (mC (.int 1))))) mNext)
    (mIfS (mAnd (mTru (mUn (isiA .int) (mVar 2))) (mAnd (mGB (mBin eqA (mBin ixA (mVar 3) (mC (.int 0))) (mC (.str "kept")))) (mGB (mBin eqA (mBin ixA (mVar 3) (mC (.int 2))) (mVar 2))))) (mPut (mVar 1) (mUn negA (mC (.int 1))) (mTup (mCons (mC (.str "kept")) (mCons (mBin ixA (mVar 3) (mC (.int 1))) (mCons (mBin addA (mVar 2) (mC (.int 1))) mNil))))) (mIfS (mTru (mUn (isiA .int) (mVar 2))) (mExpr (mBm appendA (mVar 1) (mCons (mTup (mCons (mC (.str "kept")) (mCons (mVar 2) (mCons (mBin addA (mVar 2) (mC (.int 1))) mNil)))) mNil))) (mIfS (mGB (mBin eqA (mBin ixA (mVar 3) (mC (.int 0))) (mC (.str "inserted")))) (mPut (mVar 1) (mUn negA (mC (.int 1))) (mTup (mCons (mC (.str "inserted")) (mCons (mBin addA (mBin ixA (mVar 3) (mC (.int 1))) (mVar 2)) mNil)))) (mExpr (mBm appendA (mVar 1) (mCons (mTup (mCons (mC (.str "inserted")) (mCons (mVar 2) mNil))) mNil)))))))))
    (mRet (mCa tupleA (mCons (mVar 1) mNil)))))
def m_law_of_origins : MF := mFn 4 2 (mSeq (mSet 2 (mLst mNil))
    (mSeq (mFor (mSrc (mVar 1)) (.one 3) (mIfS (mTru (mUn (isiA .int) (mVar 3))) (mExpr (mBm appendA (mVar 2) (mCons (mBin ixA (mVar 0) (mVar 3)) mNil))) (mExpr (mBm appendA (mVar 2) (mCons (mBin ixA (mVar 3) (mC (.int 0))) mNil)))))
    (mRet (mCa tupleA (mCons (mVar 2) mNil)))))
def m_law_edits_of : MF := mFn 6 2 (mSeq (mSet 2 (mLst mNil))
    (mSeq (mSet 3 (mC (.int 0)))
    (mSeq (mSet 4 (mTup mNil))
    (mSeq (mFor (mSrc (mBin addA (mVar 1) (mTup (mCons (mTup (mCons (mC (.str "kept")) (mCons (mCa lenA (mCons (mVar 0) mNil)) (mCons (mCa lenA (mCons (mVar 0) mNil)) mNil)))) mNil)))) (.one 5) (mIfS (mGB (mBin eqA (mBin ixA (mVar 5) (mC (.int 0))) (mC (.str "inserted")))) (mSet 4 (mBin ixA (mVar 5) (mC (.int 1)))) (mSeq (mIfS (mOr (mGB (mBin gtA (mBin ixA (mVar 5) (mC (.int 1))) (mVar 3))) (mGB (mBin gtA (mCa lenA (mCons (mVar 4) mNil)) (mC (.int 0))))) (mExpr (mBm appendA (mVar 2) (mCons (mTup (mCons (mVar 3) (mCons (mBin ixA (mVar 5) (mC (.int 1))) (mCons (mVar 4) mNil)))) mNil))) mNext)
    (mSeq (mSet 3 (mBin ixA (mVar 5) (mC (.int 2))))
    (mSet 4 (mTup mNil))))))
    (mRet (mCa tupleA (mCons (mVar 2) mNil)))))))
def m_Editor_pieces : MF := mFn 1 1 (mRet (mFld "Editor" "_pieces" (mVar 0)))
section
variable {st : Store} {Q : A → Store → Prop}
variable {base : List A} {r u d : Nat} {L M : List Og} {U D : List (List Og)}
theorem piecesE_wp (h : EdT base r u d L U D st) (k : Q (pcsA L) st) : (m_Editor_pieces [.ref r] st).wp Q := by
  simp only [m_Editor_pieces, wp_fn]
  refine ⟨rfl, ?_⟩
  simp only [List.map_cons, List.map_nil, List.cons_append, List.nil_append, List.replicate, Nat.reduceSub, sp_ret, wp_fldE, wp_var, List.getElem?_cons_zero, Option.some.injEq, ex_eq]
  exact ⟨_, insE h.i, _, rfl, k⟩
theorem lenE_wp (h : EdT base r u d L U D st) (k : Q (.int (L.length : Nat)) st) : (lenO "Editor" m_Editor___len__ [.ref r] st).wp Q := by
  have e : m_Editor___len__ [.ref r] st = .ok (.int (L.length : Nat)) st := wp_is (by
    simp only [m_Editor___len__, wp_fn]
    refine ⟨rfl, ?_⟩
    simp only [List.map_cons, List.map_nil, List.cons_append, List.nil_append, List.replicate, Nat.reduceSub, sp_ret, wp_ca, wp_cons, wp_nil, wp_fldE, wp_var, List.getElem?_cons_zero, Option.some.injEq, ex_eq]
    refine ⟨_, insE h.i, _, rfl, ?_⟩
    rw [csA, w_lenT, List.length_map]
    exact ⟨rfl, rfl⟩)
  have hn := h.ok.n
  unfold lenO
  simp only [insE h.i, e]
  rw [if_pos (by omega)]
  exact k
def ogA : Og → A
  | .kp i => .int i
  | .is x => .tup [x]
theorem isi_int {i : Int} (k : Q (.bl true) st) : (isiA .int (.int i) st).wp Q := by
  rw [w_isi']
  exact ⟨_, ty_ii, k⟩
theorem isi_tup {xs : List A} (k : Q (.bl false) st) : (isiA .int (.tup xs) st).wp Q := by
  rw [w_isi']
  exact ⟨_, ty_it, k⟩
theorem no_kept : ¬ (Str.ofString "" = Str.ofString "kept") := by decide +kernel
theorem no_ins : ¬ (Str.ofString "" = Str.ofString "inserted") := by decide +kernel
def LpI (q : Nat) (L : List Og) (st0 : Store) (i : Nat) (ρ : ML.Env) (st : Store) : Prop := ∃ v2 v3 : Option A, st = st0 ++ [.lst ((pcsO (L.take i)).map pcA)] ∧ ρ = [some (.ref q), some (.ref st0.length), v2, v3]
theorem pcs_snoc (L : List Og) (o : Og) : pcsO (L ++ [o]) = stepP (pcsO L) (pc1 o) := by
  unfold pcsO
  rw [List.map_append, List.foldl_append]
  rfl
theorem len1 (o : Og) : 0 < lenP (pc1 o) := by
  cases o with
  | kp i => show 0 < i + 1 - i; omega
  | is x => exact Nat.succ_pos _
theorem law_pieces_wp {q : Nat} (hq : stL st q = some (L.map ogA)) (hn : L.length ≤ 100000) (k : ∀ st', Grown st st' → Q (pcsA L) st') : (m_law_pieces [.ref q] st).wp Q := by
  simp only [m_law_pieces]
  generalize hF : @mFor = F
  rw [wp_fn]
  refine ⟨rfl, ?_⟩
  have hs := size_eq
  simp only [List.map_cons, List.map_nil, List.cons_append, List.nil_append, List.replicate, Nat.reduceSub]
  refine seq_cut (LpI q L st 0) ?_ ?_
  · simp only [sp_set, wp_lst, wp_nil, List.set_cons_zero, List.set_cons_succ]
    exact ⟨by simp [sizeLine], none, none, rfl, rfl⟩
  intro ρ st1 h1
  refine seq_cut (LpI q L st L.length) ?_ ?_
  · have h1' := h1
    obtain ⟨v2, v3, e1, e2⟩ := h1'
    subst e1 e2
    rw [← hF]
    simp only [sp_for, wp_src, wp_var, List.getElem?_cons_zero, Option.some.injEq, ex_eq]
    rw [w_srcL]
    refine ⟨by rw [(Grown.one _ _).stL hq]; rfl, ?_⟩
    refine for_lst (LpI q L st) ((Grown.one _ _).stL hq) h1 (fun i ρ st' ⟨_, _, e1, _⟩ => by rw [e1]; exact (Grown.one _ _).stL hq) ?_ (fun ρ st' h => by simpa using h)
    clear h1 v2 v3
    rintro i x ρ st2 hx ⟨v2, v3, rfl, rfl⟩
    rw [List.getElem?_map, Option.map_eq_some_iff] at hx
    obtain ⟨o, ho, rfl⟩ := hx
    refine ⟨_, rfl, ?_⟩
    have lT : (pcsO (L.take i)).length ≤ 100000 := by
      have := pcs_len (L.take i)
      rw [List.length_take] at this
      omega
    have l1 := len1 o
    have sT : lenS (pcsO (L.take i)) ≤ 100000 := by
      unfold lenS
      rw [pcs_ogs, List.length_take]
      omega
    simp only [List.set_cons_zero, List.set_cons_succ]
    unfold LpI
    rw [take_snoc ho, pcs_snoc]
    generalize pcsO (L.take i) = T at lT sT ⊢
    generalize hN : (fun (ρ : ML.Env) (st' : Store) => ∃ v2 v3, st' = st ++ [Ob.lst (List.map pcA (stepP T (pc1 o)))] ∧ ρ = [some (A.ref q), some (A.ref (List.length st)), v2, v3]) = NN
    have add : canJ (T.getLast?.getD (.kp 0 0)) (pc1 o) = false ∨ T = [] → ∀ (v3 : Option A) (B : ML.Env → Store → Prop) (Rt : A → Store → Prop), NN [some (.ref q), some (.ref st.length), some (ogA o), v3] (st ++ [.lst (T.map pcA ++ [pcA (pc1 o)])]) := fun c v3 B Rt => by
      rw [← hN]
      refine ⟨_, _, ?_, rfl⟩
      rcases snoc_cases T with rfl | ⟨G, l, rfl⟩
      · rw [step_n1 l1]
        rfl
      · have c2 : canJ l (pc1 o) = false := by
          rcases c with c | c
          · simpa using c
          · simp at c
        rw [step_a c2 l1]
        simp
    refine seq_cut (fun ρ st' => st' = st ++ [.lst (T.map pcA)] ∧ ρ = [some (.ref q), some (.ref st.length), some (ogA o), some (.tup [.str "", .int 0, .int 0])]) ?_ ?_
    · simp only [sp_set, wp_tup, wp_cons, wp_nil, wp_c, List.set_cons_zero, List.set_cons_succ]
      exact ⟨by simp [sizeLine], by trivial, by trivial⟩
    rintro ρ st3 ⟨rfl, rfl⟩
    rcases snoc_cases T with rfl | ⟨G, l, rfl⟩
    · refine seq_cut (fun ρ st' => st' = st ++ [.lst []] ∧ ρ = [some (.ref q), some (.ref st.length), some (ogA o), some (.tup [.str "", .int 0, .int 0])]) ?_ ?_
      · simp only [sp_ifs, wp_gb, wp_bin, wp_ca, wp_cons, wp_nil, wp_var, wp_c, List.getElem?_cons_succ, List.getElem?_cons_zero, Option.some.injEq, ex_eq]
        rw [w_lenL]
        refine ⟨_, stL_new, ?_⟩
        rw [w_gt, w_getB, if_neg (by simp), sp_next]
        exact ⟨rfl, rfl⟩
      rintro ρ st3 ⟨rfl, rfl⟩
      have add' := add (.inr rfl)
      have t0 : atI [A.str "", .int 0, .int 0] 0 = some (.str "") := rfl
      cases o with
      | kp j =>
        simp only [sp_ifs, wp_and, wp_tru, wp_gb, wp_un, wp_bin, wp_var, wp_c, List.getElem?_cons_succ, List.getElem?_cons_zero, Option.some.injEq, ex_eq, ogA]
        refine isi_int ?_
        rw [w_truB, if_pos rfl, w_ixT]
        refine ⟨_, t0, ?_⟩
        rw [w_eqS, decide_eq_false no_kept, w_getB, if_neg (by decide), if_neg (by decide)]
        refine isi_int ?_
        rw [w_truB, if_pos rfl]
        simp only [sp_expr, wp_bm, wp_tup, wp_bin, wp_cons, wp_nil, wp_var, wp_c, List.getElem?_cons_succ, List.getElem?_cons_zero, Option.some.injEq, ex_eq, isL_ref, stL_new, Option.isSome_some, w_add]
        refine ⟨trivial, by simp [sizeLine], ?_⟩
        rw [w_append, stL_new]
        refine ⟨_, rfl, by simp [sizeLine], ?_⟩
        rw [List.set_append_right _ _ (Nat.le_refl _), Nat.sub_self]
        exact add' _ (fun _ _ => True) (fun _ _ => True)
      | is x =>
        simp only [sp_ifs, wp_and, wp_tru, wp_gb, wp_un, wp_bin, wp_var, wp_c, List.getElem?_cons_succ, List.getElem?_cons_zero, Option.some.injEq, ex_eq, ogA]
        refine isi_tup ?_
        rw [w_truB, if_neg (by decide), if_neg (by decide)]
        refine isi_tup ?_
        rw [w_truB, if_neg (by decide), w_ixT]
        refine ⟨_, t0, ?_⟩
        rw [w_eqS, decide_eq_false no_ins, w_getB, if_neg (by decide)]
        simp only [sp_expr, wp_bm, wp_tup, wp_bin, wp_cons, wp_nil, wp_var, wp_c, List.getElem?_cons_succ, List.getElem?_cons_zero, Option.some.injEq, ex_eq, isL_ref, stL_new, Option.isSome_some]
        refine ⟨trivial, by simp [sizeLine], ?_⟩
        rw [w_append, stL_new]
        refine ⟨_, rfl, by simp [sizeLine], ?_⟩
        rw [List.set_append_right _ _ (Nat.le_refl _), Nat.sub_self]
        exact add' _ (fun _ _ => True) (fun _ _ => True)
    · refine seq_cut (fun ρ st' => st' = st ++ [.lst ((G ++ [l]).map pcA)] ∧ ρ = [some (.ref q), some (.ref st.length), some (ogA o), some (pcA l)]) ?_ ?_
      · simp only [sp_ifs, wp_gb, wp_bin, wp_ca, wp_cons, wp_nil, wp_var, wp_c, List.getElem?_cons_succ, List.getElem?_cons_zero, Option.some.injEq, ex_eq]
        rw [w_lenL]
        refine ⟨_, stL_new, ?_⟩
        rw [w_gt, w_getB, if_pos (by simp)]
        simp only [sp_set, wp_bin, wp_un, wp_var, wp_c, List.getElem?_cons_succ, List.getElem?_cons_zero, Option.some.injEq, ex_eq, List.set_cons_zero, List.set_cons_succ, w_neg]
        rw [w_ixL]
        exact ⟨_, stL_new, _, last_pc, by trivial, by trivial⟩
      rintro ρ st3 ⟨rfl, rfl⟩
      have jn : canJ l (pc1 o) = true → NN [some (.ref q), some (.ref st.length), some (ogA o), some (pcA l)] ((st ++ [Ob.lst ((G ++ [l]).map pcA)]).set st.length (.lst (((G ++ [l]).map pcA).set G.length (pcA (joinP l (pc1 o)))))) := fun c => by
        rw [← hN]
        refine ⟨_, _, ?_, rfl⟩
        rw [step_j c, List.set_append_right _ _ (Nat.le_refl _)]
        simp [List.set_append_right]
      have ad : canJ l (pc1 o) = false → NN [some (.ref q), some (.ref st.length), some (ogA o), some (pcA l)] ((st ++ [Ob.lst ((G ++ [l]).map pcA)]).set st.length (.lst ((G ++ [l]).map pcA ++ [pcA (pc1 o)]))) := fun c => by
        rw [List.set_append_right _ _ (Nat.le_refl _), Nat.sub_self]
        exact add (.inl (by simpa using c)) _ (fun _ _ => True) (fun _ _ => True)
      have ll : lenP l ≤ 100000 := by
        have : lenP l ≤ lenS (G ++ [l]) := lenP_le (by simp)
        omega
      cases o with
      | kp j =>
        simp only [sp_ifs, wp_and, wp_tru, wp_gb, wp_un, wp_bin, wp_var, wp_c, List.getElem?_cons_succ, List.getElem?_cons_zero, Option.some.injEq, ex_eq, ogA]
        refine isi_int ?_
        rw [w_truB, if_pos rfl]
        have app : canJ l (pc1 (.kp j)) = false → ((mExpr (mBm appendA (mVar 1) (mCons (mTup (mCons (mC (.str "kept")) (mCons (mVar 2) (mCons (mBin addA (mVar 2) (mC (.int 1))) mNil)))) mNil))) [some (.ref q), some (.ref st.length), some (.int (j : Nat)), some (pcA l)] (st ++ [Ob.lst ((G ++ [l]).map pcA)])).wp NN (LpI q L st L.length) NN (fun _ _ => False) := fun c => by
          simp only [sp_expr, wp_bm, wp_tup, wp_bin, wp_cons, wp_nil, wp_var, wp_c, List.getElem?_cons_succ, List.getElem?_cons_zero, Option.some.injEq, ex_eq, isL_ref, stL_new, Option.isSome_some, w_add]
          refine ⟨trivial, by simp [sizeLine], ?_⟩
          rw [w_append, stL_new]
          exact ⟨_, rfl, by rw [List.length_map]; omega, ad c⟩
        cases l with
        | kp a b =>
          refine ixk0 (eqkk ?_)
          rw [w_getB, if_pos rfl]
          refine ixk2 ?_
          rw [w_eq, w_getB]
          by_cases c : b = j
          · rw [if_pos (by simp [c])]
            simp only [sp_put, wp_un, wp_tup, wp_bin, wp_cons, wp_nil, wp_var, wp_c, List.getElem?_cons_succ, List.getElem?_cons_zero, Option.some.injEq, ex_eq, w_neg, w_add]
            refine ixk1 ⟨by simp [sizeLine], ?_⟩
            rw [ex_setA, stL_new]
            exact ⟨_, rfl, _, last_ixN, jn (by simp [canJ, pc1, c])⟩
          · rw [if_neg (by simp; omega)]
            refine isi_int ?_
            rw [w_truB, if_pos rfl]
            exact app (by simp [canJ, pc1, c])
        | is zs =>
          refine ixi0 (eqik ?_)
          rw [w_getB, if_neg (by decide), if_neg (by decide)]
          refine isi_int ?_
          rw [w_truB, if_pos rfl]
          exact app rfl
      | is x =>
        simp only [sp_ifs, wp_and, wp_tru, wp_gb, wp_un, wp_bin, wp_var, wp_c, List.getElem?_cons_succ, List.getElem?_cons_zero, Option.some.injEq, ex_eq, ogA]
        refine isi_tup ?_
        rw [w_truB, if_neg (by decide), if_neg (by decide)]
        refine isi_tup ?_
        rw [w_truB, if_neg (by decide)]
        cases l with
        | kp a b =>
          refine ixk0 (eqki ?_)
          rw [w_getB, if_neg (by decide)]
          simp only [sp_expr, wp_bm, wp_tup, wp_bin, wp_cons, wp_nil, wp_var, wp_c, List.getElem?_cons_succ, List.getElem?_cons_zero, Option.some.injEq, ex_eq, isL_ref, stL_new, Option.isSome_some]
          refine ⟨trivial, by simp [sizeLine], ?_⟩
          rw [w_append, stL_new]
          exact ⟨_, rfl, by rw [List.length_map]; omega, ad rfl⟩
        | is zs =>
          refine ixi0 (eqii ?_)
          rw [w_getB, if_pos rfl]
          simp only [sp_put, wp_un, wp_tup, wp_bin, wp_cons, wp_nil, wp_var, wp_c, List.getElem?_cons_succ, List.getElem?_cons_zero, Option.some.injEq, ex_eq, w_neg]
          refine ixi1 ?_
          rw [w_addT]
          simp only [lenP] at ll
          refine ⟨by simp; omega, by simp [sizeLine], ?_⟩
          rw [ex_setA, stL_new]
          exact ⟨_, rfl, _, last_ixN, jn rfl⟩
  rintro ρ st2 ⟨v2, v3, rfl, rfl⟩
  simp only [sp_ret, wp_ca, wp_cons, wp_nil, wp_var, List.getElem?_cons_succ, List.getElem?_cons_zero, Option.some.injEq, ex_eq]
  rw [w_tupL, List.take_length]
  exact ⟨_, stL_new, k _ (.one _ _)⟩
end
end Law
namespace Law
open PySem L2 ML
open Classical
section
variable {st : Store} {Q : A → Store → Prop} {base : List A} {L : List Og}
def LoI (base : List A) (q : Nat) (L : List Og) (st0 : Store) (i : Nat) (ρ : ML.Env) (st : Store) : Prop := ∃ v3 : Option A, st = st0 ++ [.lst ((L.take i).map (valO base))] ∧ ρ = [some (.tup base), some (.ref q), some (.ref st0.length), v3]
theorem of_origins_wp {q : Nat} (hq : stL st q = some (L.map ogA)) (hb : ∀ o ∈ L, OgB base.length o) (hn : L.length ≤ 100000) (k : ∀ st', Grown st st' → Q (csA base L) st') : (m_law_of_origins [.tup base, .ref q] st).wp Q := by
  simp only [m_law_of_origins]
  generalize hF : @mFor = F
  rw [wp_fn]
  refine ⟨rfl, ?_⟩
  have hs := size_eq
  simp only [List.map_cons, List.map_nil, List.cons_append, List.nil_append, List.replicate, Nat.reduceSub]
  refine seq_cut (LoI base q L st 0) ?_ ?_
  · simp only [sp_set, wp_lst, wp_nil, List.set_cons_zero, List.set_cons_succ]
    exact ⟨by simp [sizeLine], none, rfl, rfl⟩
  intro ρ st1 h1
  refine seq_cut (LoI base q L st L.length) ?_ ?_
  · have h1' := h1
    obtain ⟨v3, e1, e2⟩ := h1'
    subst e1 e2
    rw [← hF]
    simp only [sp_for, wp_src, wp_var, List.getElem?_cons_succ, List.getElem?_cons_zero, Option.some.injEq, ex_eq]
    rw [w_srcL]
    refine ⟨by rw [(Grown.one _ _).stL hq]; rfl, ?_⟩
    refine for_lst (LoI base q L st) ((Grown.one _ _).stL hq) h1 (fun i ρ st' ⟨_, e1, _⟩ => by rw [e1]; exact (Grown.one _ _).stL hq) ?_ (fun ρ st' h => by simpa using h)
    clear h1 v3
    rintro i x ρ st2 hx ⟨v3, rfl, rfl⟩
    rw [List.getElem?_map, Option.map_eq_some_iff] at hx
    obtain ⟨o, ho, rfl⟩ := hx
    refine ⟨_, rfl, ?_⟩
    have ob := hb o (List.mem_of_getElem? ho)
    have lT : ((L.take i).map (valO base)).length ≤ 100000 := by
      rw [List.length_map, List.length_take]
      omega
    unfold LoI
    rw [take_snoc ho, List.map_append, List.map_singleton]
    generalize (L.take i).map (valO base) = T at lT ⊢
    simp only [List.set_cons_zero, List.set_cons_succ, sp_ifs, wp_tru, wp_un, wp_var, List.getElem?_cons_succ, List.getElem?_cons_zero, Option.some.injEq, ex_eq]
    cases o with
    | kp j =>
      refine isi_int ?_
      rw [w_truB, if_pos rfl]
      simp only [sp_expr, wp_bm, wp_bin, wp_cons, wp_nil, wp_var, wp_c, List.getElem?_cons_succ, List.getElem?_cons_zero, Option.some.injEq, ex_eq, isL_ref, stL_new, Option.isSome_some, ogA]
      have hj : j < base.length := ob
      refine ⟨trivial, ?_⟩
      rw [w_ixT]
      refine ⟨base[j], by rw [atI_nn (by omega)]; simp [hj], ?_⟩
      rw [w_append, stL_new]
      refine ⟨_, rfl, by omega, some (.int (j : Nat)), ?_, rfl⟩
      rw [List.set_append_right _ _ (Nat.le_refl _)]
      simp [valO, hj]
    | is x =>
      refine isi_tup ?_
      rw [w_truB, if_neg (by decide)]
      simp only [sp_expr, wp_bm, wp_bin, wp_cons, wp_nil, wp_var, wp_c, List.getElem?_cons_succ, List.getElem?_cons_zero, Option.some.injEq, ex_eq, isL_ref, stL_new, Option.isSome_some, ogA]
      refine ⟨trivial, ?_⟩
      rw [w_ixT]
      refine ⟨x, rfl, ?_⟩
      rw [w_append, stL_new]
      refine ⟨_, rfl, by omega, some (.tup [x]), ?_, rfl⟩
      rw [List.set_append_right _ _ (Nat.le_refl _)]
      simp [valO]
  rintro ρ st2 ⟨v3, rfl, rfl⟩
  simp only [sp_ret, wp_ca, wp_cons, wp_nil, wp_var, List.getElem?_cons_succ, List.getElem?_cons_zero, Option.some.injEq, ex_eq]
  rw [w_tupL, List.take_length]
  exact ⟨_, stL_new, k _ (.one _ _)⟩
theorem law_edits_of_wp {P : List Pc} (hl : P.length ≤ 100000) (k : ∀ st', Grown st st' → Q (.tup ((edsF P base.length).map edA)) st') : (m_law_edits_of [.tup base, .tup (P.map pcA)] st).wp Q := by
  simp only [m_law_edits_of]
  generalize hF : @mFor = F
  rw [wp_fn]
  refine ⟨rfl, ?_⟩
  have hs := size_eq
  simp only [List.map_cons, List.map_nil, List.cons_append, List.nil_append, List.replicate, Nat.reduceSub]
  generalize hn : base.length = n at k
  have eP : (P.map pcA) ++ [A.tup [.str "kept", .int n, .int n]] = (P ++ [Pc.kp n n]).map pcA := by simp [pcA]
  unfold edsF at k
  have ef : (P ++ [Pc.kp n n]).foldl edStep (0, [], []) = edSt (P ++ [Pc.kp n n]) (P ++ [Pc.kp n n]).length := by
    unfold edSt
    rw [List.take_length]
  rw [ef] at k
  have lR : (P ++ [Pc.kp n n]).length = P.length + 1 := by simp
  generalize hv0 : some (A.tup base) = v0
  generalize hv1 : some (A.tup (P.map pcA)) = v1
  refine seq_cut (fun ρ st' => st' = st ++ [.lst []] ∧ ρ = [v0, v1, some (.ref st.length), none, none, none]) ?_ ?_
  · simp only [sp_set, wp_lst, wp_nil, List.set_cons_zero, List.set_cons_succ]
    exact ⟨by simp [sizeLine], by trivial, by trivial⟩
  rintro ρ st1 ⟨rfl, rfl⟩
  refine seq_cut (fun ρ st' => st' = st ++ [.lst []] ∧ ρ = [v0, v1, some (.ref st.length), some (.int 0), none, none]) ?_ ?_
  · simp only [sp_set, wp_c, List.set_cons_zero, List.set_cons_succ]
    exact ⟨by trivial, by trivial⟩
  rintro ρ st1 ⟨rfl, rfl⟩
  refine seq_cut (EfI (P ++ [Pc.kp n n]) v0 v1 st 0) ?_ ?_
  · simp only [sp_set, wp_tup, wp_nil, List.set_cons_zero, List.set_cons_succ]
    exact ⟨by simp [sizeLine], none, rfl, rfl⟩
  intro ρ st1 h1
  refine seq_cut (EfI (P ++ [Pc.kp n n]) v0 v1 st (P ++ [Pc.kp n n]).length) ?_ ?_
  · have h1' := h1
    obtain ⟨v2, e1, e2⟩ := h1'
    subst e1 e2
    rw [← hF, ← hv0, ← hv1]
    rw [← hv0, ← hv1] at h1
    simp only [sp_for, wp_src, wp_bin, wp_ca, wp_tup, wp_cons, wp_nil, wp_var, wp_c, List.getElem?_cons_succ, List.getElem?_cons_zero, Option.some.injEq, ex_eq, w_lenT, hn]
    refine ⟨by simp [sizeLine], by simp [sizeLine], ?_⟩
    rw [w_addT]
    refine ⟨by simp; omega, ?_⟩
    rw [w_srcT, eP]
    rw [hv0, hv1] at h1 ⊢
    generalize (P ++ [Pc.kp n n]) = R at *
    refine for_vals (EfI R v0 v1 st) h1 ?_ (fun ρ st' h => by simpa using h)
    rintro i x ρ st2 hx ⟨v5, rfl, rfl⟩
    rw [List.getElem?_map, Option.map_eq_some_iff] at hx
    obtain ⟨p, hp, rfl⟩ := hx
    have hi := (List.getElem?_eq_some_iff.mp hp).1
    refine ⟨_, rfl, ?_⟩
    simp only [List.set_cons_zero, List.set_cons_succ]
    have ll := edst_len (P := R) i
    unfold EfI
    rw [edst_next hp]
    generalize edSt R i = S at ll ⊢
    obtain ⟨pl, ins, fd⟩ := S
    simp only at ll ⊢
    simp only [sp_ifs, wp_gb, wp_bin, wp_var, wp_c, List.getElem?_cons_succ, List.getElem?_cons_zero, Option.some.injEq, ex_eq]
    cases p with
    | is xs =>
      refine ixi0 (eqii ?_)
      rw [w_getB, if_pos rfl]
      simp only [sp_set, wp_bin, wp_var, wp_c, List.getElem?_cons_succ, List.getElem?_cons_zero, Option.some.injEq, ex_eq, List.set_cons_zero, List.set_cons_succ]
      exact ixi1 ⟨some (pcA (.is xs)), by trivial, by trivial⟩
    | kp a b =>
      refine ixk0 (eqki ?_)
      rw [w_getB, if_neg (by decide)]
      refine seq_cut (fun ρ st' => st' = st ++ [.lst ((edStep (pl, ins, fd) (.kp a b)).2.2.map edA)] ∧ ρ = [v0, v1, some (.ref st.length), some (.int (pl : Nat)), some (.tup ins), some (pcA (.kp a b))]) ?_ ?_
      · have yes : (pl < a ∨ ins ≠ []) → ((mExpr (mBm appendA (mVar 2) (mCons (mTup (mCons (mVar 3) (mCons (mBin ixA (mVar 5) (mC (.int 1))) (mCons (mVar 4) mNil)))) mNil))) [v0, v1, some (.ref st.length), some (.int (pl : Nat)), some (.tup ins), some (pcA (.kp a b))] (st ++ [.lst (fd.map edA)])).wp (fun ρ st' => st' = st ++ [.lst ((edStep (pl, ins, fd) (.kp a b)).2.2.map edA)] ∧ ρ = [v0, v1, some (.ref st.length), some (.int (pl : Nat)), some (.tup ins), some (pcA (.kp a b))]) (fun _ _ => False) (fun _ _ => False) (fun _ _ => False) := fun c => by
          simp only [sp_expr, wp_bm, wp_bin, wp_tup, wp_cons, wp_nil, wp_var, wp_c, List.getElem?_cons_succ, List.getElem?_cons_zero, Option.some.injEq, ex_eq, isL_ref, stL_new, Option.isSome_some]
          refine ⟨trivial, ixk1 ⟨by simp [sizeLine], ?_⟩⟩
          rw [w_append, stL_new]
          refine ⟨_, rfl, by rw [List.length_map]; omega, ?_, by trivial⟩
          rw [ed_yes c, List.set_append_right _ _ (Nat.le_refl _)]
          simp [edA]
        generalize (mExpr (mBm appendA (mVar 2) (mCons (mTup (mCons (mVar 3) (mCons (mBin ixA (mVar 5) (mC (.int 1))) (mCons (mVar 4) mNil)))) mNil))) = AP at yes ⊢
        simp only [sp_ifs, wp_or, wp_gb, wp_ca, wp_bin, wp_cons, wp_nil, wp_var, wp_c, List.getElem?_cons_succ, List.getElem?_cons_zero, Option.some.injEq, ex_eq]
        refine ixk1 ?_
        rw [w_gt, w_getB]
        by_cases c1 : pl < a
        · rw [if_pos (by simpa using c1), if_pos trivial]
          exact yes (.inl c1)
        · rw [if_neg (by simpa using c1), w_lenT, w_gt, w_getB]
          cases ins with
          | nil =>
            rw [if_neg (by simp), sp_next]
            have : (edStep (pl, [], fd) (.kp a b)).2.2 = fd := by
              simp only [edStep]
              rw [if_neg (by simp; omega)]
            rw [this]
            exact ⟨rfl, rfl⟩
          | cons y ys =>
            rw [if_pos (by simp)]
            exact yes (.inr (by simp))
      rintro ρ st3 ⟨rfl, rfl⟩
      simp only [sp_seq, sp_set, wp_bin, wp_tup, wp_nil, wp_var, wp_c, List.getElem?_cons_succ, List.getElem?_cons_zero, Option.some.injEq, ex_eq, List.set_cons_zero, List.set_cons_succ]
      refine ixk2 ⟨by simp [sizeLine], some (pcA (.kp a b)), rfl, rfl⟩
  rintro ρ st2 ⟨v5, rfl, rfl⟩
  simp only [sp_ret, wp_ca, wp_cons, wp_nil, wp_var, List.getElem?_cons_succ, List.getElem?_cons_zero, Option.some.injEq, ex_eq]
  rw [w_tupL]
  exact ⟨_, stL_new, k _ (.one _ _)⟩
theorem pl_pc {n : Nat} {p : Pc} (h : PcB n p) (hl : lenP p ≤ 100000) : Pl 3 (pcA p) := by
  cases p with
  | kp a b =>
    refine Pl.mono (d := 1) (Pl.tup (d := 0) (fun x hx => ?_) (by simp)) (by omega)
    simp only [List.mem_cons, List.mem_nil_iff, or_false] at hx
    rcases hx with rfl | rfl | rfl
    · exact pl_str _
    · exact pl_int _
    · exact pl_int _
  | is xs =>
    refine Pl.tup (d := 2) (fun x hx => ?_) (by simp)
    simp only [List.mem_cons, List.mem_nil_iff, or_false] at hx
    rcases hx with rfl | rfl
    · exact pl_str _
    · exact Cmp.toPl (Cmp.tup (d := 1) (fun y hy => el_cmp (h y hy)) (by simp only [lenP] at hl; omega))
theorem pl_pcs (h : OL base L) : Pl 4 (pcsA L) := by
  obtain ⟨h1, h2⟩ := og_len h
  have hn := h.n
  refine Pl.tup (d := 3) (fun x hx => ?_) (by rw [List.length_map]; omega)
  obtain ⟨p, hp, rfl⟩ := List.mem_map.mp hx
  refine pl_pc (pcs_b h.b p hp) ?_
  have := lenP_le hp
  omega
theorem val_el (hb : ∀ x ∈ base, El x) {o : Og} (h : OgB base.length o) : El (valO base o) := by
  cases o with
  | kp i =>
    have hi : i < base.length := h
    show El (base.getD i .non)
    rw [List.getD_eq_getElem?_getD, List.getElem?_eq_getElem hi, Option.getD_some]
    exact hb _ (List.getElem_mem hi)
  | is x => exact h
theorem pl_cs (hb : ∀ x ∈ base, El x) (h : OL base L) : Pl 2 (csA base L) := Cmp.toPl (Cmp.tup (d := 1) (fun x hx => by
  obtain ⟨o, ho, rfl⟩ := List.mem_map.mp hx
  exact el_cmp (val_el hb (h.b o ho))) (by rw [List.length_map]; have := h.n; omega))
theorem eds_pl {P : List Pc} {n : Nat} (hP : ∀ p ∈ P, ∀ xs, p = .is xs → (∀ x ∈ xs, El x) ∧ xs.length ≤ 100000) (hl : P.length ≤ 100000) : Pl 4 (.tup ((edsF P n).map edA)) := by
  have key : ∀ (R : List Pc) (s : EdS3), (∀ p ∈ R, ∀ xs, p = .is xs → (∀ x ∈ xs, El x) ∧ xs.length ≤ 100000) → ((∀ x ∈ s.2.1, El x) ∧ s.2.1.length ≤ 100000) → (∀ d ∈ s.2.2, (∀ x ∈ d.x, El x) ∧ d.x.length ≤ 100000) →
      (∀ d ∈ (R.foldl edStep s).2.2, (∀ x ∈ d.x, El x) ∧ d.x.length ≤ 100000) ∧ (R.foldl edStep s).2.2.length ≤ s.2.2.length + R.length := by
    intro R
    induction R with
    | nil => intro s _ _ h; exact ⟨h, by simp⟩
    | cons p R ih =>
      intro s hR h1 h2
      rw [List.foldl_cons]
      obtain ⟨a, b, c⟩ := s
      cases p with
      | is xs =>
        obtain ⟨q1, q2⟩ := ih (edStep (a, b, c) (.is xs)) (fun p hp => hR p (by simp [hp])) (hR _ (by simp) xs rfl) h2
        refine ⟨q1, ?_⟩
        simp only [edStep, List.length_cons] at q2 ⊢
        omega
      | kp u v =>
        have h3 : ∀ d ∈ (edStep (a, b, c) (.kp u v)).2.2, (∀ x ∈ d.x, El x) ∧ d.x.length ≤ 100000 := fun d hd => by
          simp only [edStep] at hd
          split at hd
          · rcases List.mem_append.mp hd with hd | hd
            · exact h2 d hd
            · rw [List.mem_singleton.mp hd]
              exact h1
          · exact h2 d hd
        obtain ⟨q1, q2⟩ := ih (edStep (a, b, c) (.kp u v)) (fun p hp => hR p (by simp [hp])) ⟨fun x hx => (by cases hx), by simp [edStep]⟩ h3
        refine ⟨q1, ?_⟩
        have : (edStep (a, b, c) (.kp u v)).2.2.length ≤ c.length + 1 := by
          simp only [edStep]
          split
          · simp
          · omega
        simp only [List.length_cons]
        omega
  unfold edsF
  obtain ⟨q1, q2⟩ := key (P ++ [.kp n n]) (0, [], []) (fun p hp xs e => by
    rcases List.mem_append.mp hp with hp | hp
    · exact hP p hp xs e
    · rw [List.mem_singleton.mp hp] at e
      cases e) ⟨fun x hx => (by cases hx), by simp⟩ (fun d hd => by cases hd)
  refine Pl.tup (d := 3) (fun x hx => ?_) (by rw [List.length_map]; simp only [List.length_append, List.length_cons, List.length_nil] at q2; omega)
  obtain ⟨d, hd, rfl⟩ := List.mem_map.mp hx
  obtain ⟨h1, h2⟩ := q1 d hd
  refine Pl.tup (d := 2) (fun y hy => ?_) (by simp)
  simp only [List.mem_cons, List.mem_nil_iff, or_false] at hy
  rcases hy with rfl | rfl | rfl
  · exact pl_int _
  · exact pl_int _
  · exact Cmp.toPl (Cmp.tup (d := 1) (fun z hz => el_cmp (h1 z hz)) (by omega))
theorem pl_eds {n : Nat} (h : OL base L) : Pl 4 (.tup ((edsF (pcsO L) n).map edA)) := by
  obtain ⟨h1, h2⟩ := og_len h
  have hn := h.n
  refine eds_pl (fun p hp xs e => ?_) (by omega)
  subst e
  have hb := pcs_b h.b _ hp
  have hl := lenP_le hp
  simp only [lenP] at hl
  exact ⟨hb, by omega⟩
end
end Law
namespace Law
open PySem L2 ML
open Classical
section
variable {base : List A} {r u d : Nat} {L M : List Og} {U D : List (List Og)} {st st' : Store} {Q : A → Store → Prop}
theorem trip_pl (hb : ∀ x ∈ base, El x) (h : OL base L) : Pl 39 (.tup [pcsA L, csA base L, .tup ((edsF (pcsO L) base.length).map edA)]) := by
  refine Pl.mono (d := 5) (Pl.tup (d := 4) (fun x hx => ?_) (by simp)) (by omega)
  simp only [List.mem_cons, List.mem_nil_iff, or_false] at hx
  rcases hx with rfl | rfl | rfl
  · exact pl_pcs h
  · exact Pl.mono (pl_cs hb h) (by omega)
  · exact pl_eds h
structure Wd (base : List A) (L : List Og) (U D : List (List Og)) (own all : List Nat) (r sr : Nat) (st : Store) : Prop where
  ex : ∃ (u d hu hd c : Nat) (qs ps : List Nat), own = [r, u, d, sr, hu, hd] ∧ all = own ++ c :: (qs ++ ps) ∧ EdT base r u d L U D st ∧
    stL st sr = some [.ref c, .ref hu, .ref hd] ∧ stL st hu = some (qs.map .ref) ∧ stL st hd = some (ps.map .ref) ∧
    stL st c = some (L.map ogA) ∧ qs.map (stL st) = U.map (fun M => some (M.map ogA)) ∧ ps.map (stL st) = D.map (fun M => some (M.map ogA)) ∧
    own.Nodup ∧ c ∉ own ∧ (∀ i ∈ qs, i ∉ own) ∧ (∀ i ∈ ps, i ∉ own)
  gt : ∀ i ∈ all, 1 < i
  lt : ∀ i ∈ all, i < st.length
  ob : (U ++ [L]).head? = some (kpL 0 base.length)
theorem map_kpx {S : List Nat} {qs : List Nat} {N : List (List Og)} (k : KpX S st st') (h : ∀ i ∈ qs, i ∉ S) (e : qs.map (stL st) = N.map (fun M => some (M.map ogA))) : qs.map (stL st') = N.map (fun M => some (M.map ogA)) := by
  rw [← e]
  refine List.map_congr_left fun i hi => ?_
  have h1 : stL st i ∈ qs.map (stL st) := List.mem_map_of_mem hi
  rw [e] at h1
  obtain ⟨M, _, e2⟩ := List.mem_map.mp h1
  rw [← e2]
  exact k.stL (h i hi) e2.symm
theorem Wd.kpx {own all : List Nat} {sr : Nat} {S : List Nat} (h : Wd base L U D own all r sr st) (k : KpX S st st') (hS : ∀ i ∈ all, i ∉ S) : Wd base L U D own all r sr st' := by
  obtain ⟨u, d, hu, hd, c, qs, ps, e1, e2, a1, a2, a3, a4, a5, a6, a7, a8, a9, a10, a11⟩ := h.ex
  have hm : ∀ i, i ∈ own ∨ i = c ∨ i ∈ qs ∨ i ∈ ps → i ∉ S := fun i hi => hS i (by rw [e2]; simp only [List.mem_append, List.mem_cons]; exact hi)
  have ho : ∀ i ∈ own, i ∉ S := fun i hi => hm i (.inl hi)
  refine ⟨⟨u, d, hu, hd, c, qs, ps, e1, e2, a1.kpx k (ho _ (by rw [e1]; simp)) (ho _ (by rw [e1]; simp)) (ho _ (by rw [e1]; simp)), k.stL (ho _ (by rw [e1]; simp)) a2, k.stL (ho _ (by rw [e1]; simp)) a3, k.stL (ho _ (by rw [e1]; simp)) a4, k.stL (hm _ (by simp)) a5, map_kpx k (fun i hi => hm i (by simp [hi])) a6, map_kpx k (fun i hi => hm i (by simp [hi])) a7, a8, a9, a10, a11⟩, h.gt, fun i hi => Nat.lt_of_lt_of_le (h.lt i hi) k.len, h.ob⟩
theorem Wd.grown {own all : List Nat} {sr : Nat} (h : Wd base L U D own all r sr st) (g : Grown st st') : Wd base L U D own all r sr st' := h.kpx (S := []) (.grown g) (by simp)
end
section
variable {ρ : ML.Env} {st : Store} {N B C : ML.Env → Store → Prop} {Rt : A → Store → Prop} {i : Nat} {x1 x2 : Str} {fl1 fl2 : List Str} {g1 g2 : Er → A} {m : MS}
theorem try2_ok (h : (m ρ st).wp N B C Rt) : (mTry2 i x1 fl1 g1 x2 fl2 g2 m ρ st).wp N B C Rt := by
  unfold mTry2
  cases q : m ρ st with
  | er e ρ1 st1 => rw [q] at h; exact h.elim
  | nx ρ1 st1 => rw [q] at h; exact h
  | bk ρ1 st1 => rw [q] at h; exact h
  | ct ρ1 st1 => rw [q] at h; exact h
  | rt v st1 => rw [q] at h; exact h
  | bad => rw [q] at h; exact h.elim
theorem try2_er1 {e : Er} {ρ1 : ML.Env} {st1 : Store} (h : m ρ st = .er e ρ1 st1) (hc : e.cls = x1 ∧ e.fs.map (·.1) = fl1 ∧ i < ρ1.length) (k : Rt (g1 e) st1) : (mTry2 i x1 fl1 g1 x2 fl2 g2 m ρ st).wp N B C Rt := by
  unfold mTry2
  rw [h]
  simp only [if_pos hc]
  exact k
theorem try2_er2 {e : Er} {ρ1 : ML.Env} {st1 : Store} (h : m ρ st = .er e ρ1 st1) (hn : e.cls ≠ x1) (hc : e.cls = x2 ∧ e.fs.map (·.1) = fl2 ∧ i < ρ1.length) (k : Rt (g2 e) st1) : (mTry2 i x1 fl1 g1 x2 fl2 g2 m ρ st).wp N B C Rt := by
  unfold mTry2
  rw [h]
  have : ¬ (e.cls = x1 ∧ e.fs.map (·.1) = fl1 ∧ i < ρ1.length) := fun z => hn z.1
  simp only [if_neg this, if_pos hc]
  exact k
end
section
variable {base : List A} {r u d : Nat} {L M : List Og} {U D : List (List Og)} {st : Store} {Q : A → Store → Prop}
def outE (n : Int) : Er := ⟨"IndexOutOfRange", [("place", .int n)]⟩
theorem count_eq {ρ : ML.Env} (h : EdT base r u d L U D st) (h0 : ρ[0]? = some (some (.ref r))) : (mCa lenA (mCons (mFld "Editor" "_contents" (mVar 0)) mNil)) ρ st = .ok (.int (L.length : Nat)) st := wp_is (by
  simp only [wp_ca, wp_cons, wp_nil, wp_fldE, wp_var, h0, Option.some.injEq, ex_eq]
  refine ⟨_, insE h.i, _, rfl, ?_⟩
  rw [csA, w_lenT, List.length_map]
  exact ⟨rfl, rfl⟩)
theorem replace_er1 {s e : Int} {xs : List A} (h : EdT base r u d L U D st) (he : (L.length : Int) < e) : m_Editor_replace_range [.ref r, .int s, .int e, .tup xs] st = .er (outE e) st := by
  have c := count_eq (ρ := [some (.ref r), some (.int s), some (.int e), some (.tup xs), none, none, none]) h rfl
  unfold m_Editor_replace_range
  generalize (mCa lenA (mCons (mFld "Editor" "_contents" (mVar 0)) mNil)) = cx at c ⊢
  simp [mFn, mSeq, mSet, c, R.toS, mIfS, mGB, mBin, mVar, R.bind, gtA, getB, he, mRaise, outE]
theorem replace_er3 {s e : Nat} {xs : List A} (h : EdT base r u d L U D st) (hs : s ≤ e) (he : e ≤ L.length) (hn : 2000 < L.length - (e - s) + xs.length) : m_Editor_replace_range [.ref r, .int s, .int e, .tup xs] st = .er (tooMany (L.length - (e - s) + xs.length : Nat)) st := by
  have c := count_eq (ρ := [some (.ref r), some (.int s), some (.int e), some (.tup xs), none, none, none]) h rfl
  have ck : ∀ n st, m_check_count [.int n] st = if 2000 < n then .er (tooMany n) st else .ok .non st := check_eq
  unfold m_Editor_replace_range
  generalize (mCa lenA (mCons (mFld "Editor" "_contents" (mVar 0)) mNil)) = cx at c ⊢
  generalize m_check_count = cc at ck ⊢
  have n1 : ¬ ((L.length : Int) < (e : Int)) := by omega
  have n2 : ¬ ((e : Int) < (s : Int)) := by omega
  have n3 : (2000 : Int) < (L.length : Int) - ((e : Int) - (s : Int)) + (xs.length : Int) := by omega
  have n4 : (L.length : Int) - ((e : Int) - (s : Int)) + (xs.length : Int) = ((L.length - (e - s) + xs.length : Nat) : Int) := by omega
  have n5 : e < s ↔ False := iff_false_intro (by omega)
  have n6 : L.length < e ↔ False := iff_false_intro (by omega)
  simp [mFn, mSeq, mSet, c, R.toS, mIfS, mGB, mBin, mVar, R.bind, gtA, getB, n1, n2, n5, n6, mNext, mExpr, mCall, mCons, mNil, mCa, lenA, itemsQ, addA, subA, ck, n3]
  omega
theorem meth_er {er : Er} {s e : Int} {xs : List A} {rr : MF} (h : EdT base r u d L U D st) (hr : rr [.ref r, .int s, .int e, .tup xs] st = .er er st) : (mMeth "Editor" "replace_range" rr (mVar 0) (mCons (mVar 1) (mCons (mVar 2) (mCons (mVar 3) mNil)))) [some (.ref r), some (.int s), some (.int e), some (.tup xs), none] st = .er er st := by
  have hi := insE h.i
  have lk : List.lookup ("replace_range" : Str) (edFs base L u d) = none := rfl
  simp [mMeth, mVar, mCons, mNil, R.bind, hi, lk, hr]
end
structure Bd (L : List Og) (U D : List (List Og)) (b : Nat) : Prop where
  l : L.length ≤ b
  u : ∀ M ∈ U, M.length ≤ b
  d : ∀ M ∈ D, M.length ≤ b
  n : 3 * (U.length + D.length) ≤ b
theorem Bd.mono {L : List Og} {U D : List (List Og)} {b b' : Nat} (h : Bd L U D b) (k : b ≤ b') : Bd L U D b' := ⟨Nat.le_trans h.l k, fun M hM => Nat.le_trans (h.u M hM) k, fun M hM => Nat.le_trans (h.d M hM) k, Nat.le_trans h.n k⟩
theorem kp_kpx {st st' : Store} {S : List Nat} (k : Kp st st') : KpX (0 :: 1 :: S) st st' := ⟨k.len, fun i h1 h2 => k.get i (by simp at h2; omega) h1⟩
section
variable {base : List A} {r : Nat} {L M : List Og} {U D : List (List Og)} {own all : List Nat} {sr : Nat} {st st' : Store} {Q : A → Store → Prop}
theorem Wd.kp (h : Wd base L U D own all r sr st) (k : Kp st st') : Wd base L U D own all r sr st' := h.kpx (kp_kpx (S := []) k) fun i hi z => by
  have := h.gt i hi
  simp at z
  omega
theorem td_pl {w : Str} {n : Int} : Pl 39 (.tup [.str w, .int n]) := Pl.mono (d := 1) (Pl.tup (d := 0) (fun x hx => by
  simp only [List.mem_cons, List.mem_nil_iff, or_false] at hx
  rcases hx with rfl | rfl
  · exact pl_str _
  · exact pl_int _) (by simp)) (by omega)
theorem rep_map {s e : Nat} {xs : List A} : (repO L s e xs).map ogA = (L.map ogA).take s ++ (xs.map fun x => A.tup [x]) ++ (L.map ogA).drop e := by
  unfold repO
  rw [List.map_append, List.map_append, List.map_take, List.map_drop, List.map_map, List.append_assoc]
  rfl
end
end Law
namespace Law
open PySem PySem.Spec L2 ML
def m_law_rightB : MF := mFn 5 3 (mSeq (mSet 3 (mCall m_law_of_origins (mCons (mVar 1) (mCons (mVar 2) mNil))))
    (mSeq (mSet 4 (mCall m_law_pieces (mCons (mVar 2) mNil)))
    (mSeq (mIfS (mNot (mTru (mCall (m_law_alikeB 40) (mCons (mTup (mCons (mProp "Editor" m_Editor_pieces (mVar 0)) (mCons (mProp "Editor" m_Editor_contents (mVar 0)) (mCons (mProp "Editor" m_Editor_edits (mVar 0)) mNil)))) (mCons (mTup (mCons (mVar 4) (mCons (mVar 3) (mCons (mCall m_law_edits_of (mCons (mVar 1) (mCons (mVar 4) mNil))) mNil)))) mNil))))) (mRet (mC (.bl false))) mNext)
    (mRet (mAndV (mCall (m_law_alikeB 40) (mCons (mCa tupleA (mCons (mCa (listO "Editor" "_contents" m_Editor___len__) (mCons (mVar 0) mNil)) mNil)) (mCons (mVar 3) mNil))) (mBin eqA (mCa (lenO "Editor" m_Editor___len__) (mCons (mVar 0) mNil)) (mCa lenA (mCons (mVar 3) mNil))))))))
def m_law_replaceB : MF := mFn 5 4 (mTry2 4 "IndexOutOfRange" ["place"] (fun er => (.tup [(.str "out of range"), (fldE "place" er), (.bl (true && true)), (.bl false)])) "TooManyElements" ["count"] (fun er => (.tup [(.str "too many"), (fldE "count" er), (.bl (true && true)), (.bl false)])) (mRet (mTup (mCons (mC (.str "told")) (mCons (mMeth "Editor" "replace_range" m_Editor_replace_range (mVar 0) (mCons (mVar 1) (mCons (mVar 2) (mCons (mVar 3) mNil)))) mNil)))))
def m_law : MF := mFn 15 1 (mSeq (mSet 1 (mCall m_law_tape (mCons (mVar 0) mNil)))
    (mSeq (mSet 2 (mCall m_law_pool (mCons (mVar 1) mNil)))
    (mSeq (mSet 3 (mCall m_law_contents (mCons (mVar 1) (mCons (mVar 2) (mCons (mC (.int 10)) mNil)))))
    (mSeq (mSet 4 (mBin eqA (mCall m_law_draw (mCons (mVar 1) (mCons (mC (.int 8)) mNil))) (mC (.int 0))))
    (mSeq (mIfS (mTru (mVar 4)) (mSet 3 (mBin addA (mVar 3) (mTupRg1 (mC (.int 1985))))) mNext)
    (mSeq (mSet 5 (mLstRg1 (mCa lenA (mCons (mVar 3) mNil))))
    (mSeq (mSet 6 (mMake "Editor" m_Editor___init__ (mCons (mVar 3) mNil)))
    (mSeq (mIfS (mNot (mTru (mCall m_law_rightB (mCons (mVar 6) (mCons (mVar 3) (mCons (mVar 5) mNil)))))) (mRet (mC (.bl false))) mNext)
    (mSeq (mFor (mRng (mCons (mBin subA (mC (.int 8)) (mBin mulA (mC (.int 4)) (mCa intA (mCons (mVar 4) mNil)))) mNil)) (.one 7) (mSeq (mSet 8 (mCall m_law_place (mCons (mVar 1) (mCons (mCa lenA (mCons (mVar 5) mNil)) mNil))))
    (mSeq (mSet 9 (mCall m_law_place (mCons (mVar 1) (mCons (mCa lenA (mCons (mVar 5) mNil)) mNil))))
    (mSeq (mIfS (mGB (mBin gtA (mCall m_law_draw (mCons (mVar 1) (mCons (mC (.int 4)) mNil))) (mC (.int 0)))) (mSeq (mSet 8 (mCa minA (mCons (mVar 8) (mCons (mCa lenA (mCons (mVar 5) mNil)) mNil))))
    (mSet 9 (mCa minA (mCons (mVar 9) (mCons (mVar 8) mNil))))) mNext)
    (mSeq (mSet 10 (mLc (mRng (mCons (mCall m_law_draw (mCons (mVar 1) (mCons (mC (.int 5)) mNil))) mNil)) (.one 13) [13] mYes (mBin ixA (mBin addA (mVar 3) (mCa tupleA (mCons (mVar 2) mNil))) (mCall m_law_draw (mCons (mVar 1) (mCons (mBin addA (mCa lenA (mCons (mVar 3) mNil)) (mCa lenA (mCons (mVar 2) mNil))) mNil))))))
    (mSeq (mIfS (mTru (mVar 4)) (mSet 10 (mBin addA (mVar 10) (mBin mulA (mLst (mCons (mVar 7) mNil)) (mCall m_law_draw (mCons (mVar 1) (mCons (mC (.int 21)) mNil)))))) mNext)
    (mSeq (mSet 11 (mBin addA (mBin subA (mCa lenA (mCons (mVar 5) mNil)) (mBin subA (mVar 8) (mVar 9))) (mCa lenA (mCons (mVar 10) mNil))))
    (mSeq (mSet 12 (mTup (mCons (mC (.str "out of range")) (mCons (mVar 8) (mCons (mC (.bl true)) (mCons (mC (.bl false)) mNil))))))
    (mSeq (mIfS (mGB (mBin leA (mVar 8) (mCa lenA (mCons (mVar 5) mNil)))) (mSeq (mSet 12 (mTup (mCons (mC (.str "out of range")) (mCons (mVar 9) (mCons (mC (.bl true)) (mCons (mC (.bl false)) mNil))))))
    (mIfS (mGB (mBin leA (mVar 9) (mVar 8))) (mSeq (mSet 12 (mTup (mCons (mC (.str "too many")) (mCons (mVar 11) (mCons (mC (.bl true)) (mCons (mC (.bl false)) mNil))))))
    (mIfS (mGB (mBin leA (mVar 11) (mC (.int 2000)))) (mSeq (mSet 12 (mTup (mCons (mC (.str "told")) (mCons (mVar 11) mNil))))
    (mSet 5 (mBin addA (mBin addA (mSl (mVar 5) mNoPart (mPart (mVar 9))) (mLc (mSrc (mVar 10)) (.one 14) [14] mYes (mTup (mCons (mVar 14) mNil)))) (mSl (mVar 5) (mPart (mVar 8)) mNoPart)))) mNext)) mNext)) mNext)
    (mSeq (mIfS (mNot (mTru (mCall (m_law_alikeB 40) (mCons (mCall m_law_replaceB (mCons (mVar 6) (mCons (mVar 9) (mCons (mVar 8) (mCons (mCa tupleA (mCons (mVar 10) mNil)) mNil))))) (mCons (mVar 12) mNil))))) (mRet (mC (.bl false))) mNext)
    (mIfS (mNot (mTru (mCall m_law_rightB (mCons (mVar 6) (mCons (mVar 3) (mCons (mVar 5) mNil)))))) (mRet (mC (.bl false))) mNext)))))))))))
    (mRet (mC (.bl true))))))))))))
open Classical
section
variable {base : List A} {r u d : Nat} {L M : List Og} {U D : List (List Og)} {st : Store} {Q : A → Store → Prop}
theorem og_rng {n : Nat} : rgA 0 (n : Int) = (kpL 0 n).map ogA := by
  unfold rgA kpL
  rw [List.map_map, show ((n : Int) - 0).toNat = n by omega]
  refine List.map_congr_left fun i _ => ?_
  simp [ogA]
theorem wp_lstRgE {ma : MX} {ρ : ML.Env} : (mLstRg1 ma ρ st).wp Q ↔ (ma ρ st).wp fun x st1 => (getI x st1).wp fun n st2 => (lstRg 0 n st2).wp Q := by
  unfold mLstRg1
  rw [wp_bind]
  simp only [wp_bind]
theorem lstRg_wp {n : Nat} (h : n ≤ 1000000) (k : Q (.ref st.length) (st ++ [.lst ((kpL 0 n).map ogA)])) : (lstRg 0 (n : Int) st).wp Q := by
  unfold lstRg
  rw [if_pos (by omega), og_rng]
  exact k
theorem listE_wp (h : EdT base r u d L U D st) (hn : L.length ≤ 100000) (k : Q (.ref st.length) (st ++ [.lst (L.map (valO base))])) : (listO "Editor" "_contents" m_Editor___len__ [.ref r] st).wp Q := by
  have hi := insE h.i
  have hs := size_eq
  have lw : (m_Editor___len__ [.ref r] st).wp fun a st' => a = .int (L.length : Nat) ∧ st' = st := by
    simp only [m_Editor___len__, wp_fn]
    refine ⟨rfl, ?_⟩
    simp only [List.map_cons, List.map_nil, List.cons_append, List.nil_append, List.replicate, sp_ret, wp_ca, wp_cons, wp_nil, wp_fldE, wp_var, List.getElem?_cons_zero, Option.some.injEq, ex_eq]
    refine ⟨_, hi, _, rfl, ?_⟩
    rw [csA, w_lenT, List.length_map]
    exact ⟨rfl, rfl⟩
  have e := wp_is lw
  have hl : List.lookup ("_contents" : Str) (edFs base L u d) = some (csA base L) := rfl
  simp only [listO, hi, hl, csA, e]
  rw [if_pos ⟨by omega, by omega⟩]
  exact k
theorem right71_wp {q : Nat} (hb : ∀ x ∈ base, El x) (h : EdT base r u d L U D st) (hq : stL st q = some (L.map ogA)) (k : ∀ st', Grown st st' → Q (.bl true) st') : (m_law_rightB [.ref r, .tup base, .ref q] st).wp Q := by
  have LE := @lenE_wp
  have LI := @listE_wp
  have LP := @law_pieces_wp
  have LO := @of_origins_wp
  have LD := @law_edits_of_wp
  have PE := @piecesE_wp
  have CE := @contentsE_wp
  have EE := @editsE_wp
  have AP := @alikeB_pl
  have hn := h.ok.n
  obtain ⟨pl1, _⟩ := og_len h.ok
  simp only [m_law_rightB]
  generalize lenO "Editor" m_Editor___len__ = lo at LE ⊢
  generalize listO "Editor" "_contents" m_Editor___len__ = li at LI ⊢
  generalize m_law_pieces = lp at LP ⊢
  generalize m_law_of_origins = oo at LO ⊢
  generalize m_law_edits_of = leo at LD ⊢
  generalize m_Editor_pieces = ep at PE ⊢
  generalize m_Editor_contents = ec at CE ⊢
  generalize m_Editor_edits = ee at EE ⊢
  generalize m_law_alikeB 40 = al at AP ⊢
  rw [wp_fn]
  refine ⟨rfl, ?_⟩
  simp only [List.map_cons, List.map_nil, List.cons_append, List.nil_append, List.replicate, Nat.reduceSub]
  refine seq_cut (fun ρ st' => Grown st st' ∧ ρ = [some (.ref r), some (.tup base), some (.ref q), some (csA base L), none]) ?_ ?_
  · simp only [sp_set, wp_call, wp_cons, wp_nil, wp_var, List.getElem?_cons_succ, List.getElem?_cons_zero, Option.some.injEq, ex_eq, List.set_cons_zero, List.set_cons_succ]
    exact LO hq h.ok.b (by omega) fun st2 g2 => ⟨g2, by trivial⟩
  rintro ρ st1 ⟨g1, rfl⟩
  refine seq_cut (fun ρ st' => Grown st st' ∧ ρ = [some (.ref r), some (.tup base), some (.ref q), some (csA base L), some (pcsA L)]) ?_ ?_
  · simp only [sp_set, wp_call, wp_cons, wp_nil, wp_var, List.getElem?_cons_succ, List.getElem?_cons_zero, Option.some.injEq, ex_eq, List.set_cons_zero, List.set_cons_succ]
    exact LP (g1.stL hq) (by omega) fun st2 g2 => ⟨g1.trans g2, by trivial⟩
  rintro ρ st2 ⟨g2, rfl⟩
  have h2 := h.grown g2
  refine seq_cut (fun ρ st' => Grown st st' ∧ ρ = [some (.ref r), some (.tup base), some (.ref q), some (csA base L), some (pcsA L)]) ?_ ?_
  · simp only [sp_ifs, wp_not, wp_tru, wp_call, wp_tup, wp_cons, wp_nil, wp_propE, wp_var, List.getElem?_cons_succ, List.getElem?_cons_zero, Option.some.injEq, ex_eq]
    refine ⟨_, insE h2.i, PE h2 ⟨_, insE h2.i, CE h2 ⟨_, insE h2.i, EE h2 fun st3 g3 => ⟨by simp [sizeLine], ?_⟩⟩⟩⟩
    rw [pcsA]
    refine LD (by omega) fun st4 g4 => ⟨by simp [sizeLine], ?_⟩
    rw [← pcsA]
    refine AP (trip_pl hb h.ok) fun st5 g5 => ?_
    rw [w_truB, if_neg (by decide), sp_next]
    exact ⟨((g2.trans g3).trans g4).trans g5, by trivial⟩
  rintro ρ st3 ⟨g3, rfl⟩
  have h3 := h.grown g3
  simp only [sp_ret, wp_andV, wp_call, wp_bin, wp_ca, wp_cons, wp_nil, wp_var, List.getElem?_cons_succ, List.getElem?_cons_zero, Option.some.injEq, ex_eq]
  refine LI h3 (by omega) ?_
  rw [w_tupL]
  refine ⟨_, stL_new, ?_⟩
  rw [show A.tup (L.map (valO base)) = csA base L from rfl]
  refine AP (Pl.mono (pl_cs hb h.ok) (by omega)) fun st4 g4 => ?_
  rw [w_getB, if_pos rfl]
  have g5 := (Grown.one st3 (.lst (L.map (valO base)))).trans g4
  refine LE (h3.grown g5) ?_
  rw [csA, w_lenT, List.length_map, w_eq]
  simpa using k _ (g3.trans g5)
theorem told71 {w : Str} {n : Int} : Pl 39 (.tup [.str w, .int n, .bl true, .bl false]) := Pl.mono (d := 1) (pl_told (d := 0) (pl_int _) (pl_bl _) (pl_bl _)) (by omega)
theorem replace_er2 {s e : Nat} {xs : List A} (h : EdT base r u d L U D st) (hs : e < s) (he : e ≤ L.length) : m_Editor_replace_range [.ref r, .int s, .int e, .tup xs] st = .er (outE s) st := by
  have c := count_eq (ρ := [some (.ref r), some (.int s), some (.int e), some (.tup xs), none, none, none]) h rfl
  unfold m_Editor_replace_range
  generalize (mCa lenA (mCons (mFld "Editor" "_contents" (mVar 0)) mNil)) = cx at c ⊢
  have n1 : ¬ ((L.length : Int) < (e : Int)) := by omega
  have n6 : L.length < e ↔ False := iff_false_intro (by omega)
  simp [mFn, mSeq, mSet, c, R.toS, mIfS, mGB, mBin, mVar, R.bind, gtA, getB, n1, n6, hs, mNext, mRaise, outE]
theorem rep71_ok {s e : Nat} {xs : List A} (h : EdT base r u d L U D st) (hs : s ≤ e) (he : e ≤ L.length) (hx : ∀ x ∈ xs, El x) (hn : L.length - (e - s) + xs.length ≤ 2000) (hU : U.length ≤ 100000)
    (k : ∀ d' st', KpX [r, u] st st' → st.length ≤ d' → EdT base r u d' (repO L s e xs) (U ++ [L]) [] st' → Q (.tup [.str "told", .int (repO L s e xs).length]) st') : (m_law_replaceB [.ref r, .int s, .int e, .tup xs] st).wp Q := by
  have RW := @replace_wp
  simp only [m_law_replaceB]
  generalize m_Editor_replace_range = rr at RW ⊢
  rw [wp_fn]
  refine ⟨rfl, ?_⟩
  simp only [List.map_cons, List.map_nil, List.cons_append, List.nil_append, List.replicate, Nat.reduceSub]
  refine try2_ok ?_
  simp only [sp_ret, wp_tup, wp_methE, wp_cons, wp_nil, wp_c, wp_var, List.getElem?_cons_succ, List.getElem?_cons_zero, Option.some.injEq, ex_eq]
  exact ⟨_, insE h.i, rfl, RW h hs he hx hn hU fun d' st' k1 k2 k3 => ⟨by simp [sizeLine], k d' st' k1 k2 k3⟩⟩
theorem rep71_out {s e n : Int} {xs : List A} (h : EdT base r u d L U D st) (RE : m_Editor_replace_range [.ref r, .int s, .int e, .tup xs] st = .er (outE n) st) (k : Q (.tup [.str "out of range", .int n, .bl true, .bl false]) st) : (m_law_replaceB [.ref r, .int s, .int e, .tup xs] st).wp Q := by
  simp only [m_law_replaceB]
  generalize m_Editor_replace_range = rr at RE ⊢
  rw [wp_fn]
  refine ⟨rfl, ?_⟩
  simp only [List.map_cons, List.map_nil, List.cons_append, List.nil_append, List.replicate, Nat.reduceSub]
  exact try2_er1 (e := outE n) (ρ1 := [some (.ref r), some (.int s), some (.int e), some (.tup xs), none]) (st1 := st) (told_er (meth_er h RE)) ⟨rfl, rfl, by simp⟩ (by simpa [fldE, outE] using k)
theorem rep71_many {s e : Nat} {xs : List A} (h : EdT base r u d L U D st) (hs : s ≤ e) (he : e ≤ L.length) (hn : 2000 < L.length - (e - s) + xs.length) (k : Q (.tup [.str "too many", .int (L.length - (e - s) + xs.length : Nat), .bl true, .bl false]) st) : (m_law_replaceB [.ref r, .int s, .int e, .tup xs] st).wp Q := by
  have RE := replace_er3 h hs he hn
  simp only [m_law_replaceB]
  generalize m_Editor_replace_range = rr at RE ⊢
  rw [wp_fn]
  refine ⟨rfl, ?_⟩
  simp only [List.map_cons, List.map_nil, List.cons_append, List.nil_append, List.replicate, Nat.reduceSub]
  exact try2_er2 (e := tooMany (L.length - (e - s) + xs.length : Nat)) (ρ1 := [some (.ref r), some (.int s), some (.int e), some (.tup xs), none]) (st1 := st) (told_er (meth_er h RE)) (by show (Str.ofString "TooManyElements") ≠ Str.ofString "IndexOutOfRange"; decide +kernel) ⟨rfl, rfl, by simp⟩ (by simpa [fldE, tooMany] using k)
end
structure R71 (base ps : List A) (r u d q rp : Nat) (L : List Og) (U : List (List Og)) (st : Store) : Prop where
  ed : EdT base r u d L U [] st
  qq : stL st q = some (L.map ogA)
  pp : stL st rp = some ps
  t : TpOk st
  g : 1 < r ∧ 1 < u ∧ 1 < d ∧ 1 < q ∧ 1 < rp
  n : rp ≠ r ∧ rp ≠ u
section
variable {base ps : List A} {r u d q rp : Nat} {L : List Og} {U : List (List Og)} {st st' : Store}
theorem R71.kp (h : R71 base ps r u d q rp L U st) (k : Kp st st') (t : TpOk st') : R71 base ps r u d q rp L U st' := by
  obtain ⟨g1, g2, g3, g4, g5⟩ := h.g
  exact ⟨h.ed.kpx (kp_kpx (S := []) k) (by simp; omega) (by simp; omega) (by simp; omega), k.stL g4 h.qq, k.stL g5 h.pp, t, h.g, h.n⟩
theorem R71.grown (h : R71 base ps r u d q rp L U st) (g : Grown st st') : R71 base ps r u d q rp L U st' := h.kp (.grown g) (h.t.grown g)
end
abbrev e15 (v0 : Option A) (rp : Nat) (base : List A) (lg : Bool) (q r : Nat) (v7 v8 v9 v10 v11 v12 v13 v14 : Option A) : ML.Env := [v0, some (.ref 1), some (.ref rp), some (.tup base), some (.bl lg), some (.ref q), some (.ref r), v7, v8, v9, v10, v11, v12, v13, v14]
def I71 (v0 : Option A) (base ps : List A) (lg : Bool) (r u rp : Nat) (i : Nat) (ρ : ML.Env) (st : Store) : Prop := ∃ (d q : Nat) (L : List Og) (U : List (List Og)) (v7 v8 v9 v10 v11 v12 v13 v14 : Option A), R71 base ps r u d q rp L U st ∧ U.length ≤ i ∧ ρ = e15 v0 rp base lg q r v7 v8 v9 v10 v11 v12 v13 v14
def Out71 (base : List A) (L : List Og) (s e : Nat) (xs : List A) (r u q : Nat) (st : Store) (due : A) (q' : Nat) : Prop :=
  (L.length < e ∧ due = .tup [.str "out of range", .int (e : Nat), .bl true, .bl false] ∧ q' = q) ∨
  (e ≤ L.length ∧ e < s ∧ due = .tup [.str "out of range", .int (s : Nat), .bl true, .bl false] ∧ q' = q) ∨
  (e ≤ L.length ∧ s ≤ e ∧ 2000 < L.length - (e - s) + xs.length ∧ due = .tup [.str "too many", .int (L.length - (e - s) + xs.length : Nat), .bl true, .bl false] ∧ q' = q) ∨
  (e ≤ L.length ∧ s ≤ e ∧ L.length - (e - s) + xs.length ≤ 2000 ∧ due = .tup [.str "told", .int (L.length - (e - s) + xs.length : Nat)] ∧ stL st q' = some ((repO L s e xs).map ogA) ∧ 1 < q' ∧ q' ∉ [r, u])
theorem turn71 {S : Option A} {base ps : List A} {lg : Bool} {r u d q rp i : Nat} {L : List Og} {U : List (List Og)} {st : Store} {v8 v9 v10 v11 v12 v13 v14 : Option A} (hi : i < 8) (hb : ∀ x ∈ base, El x) (hbl : base.length ≤ 1995) (hp : ∀ x ∈ ps, El x) (p1 : 1 ≤ ps.length) (p2 : ps.length ≤ 6) (h : R71 base ps r u d q rp L U st) (hU : U.length ≤ i) :
    ((mSeq (mSet 8 (mCall m_law_place (mCons (mVar 1) (mCons (mCa lenA (mCons (mVar 5) mNil)) mNil))))
    (mSeq (mSet 9 (mCall m_law_place (mCons (mVar 1) (mCons (mCa lenA (mCons (mVar 5) mNil)) mNil))))
    (mSeq (mIfS (mGB (mBin gtA (mCall m_law_draw (mCons (mVar 1) (mCons (mC (.int 4)) mNil))) (mC (.int 0)))) (mSeq (mSet 8 (mCa minA (mCons (mVar 8) (mCons (mCa lenA (mCons (mVar 5) mNil)) mNil))))
    (mSet 9 (mCa minA (mCons (mVar 9) (mCons (mVar 8) mNil))))) mNext)
    (mSeq (mSet 10 (mLc (mRng (mCons (mCall m_law_draw (mCons (mVar 1) (mCons (mC (.int 5)) mNil))) mNil)) (.one 13) [13] mYes (mBin ixA (mBin addA (mVar 3) (mCa tupleA (mCons (mVar 2) mNil))) (mCall m_law_draw (mCons (mVar 1) (mCons (mBin addA (mCa lenA (mCons (mVar 3) mNil)) (mCa lenA (mCons (mVar 2) mNil))) mNil))))))
    (mSeq (mIfS (mTru (mVar 4)) (mSet 10 (mBin addA (mVar 10) (mBin mulA (mLst (mCons (mVar 7) mNil)) (mCall m_law_draw (mCons (mVar 1) (mCons (mC (.int 21)) mNil)))))) mNext)
    (mSeq (mSet 11 (mBin addA (mBin subA (mCa lenA (mCons (mVar 5) mNil)) (mBin subA (mVar 8) (mVar 9))) (mCa lenA (mCons (mVar 10) mNil))))
    (mSeq (mSet 12 (mTup (mCons (mC (.str "out of range")) (mCons (mVar 8) (mCons (mC (.bl true)) (mCons (mC (.bl false)) mNil))))))
    (mSeq (mIfS (mGB (mBin leA (mVar 8) (mCa lenA (mCons (mVar 5) mNil)))) (mSeq (mSet 12 (mTup (mCons (mC (.str "out of range")) (mCons (mVar 9) (mCons (mC (.bl true)) (mCons (mC (.bl false)) mNil))))))
    (mIfS (mGB (mBin leA (mVar 9) (mVar 8))) (mSeq (mSet 12 (mTup (mCons (mC (.str "too many")) (mCons (mVar 11) (mCons (mC (.bl true)) (mCons (mC (.bl false)) mNil))))))
    (mIfS (mGB (mBin leA (mVar 11) (mC (.int 2000)))) (mSeq (mSet 12 (mTup (mCons (mC (.str "told")) (mCons (mVar 11) mNil))))
    (mSet 5 (mBin addA (mBin addA (mSl (mVar 5) mNoPart (mPart (mVar 9))) (mLc (mSrc (mVar 10)) (.one 14) [14] mYes (mTup (mCons (mVar 14) mNil)))) (mSl (mVar 5) (mPart (mVar 8)) mNoPart)))) mNext)) mNext)) mNext)
    (mSeq (mIfS (mNot (mTru (mCall (m_law_alikeB 40) (mCons (mCall m_law_replaceB (mCons (mVar 6) (mCons (mVar 9) (mCons (mVar 8) (mCons (mCa tupleA (mCons (mVar 10) mNil)) mNil))))) (mCons (mVar 12) mNil))))) (mRet (mC (.bl false))) mNext)
    (mIfS (mNot (mTru (mCall m_law_rightB (mCons (mVar 6) (mCons (mVar 3) (mCons (mVar 5) mNil)))))) (mRet (mC (.bl false))) mNext)))))))))) (e15 S rp base lg q r (some (.int (i : Nat))) v8 v9 v10 v11 v12 v13 v14) st).wp (I71 S base ps lg r u rp (i + 1)) (fun _ _ => False) (I71 S base ps lg r u rp (i + 1)) (fun a _ => a = .bl true) := by
  have PL := @place_wp
  have LR := @rep71_ok
  have LO := @rep71_out
  have LM := @rep71_many
  have RW := @right71_wp
  have AP := @alikeB_pl
  have hs := size_eq
  generalize m_law_place = pl at PL ⊢
  generalize m_law_replaceB = lr at LR LO LM ⊢
  generalize m_law_alikeB 40 = al at AP ⊢
  generalize m_law_rightB = ri at RW ⊢
  generalize hL : @mLc = LL
  have hn := h.ed.ok.n
  obtain ⟨g1, g2, g3, g4, g5⟩ := h.g
  refine seq_cut (fun ρ st' => ∃ e : Nat, R71 base ps r u d q rp L U st' ∧ ρ = e15 S rp base lg q r (some (.int (i : Nat))) (some (.int (e : Nat))) v9 v10 v11 v12 v13 v14) ?_ ?_
  · simp only [sp_set, wp_call, wp_ca, wp_cons, wp_nil, wp_var, List.getElem?_cons_succ, List.getElem?_cons_zero, Option.some.injEq, ex_eq, List.set_cons_zero, List.set_cons_succ]
    rw [w_lenL]
    refine ⟨_, h.qq, ?_⟩
    rw [List.length_map]
    refine PL h.t (by omega) (by omega) fun n st1 n0 n1 t1 k1 => ⟨n.toNat, h.kp k1 t1, ?_⟩
    rw [show ((n.toNat : Nat) : Int) = n by omega]
  clear h
  rintro ρ st1 ⟨e, h, rfl⟩
  refine seq_cut (fun ρ st' => ∃ s : Nat, R71 base ps r u d q rp L U st' ∧ ρ = e15 S rp base lg q r (some (.int (i : Nat))) (some (.int (e : Nat))) (some (.int (s : Nat))) v10 v11 v12 v13 v14) ?_ ?_
  · simp only [sp_set, wp_call, wp_ca, wp_cons, wp_nil, wp_var, List.getElem?_cons_succ, List.getElem?_cons_zero, Option.some.injEq, ex_eq, List.set_cons_zero, List.set_cons_succ]
    rw [w_lenL]
    refine ⟨_, h.qq, ?_⟩
    rw [List.length_map]
    refine PL h.t (by omega) (by omega) fun n st1 n0 n1 t1 k1 => ⟨n.toNat, h.kp k1 t1, ?_⟩
    rw [show ((n.toNat : Nat) : Int) = n by omega]
  clear h
  rintro ρ st2 ⟨s, h, rfl⟩
  refine seq_cut (fun ρ st' => ∃ e s : Nat, R71 base ps r u d q rp L U st' ∧ ρ = e15 S rp base lg q r (some (.int (i : Nat))) (some (.int (e : Nat))) (some (.int (s : Nat))) v10 v11 v12 v13 v14) ?_ ?_
  · simp only [sp_ifs, wp_gb, wp_bin, wp_call, wp_cons, wp_nil, wp_var, wp_c, List.getElem?_cons_succ, List.getElem?_cons_zero, Option.some.injEq, ex_eq]
    refine draw_wp h.t (by decide) fun n st3 n0 n1 t3 k3 l3 => ?_
    have h3 := h.kp k3 t3
    rw [w_gt, w_getB]
    simp only [decide_eq_true_eq]
    by_cases c : 0 < n
    · rw [if_pos c]
      simp only [sp_seq, sp_set, wp_ca, wp_cons, wp_nil, wp_var, List.getElem?_cons_succ, List.getElem?_cons_zero, Option.some.injEq, ex_eq, List.set_cons_zero, List.set_cons_succ]
      rw [w_lenL]
      refine ⟨_, h3.qq, ?_⟩
      rw [List.length_map, w_min2, w_min2]
      have e1 : (if ((L.length : Nat) : Int) < ((e : Nat) : Int) then ((L.length : Nat) : Int) else ((e : Nat) : Int)) = ((min e L.length : Nat) : Int) := by split <;> omega
      rw [e1]
      have e2 : (if ((min e L.length : Nat) : Int) < ((s : Nat) : Int) then ((min e L.length : Nat) : Int) else ((s : Nat) : Int)) = ((min s (min e L.length) : Nat) : Int) := by split <;> omega
      rw [e2]
      exact ⟨_, _, h3, rfl⟩
    · rw [if_neg c, sp_next]
      exact ⟨e, s, h3, rfl⟩
  clear h
  clear e s
  rintro ρ st3 ⟨e, s, h, rfl⟩
  refine seq_cut (fun ρ st' => ∃ (p : Nat) (xs : List A), xs.length ≤ 4 ∧ (∀ x ∈ xs, El x) ∧ 1 < p ∧ p ∉ [r, u] ∧ stL st' p = some xs ∧ R71 base ps r u d q rp L U st' ∧ ρ = e15 S rp base lg q r (some (.int (i : Nat))) (some (.int (e : Nat))) (some (.int (s : Nat))) (some (.ref p)) v11 v12 v13 v14) ?_ ?_
  · rw [← hL]
    simp only [sp_set, wp_lc, wp_rng, wp_call, wp_cons, wp_nil, wp_var, wp_c, List.getElem?_cons_succ, List.getElem?_cons_zero, Option.some.injEq, ex_eq, List.set_cons_zero, List.set_cons_succ]
    refine draw_wp h.t (by decide) fun n st7 n0 n1 t7 k7 l7 => ?_
    rw [w_rng1]
    refine ⟨by omega, ?_⟩
    refine lc_rng (fun j st' acc => (∀ x ∈ acc, El x) ∧ acc.length ≤ j ∧ R71 base ps r u d q rp L U st') ⟨(fun x hx => by cases hx), by simp, h.kp k7 t7⟩ ?_ ?_
    · rintro j st' acc hj ⟨c1, c2, c3⟩
      refine ⟨_, rfl, ?_⟩
      simp only [wp_yes, if_true, wipeA, wp_bin, wp_ca, wp_call, wp_cons, wp_nil, wp_var, List.set_cons_succ, List.set_cons_zero, List.getElem?_cons_succ, List.getElem?_cons_zero, Option.some.injEq, ex_eq]
      rw [w_tupL]
      refine ⟨_, c3.pp, ?_⟩
      rw [w_addT]
      refine ⟨by omega, ?_⟩
      rw [w_lenT, w_lenL]
      refine ⟨_, c3.pp, ?_⟩
      rw [w_add]
      refine draw_wp c3.t (by omega) fun m st8 m0 m1 t8 k8 l8 => ?_
      rw [w_ixT]
      obtain ⟨x, hx, hx2⟩ := el_at (xs := base ++ ps) (fun x hx => (List.mem_append.mp hx).elim (hb x) (hp x)) m0 (by rw [List.length_append]; omega)
      refine ⟨x, hx, by omega, fun y hy => ?_, by simp; omega, c3.kp k8 t8⟩
      rcases List.mem_append.mp hy with hy | hy
      · exact c1 y hy
      · rw [List.mem_singleton.mp hy]
        exact hx2
    · rintro st' acc ⟨c1, c2, c3⟩
      have l1 := (List.getElem?_eq_some_iff.mp c3.ed.i).1
      have l2 := stL_lt c3.ed.hu
      have lt := c3.t.len
      exact ⟨st'.length, acc, by omega, c1, by omega, by simp; omega, stL_new, c3.grown (.one _ _), rfl⟩
  clear h
  rintro ρ st4 ⟨p, xs, x1, x2, gp, np, hpx, h, rfl⟩
  refine seq_cut (fun ρ st' => ∃ (p : Nat) (xs : List A), xs.length ≤ 24 ∧ (∀ x ∈ xs, El x) ∧ 1 < p ∧ p ∉ [r, u] ∧ stL st' p = some xs ∧ R71 base ps r u d q rp L U st' ∧ ρ = e15 S rp base lg q r (some (.int (i : Nat))) (some (.int (e : Nat))) (some (.int (s : Nat))) (some (.ref p)) v11 v12 v13 v14) ?_ ?_
  · simp only [sp_ifs, wp_tru, wp_var, List.getElem?_cons_succ, List.getElem?_cons_zero, Option.some.injEq, ex_eq]
    rw [w_truB]
    by_cases c : lg = true
    · rw [if_pos c]
      simp only [sp_set, wp_bin, wp_lst, wp_call, wp_cons, wp_nil, wp_var, wp_c, List.getElem?_cons_succ, List.getElem?_cons_zero, Option.some.injEq, ex_eq, List.set_cons_zero, List.set_cons_succ]
      refine ⟨by simp [sizeLine], ?_⟩
      have h5 := h.grown (.one st4 (.lst [.int (i : Nat)]))
      have hp5 := (Grown.one st4 (.lst [.int (i : Nat)])).stL hpx
      refine draw_wp h5.t (by decide) fun n st6 n0 n1 t6 k6 l6 => ?_
      rw [w_mulL]
      have ln : 1 < st4.length := by have := h.t.len; omega
      refine ⟨_, k6.stL ln stL_new, ⟨by omega, by omega, by simp; omega⟩, ?_⟩
      rw [w_addL]
      have h6 := h5.kp k6 t6
      have hp6 := (Grown.one st6 (.lst (List.replicate n.toNat [A.int (i : Nat)]).flatten)).stL (k6.stL gp hp5)
      have rl : (List.replicate n.toNat [A.int (i : Nat)]).flatten.length = n.toNat := by rw [rep_len]; simp
      refine ⟨_, hp6, _, stL_new, by rw [rl]; omega, ?_⟩
      have h7 := (h6.grown (.one st6 (.lst (List.replicate n.toNat [A.int (i : Nat)]).flatten)))
      have l1 := (List.getElem?_eq_some_iff.mp h7.ed.i).1
      have l2 := stL_lt h7.ed.hu
      have lt := h7.t.len
      refine ⟨_, _, by rw [List.length_append, rl]; omega, fun x hx => ?_, by omega, ?_, stL_new, h7.grown (.one _ _), rfl⟩
      · rcases List.mem_append.mp hx with hx | hx
        · exact x2 x hx
        · simp only [List.mem_flatten, List.mem_replicate] at hx
          obtain ⟨l, ⟨_, rfl⟩, hx⟩ := hx
          rw [List.mem_singleton.mp hx]
          exact el_int (by omega) (by omega)
      · simp only [List.mem_cons, List.not_mem_nil, or_false, not_or]
        omega
    · rw [if_neg c, sp_next]
      exact ⟨p, xs, by omega, x2, gp, np, hpx, h, rfl⟩
  clear h hpx gp np x1 x2
  clear p xs
  rintro ρ st5 ⟨p, xs, x1, x2, gp, np, hpx, h, rfl⟩
  refine seq_cut (fun ρ st' => st' = st5 ∧ ρ = e15 S rp base lg q r (some (.int (i : Nat))) (some (.int (e : Nat))) (some (.int (s : Nat))) (some (.ref p)) (some (.int ((L.length : Int) - ((e : Int) - (s : Int)) + (xs.length : Int)))) v12 v13 v14) ?_ ?_
  · simp only [sp_set, wp_bin, wp_ca, wp_cons, wp_nil, wp_var, List.getElem?_cons_succ, List.getElem?_cons_zero, Option.some.injEq, ex_eq, List.set_cons_zero, List.set_cons_succ]
    rw [w_lenL]
    refine ⟨_, h.qq, ?_⟩
    rw [List.length_map, w_sub, w_sub, w_lenL]
    refine ⟨_, hpx, ?_⟩
    rw [w_add]
    exact ⟨rfl, by trivial⟩
  rintro ρ st6 ⟨e6, rfl⟩
  rw [e6]
  clear e6 st6
  refine seq_cut (fun ρ st' => st' = st5 ∧ ρ = e15 S rp base lg q r (some (.int (i : Nat))) (some (.int (e : Nat))) (some (.int (s : Nat))) (some (.ref p)) (some (.int ((L.length : Int) - ((e : Int) - (s : Int)) + (xs.length : Int)))) (some (.tup [.str "out of range", .int (e : Nat), .bl true, .bl false])) v13 v14) ?_ ?_
  · simp only [sp_set, wp_tup, wp_cons, wp_nil, wp_c, wp_var, List.getElem?_cons_succ, List.getElem?_cons_zero, Option.some.injEq, ex_eq, List.set_cons_zero, List.set_cons_succ]
    exact ⟨by simp [sizeLine], by trivial, by trivial⟩
  rintro ρ st6 ⟨e6, rfl⟩
  rw [e6]
  clear e6 st6
  have l1 := (List.getElem?_eq_some_iff.mp h.ed.i).1
  have l2 := stL_lt h.ed.hu
  refine seq_cut (fun ρ st' => ∃ (due : A) (q' : Nat) (w14 : Option A), Out71 base L s e xs r u q st' due q' ∧ stL st' p = some xs ∧ R71 base ps r u d q rp L U st' ∧ ρ = e15 S rp base lg q' r (some (.int (i : Nat))) (some (.int (e : Nat))) (some (.int (s : Nat))) (some (.ref p)) (some (.int ((L.length : Int) - ((e : Int) - (s : Int)) + (xs.length : Int)))) (some due) v13 w14) ?_ ?_
  · simp only [sp_ifs, wp_gb, wp_bin, wp_ca, wp_cons, wp_nil, wp_var, List.getElem?_cons_succ, List.getElem?_cons_zero, Option.some.injEq, ex_eq]
    rw [w_lenL]
    refine ⟨_, h.qq, ?_⟩
    rw [List.length_map, w_le, w_getB]
    simp only [decide_eq_true_eq]
    by_cases c1 : ((e : Nat) : Int) ≤ ((L.length : Nat) : Int)
    · rw [if_pos c1]
      refine seq_cut (fun ρ st' => st' = st5 ∧ ρ = e15 S rp base lg q r (some (.int (i : Nat))) (some (.int (e : Nat))) (some (.int (s : Nat))) (some (.ref p)) (some (.int ((L.length : Int) - ((e : Int) - (s : Int)) + (xs.length : Int)))) (some (.tup [.str "out of range", .int (s : Nat), .bl true, .bl false])) v13 v14) ?_ ?_
      · simp only [sp_set, wp_tup, wp_cons, wp_nil, wp_c, wp_var, List.getElem?_cons_succ, List.getElem?_cons_zero, Option.some.injEq, ex_eq, List.set_cons_zero, List.set_cons_succ]
        exact ⟨by simp [sizeLine], by trivial, by trivial⟩
      rintro ρ st6 ⟨e6, rfl⟩
      rw [e6]
      simp only [sp_ifs, wp_gb, wp_bin, wp_var, List.getElem?_cons_succ, List.getElem?_cons_zero, Option.some.injEq, ex_eq]
      rw [w_le, w_getB]
      simp only [decide_eq_true_eq]
      by_cases c2 : ((s : Nat) : Int) ≤ ((e : Nat) : Int)
      · rw [if_pos c2]
        have sz : ((L.length : Int) - ((e : Int) - (s : Int)) + (xs.length : Int)) = ((L.length - (e - s) + xs.length : Nat) : Int) := by omega
        refine seq_cut (fun ρ st' => st' = st5 ∧ ρ = e15 S rp base lg q r (some (.int (i : Nat))) (some (.int (e : Nat))) (some (.int (s : Nat))) (some (.ref p)) (some (.int ((L.length : Int) - ((e : Int) - (s : Int)) + (xs.length : Int)))) (some (.tup [.str "too many", .int (L.length - (e - s) + xs.length : Nat), .bl true, .bl false])) v13 v14) ?_ ?_
        · simp only [sp_set, wp_tup, wp_cons, wp_nil, wp_c, wp_var, List.getElem?_cons_succ, List.getElem?_cons_zero, Option.some.injEq, ex_eq, List.set_cons_zero, List.set_cons_succ]
          exact ⟨by simp [sizeLine], by trivial, by rw [sz]⟩
        rintro ρ st7 ⟨e7, rfl⟩
        rw [e7]
        simp only [sp_ifs, wp_gb, wp_bin, wp_var, wp_c, List.getElem?_cons_succ, List.getElem?_cons_zero, Option.some.injEq, ex_eq]
        rw [w_le, w_getB]
        simp only [decide_eq_true_eq]
        by_cases c3 : ((L.length : Int) - ((e : Int) - (s : Int)) + (xs.length : Int)) ≤ 2000
        · rw [if_pos c3]
          refine seq_cut (fun ρ st' => st' = st5 ∧ ρ = e15 S rp base lg q r (some (.int (i : Nat))) (some (.int (e : Nat))) (some (.int (s : Nat))) (some (.ref p)) (some (.int ((L.length : Int) - ((e : Int) - (s : Int)) + (xs.length : Int)))) (some (.tup [.str "told", .int (L.length - (e - s) + xs.length : Nat)])) v13 v14) ?_ ?_
          · simp only [sp_set, wp_tup, wp_cons, wp_nil, wp_c, wp_var, List.getElem?_cons_succ, List.getElem?_cons_zero, Option.some.injEq, ex_eq, List.set_cons_zero, List.set_cons_succ]
            exact ⟨by simp [sizeLine], by trivial, by rw [sz]⟩
          rintro ρ st8 ⟨e8, rfl⟩
          rw [e8]
          rw [← hL]
          simp only [sp_set, wp_bin, wp_sl, wp_part, wp_noPart, wp_lc, wp_src, wp_var, wp_c, List.getElem?_cons_succ, List.getElem?_cons_zero, Option.some.injEq, ex_eq]
          rw [w_getI, w_slL]
          refine ⟨_, h.qq, ?_⟩
          rw [w_srcL]
          have cq1 := (Grown.one st5 (.lst (cutA (L.map ogA) none (some (s : Int))))).stL hpx
          refine ⟨by rw [cq1]; rfl, ?_⟩
          refine lc_lst (fun j st' acc => st' = st5 ++ [.lst (cutA (L.map ogA) none (some (s : Int)))] ∧ acc = (xs.take j).map fun x => A.tup [x]) cq1 ⟨rfl, rfl⟩ (fun i st' acc h => by rw [h.1]; exact cq1) ?_ ?_
          · rintro i x st' acc hx ⟨rfl, rfl⟩
            refine ⟨_, rfl, ?_⟩
            simp only [wp_yes, if_true, wipeA, wp_tup, wp_cons, wp_nil, wp_var, List.set_cons_succ, List.set_cons_zero, List.getElem?_cons_succ, List.getElem?_cons_zero, Option.some.injEq, ex_eq]
            exact ⟨by simp [sizeLine], by simp; omega, by trivial, by rw [← take_succ_map hx]⟩
          · rintro st' acc ⟨rfl, rfl⟩
            rw [List.take_length]
            have cs : cutA (L.map ogA) none (some (s : Int)) = (L.map ogA).take s := by rw [cut_to (by omega)]; simp
            rw [cs]
            rw [w_addL]
            refine ⟨_, (Grown.one _ _).stL stL_new, _, stL_new, by simp; omega, ?_⟩
            have g3' : Grown st5 (st5 ++ [Ob.lst ((L.map ogA).take s)] ++ [.lst (xs.map fun x => A.tup [x])] ++ [.lst ((L.map ogA).take s ++ xs.map fun x => A.tup [x])]) := ((Grown.one _ _).trans (.one _ _)).trans (.one _ _)
            rw [w_getI, w_slL]
            refine ⟨_, g3'.stL h.qq, ?_⟩
            rw [cutF, w_addL]
            refine ⟨_, (Grown.one _ _).stL stL_new, _, stL_new, by simp; omega, ?_⟩
            rw [← rep_map]
            generalize hst : st5 ++ [Ob.lst ((L.map ogA).take s)] ++ [.lst (xs.map fun x => A.tup [x])] ++ [.lst ((L.map ogA).take s ++ xs.map fun x => A.tup [x])] ++ [.lst ((L.map ogA).drop e)] = st13
            have g13 : Grown st5 st13 := by rw [← hst]; exact g3'.trans (.one _ _)
            have g14 := g13.trans (.one st13 (.lst ((repO L s e xs).map ogA)))
            have gl := (KpX.grown (S := []) g13).len
            refine ⟨_, st13.length, _, .inr (.inr (.inr ⟨by omega, by omega, by omega, rfl, stL_new, by have := h.t.len; omega, ?_⟩)), g14.stL hpx, h.grown g14, rfl⟩
            simp only [List.mem_cons, List.not_mem_nil, or_false, not_or]
            omega
        · rw [if_neg c3, sp_next]
          exact ⟨_, q, _, .inr (.inr (.inl ⟨by omega, by omega, by omega, rfl, rfl⟩)), hpx, h, rfl⟩
      · rw [if_neg c2, sp_next]
        exact ⟨_, q, _, .inr (.inl ⟨by omega, by omega, rfl, rfl⟩), hpx, h, rfl⟩
    · rw [if_neg c1, sp_next]
      exact ⟨_, q, _, .inl ⟨by omega, rfl, rfl⟩, hpx, h, rfl⟩
  clear hpx h l1 l2
  rintro ρ st6 ⟨due, q', w14, ho, hpx, h, rfl⟩
  have l1 := (List.getElem?_eq_some_iff.mp h.ed.i).1
  have l2 := stL_lt h.ed.hu
  refine seq_cut (fun ρ st' => ∃ (d' : Nat) (L' : List Og) (U' : List (List Og)), R71 base ps r u d' q' rp L' U' st' ∧ U'.length ≤ i + 1 ∧ ρ = e15 S rp base lg q' r (some (.int (i : Nat))) (some (.int (e : Nat))) (some (.int (s : Nat))) (some (.ref p)) (some (.int ((L.length : Int) - ((e : Int) - (s : Int)) + (xs.length : Int)))) (some due) v13 w14) ?_ ?_
  · simp only [sp_ifs, wp_not, wp_tru, wp_call, wp_ca, wp_cons, wp_nil, wp_var, List.getElem?_cons_succ, List.getElem?_cons_zero, Option.some.injEq, ex_eq]
    rw [w_tupL]
    refine ⟨_, hpx, ?_⟩
    rcases ho with ⟨o1, rfl, rfl⟩ | ⟨o1, o2, rfl, rfl⟩ | ⟨o1, o2, o3, rfl, rfl⟩ | ⟨o1, o2, o3, rfl, o4, o5, o6⟩
    · refine LO h.ed (replace_er1 (s := (s : Nat)) (e := (e : Nat)) h.ed (by omega)) (AP told71 fun st7 g7 => ?_)
      rw [w_truB, if_neg (by decide), sp_next]
      exact ⟨d, L, U, h.grown g7, by omega, by trivial⟩
    · refine LO h.ed (replace_er2 h.ed o2 o1) (AP told71 fun st7 g7 => ?_)
      rw [w_truB, if_neg (by decide), sp_next]
      exact ⟨d, L, U, h.grown g7, by omega, by trivial⟩
    · refine LM h.ed o2 o1 o3 (AP told71 fun st7 g7 => ?_)
      rw [w_truB, if_neg (by decide), sp_next]
      exact ⟨d, L, U, h.grown g7, by omega, by trivial⟩
    · refine LR h.ed o2 o1 x2 o3 (by omega) fun d' st7 k7 ld E7 => ?_
      rw [repO_len o2 o1]
      refine AP td_pl fun st8 g8 => ?_
      rw [w_truB, if_neg (by decide), sp_next]
      have r7 : R71 base ps r u d' q' rp (repO L s e xs) (U ++ [L]) st7 := by
        obtain ⟨n1, n2⟩ := h.n
        have tl := h.t.len
        exact ⟨E7, k7.stL o6 o4, k7.stL (by simp; exact ⟨n1, n2⟩) h.pp, tape_kpx k7 (by simp; omega) (by simp; omega) h.t, ⟨g1, g2, by omega, o5, g5⟩, h.n⟩
      exact ⟨d', _, _, r7.grown g8, by simp; omega, by trivial⟩
  clear h ho hpx
  rintro ρ st7 ⟨d', L', U', h, hU', rfl⟩
  simp only [sp_ifs, wp_not, wp_tru, wp_call, wp_cons, wp_nil, wp_var, List.getElem?_cons_succ, List.getElem?_cons_zero, Option.some.injEq, ex_eq]
  refine RW hb h.ed h.qq fun st8 g8 => ?_
  rw [w_truB, if_neg (by decide), sp_next]
  exact ⟨d', q', L', U', _, _, _, _, _, _, _, _, h.grown g8, hU', rfl⟩
theorem law_true : LawTrue m_law := fun ns0 h1 h2 => by
  have key : (m_law [.scr (ns0.map .int)] []).wp fun a _ => a = .bl true := by
    simp only [m_law, wp_fn]
    have PW := @pool_wp
    have CW := @contents_wp
    have MW := @make_wp
    have RW := @right71_wp
    have TT := @turn71
    have TW := @tape_wp
    generalize m_law_tape = tpe at TW ⊢
    generalize m_law_pool = po at PW ⊢
    generalize m_law_contents = co at CW ⊢
    generalize m_Editor___init__ = ini at MW ⊢
    generalize m_law_rightB = ri at RW TT ⊢
    generalize m_law_place = pl at TT ⊢
    generalize m_law_replaceB = lr at TT ⊢
    generalize m_law_alikeB 40 = al at TT ⊢
    generalize hF : @mFor = F
    refine ⟨rfl, ?_⟩
    simp only [List.map_cons, List.map_nil, List.cons_append, List.nil_append, List.replicate, Nat.reduceSub]
    generalize hS : some (A.scr (ns0.map .int)) = S
    refine seq_cut (fun ρ st => TpOk st ∧ ρ = [S, some (.ref 1), none, none, none, none, none, none, none, none, none, none, none, none, none]) ?_ ?_
    · rw [← hS]
      simp only [sp_set, wp_call, wp_cons, wp_nil, wp_var, List.getElem?_cons_zero, Option.some.injEq, ex_eq, List.set_cons_succ, List.set_cons_zero]
      exact TW fun st t0 l0 => ⟨t0, by trivial⟩
    rintro ρ st0 ⟨t0, rfl⟩
    refine seq_cut (fun ρ st => ∃ (rp : Nat) (ps : List A), 1 ≤ ps.length ∧ ps.length ≤ 6 ∧ (∀ x ∈ ps, El x) ∧ 1 < rp ∧ stL st rp = some ps ∧ TpOk st ∧ ρ = [S, some (.ref 1), some (.ref rp), none, none, none, none, none, none, none, none, none, none, none, none]) ?_ ?_
    · simp only [sp_set, wp_call, wp_cons, wp_nil, wp_var, List.getElem?_cons_succ, List.getElem?_cons_zero, Option.some.injEq, ex_eq, List.set_cons_succ, List.set_cons_zero]
      exact PW t0 fun r xs st1 a1 a2 a3 t1 k1 a4 a5 => ⟨r, xs, a1, a2, a3, a4, a5, t1, by trivial⟩
    rintro ρ st1 ⟨rp, ps, p1, p2, p3, p4, p5, t1, rfl⟩
    refine seq_cut (fun ρ st => ∃ base : List A, Cont 10 base ∧ stL st rp = some ps ∧ TpOk st ∧ ρ = [S, some (.ref 1), some (.ref rp), some (.tup base), none, none, none, none, none, none, none, none, none, none, none]) ?_ ?_
    · simp only [sp_set, wp_call, wp_cons, wp_nil, wp_c, wp_var, List.getElem?_cons_succ, List.getElem?_cons_zero, Option.some.injEq, ex_eq, List.set_cons_succ, List.set_cons_zero]
      exact CW t1 p5 p4 p3 p1 (by omega) (by decide) (by decide) fun xs st2 c2 t2 k2 => ⟨xs, c2, k2.stL p4 p5, t2, by trivial⟩
    rintro ρ st2 ⟨base, c2, p5', t2, rfl⟩
    refine seq_cut (fun ρ st => ∃ lg : Bool, stL st rp = some ps ∧ TpOk st ∧ ρ = [S, some (.ref 1), some (.ref rp), some (.tup base), some (.bl lg), none, none, none, none, none, none, none, none, none, none]) ?_ ?_
    · simp only [sp_set, wp_bin, wp_call, wp_cons, wp_nil, wp_c, wp_var, List.getElem?_cons_succ, List.getElem?_cons_zero, Option.some.injEq, ex_eq, List.set_cons_succ, List.set_cons_zero]
      refine draw_wp t2 (by decide) fun n st3 n0 n1 t3 k3 l3 => ?_
      rw [w_eq]
      exact ⟨_, k3.stL p4 p5', t3, by trivial⟩
    clear p5 p5' t2 t1 t0
    rintro ρ st3 ⟨lg, p5, t3, rfl⟩
    refine seq_cut (fun ρ st => ∃ base : List A, (∀ x ∈ base, El x) ∧ base.length ≤ 1995 ∧ st = st3 ∧ ρ = [S, some (.ref 1), some (.ref rp), some (.tup base), some (.bl lg), none, none, none, none, none, none, none, none, none, none]) ?_ ?_
    · have cl := c2.len
      simp only [sp_ifs, wp_tru, wp_var, List.getElem?_cons_succ, List.getElem?_cons_zero, Option.some.injEq, ex_eq]
      rw [w_truB]
      by_cases c : lg = true
      · rw [if_pos c]
        simp only [sp_set, wp_bin, wp_tupRg1, wp_c, wp_var, List.getElem?_cons_succ, List.getElem?_cons_zero, Option.some.injEq, ex_eq, List.set_cons_succ, List.set_cons_zero]
        obtain ⟨N, hN⟩ : ∃ N : Int, N = 1985 := ⟨_, rfl⟩
        rw [← hN, w_getI, w_tupRg]
        have cr := cont_rg (n := N) (by omega)
        have cl2 := cr.len
        refine ⟨by omega, ?_⟩
        rw [w_addT]
        exact ⟨by have := size_eq; omega, _, (c2.app cr (Nat.le_refl _)).el, by rw [List.length_append]; omega, by trivial, by trivial⟩
      · rw [if_neg c, sp_next]
        exact ⟨base, c2.el, by omega, rfl, rfl⟩
    clear c2 base
    rintro ρ st4 ⟨base, hb, hbl, e4, rfl⟩
    rw [e4]
    clear e4 st4
    refine seq_cut (fun ρ st => st = st3 ++ [.lst ((kpL 0 base.length).map ogA)] ∧ ρ = [S, some (.ref 1), some (.ref rp), some (.tup base), some (.bl lg), some (.ref st3.length), none, none, none, none, none, none, none, none, none]) ?_ ?_
    · simp only [sp_set, wp_lstRgE, wp_ca, wp_cons, wp_nil, wp_var, List.getElem?_cons_succ, List.getElem?_cons_zero, Option.some.injEq, ex_eq, List.set_cons_succ, List.set_cons_zero]
      rw [w_lenT, w_getI]
      exact lstRg_wp (by omega) ⟨rfl, by trivial⟩
    rintro ρ st5 ⟨rfl, rfl⟩
    have g5 := Grown.one st3 (.lst ((kpL 0 base.length).map ogA))
    have tl := t3.len
    refine seq_cut (fun ρ st => ∃ r u d, R71 base ps r u d st3.length rp (kpL 0 base.length) [] st ∧ ρ = e15 S rp base lg st3.length r none none none none none none none none) ?_ ?_
    · simp only [sp_set, List.set_cons_succ, List.set_cons_zero]
      refine MW (st := st3 ++ [.lst ((kpL 0 base.length).map ogA)]) (by simp only [wp_var, List.getElem?_cons_succ, List.getElem?_cons_zero, Option.some.injEq, ex_eq]; exact ⟨by trivial, by trivial⟩) (by simp; omega) (by omega) fun u d st6 g6 hu hd E6 => ?_
      have p6 := g6.stL (g5.stL p5)
      have lr := stL_lt p5
      rw [List.length_append, List.length_singleton] at hu hd
      refine ⟨_, u, d, ⟨E6, g6.stL stL_new, p6, (t3.grown g5).grown g6, ⟨by simp; omega, by omega, by omega, by omega, p4⟩, by simp; omega, by omega⟩, by trivial⟩
    clear p5 t3
    rintro ρ st6 ⟨r, u, d, h6, rfl⟩
    refine seq_cutR (fun ρ st => R71 base ps r u d st3.length rp (kpL 0 base.length) [] st ∧ ρ = e15 S rp base lg st3.length r none none none none none none none none) ?_ ?_
    · simp only [sp_ifs, wp_not, wp_tru, wp_call, wp_cons, wp_nil, wp_var, List.getElem?_cons_succ, List.getElem?_cons_zero, Option.some.injEq, ex_eq]
      refine RW hb h6.ed h6.qq fun st7 g7 => ?_
      rw [w_truB, if_neg (by decide), sp_next]
      exact ⟨h6.grown g7, by trivial⟩
    clear h6
    rintro ρ st7 ⟨h7, rfl⟩
    refine seq_cutR (fun ρ st => True) ?_ ?_
    · rw [← hF]
      simp only [sp_for, wp_rng, wp_bin, wp_ca, wp_cons, wp_nil, wp_c, wp_var, List.getElem?_cons_succ, List.getElem?_cons_zero, Option.some.injEq, ex_eq]
      rw [w_intB, w_mul]
      refine ⟨by cases lg <;> decide, ?_⟩
      rw [w_sub, w_rng1]
      refine ⟨by cases lg <;> decide, ?_⟩
      have hN : Int.toNat (8 - 4 * (if lg = true then 1 else 0)) ≤ 8 := by cases lg <;> decide
      generalize Int.toNat (8 - 4 * (if lg = true then 1 else 0)) = N at hN ⊢
      refine for_rng (I71 S base ps lg r u rp) ⟨d, _, _, _, _, _, _, _, _, _, _, _, h7, by simp, rfl⟩ ?_ ?_
      · rintro i ρ st8 hi ⟨d', q', L', U', v7, v8, v9, v10, v11, v12, v13, v14, h8, hU, rfl⟩
        refine ⟨_, rfl, ?_⟩
        rw [Int.zero_add]
        simp only [List.set_cons_zero, List.set_cons_succ]
        exact (TT (by omega) hb hbl p3 p1 p2 h8 hU).imp (fun _ _ h => h) (fun _ _ h => h.elim) (fun _ _ h => h) (fun _ _ h => h)
      · intro ρ st8 _
        trivial
    intro ρ st8 _
    simp only [sp_ret, wp_c]
  obtain ⟨a, st, e, rfl⟩ := R.wp.ex key
  exact ⟨st, e⟩
def top (i : Nat) : Stmt := PySem.Challenge.pw_sameshape_k71_replacing_in_an_editor.main.body.getD i (.Pass ⟨0, 0, 0, 0⟩)
section
variable {P : Program} {w : World} {K : PySem.W.Frag} {mg : Str → Option Value} {base : Heap}
abbrev s_law_tape : Stmt := top 20
theorem sc_law_tape : FnScope ["_law_script", "_law_total", "_law_cell"] ["_law_script"] (defScope s_law_tape) := ⟨rfl, rfl, rfl, by decide +kernel, rfl, by decide +kernel, by decide +kernel⟩
theorem c_law_tape (G_law_tape : GF K mg "_law_tape" s_law_tape ["_law_script"]) (n_int : mg "int" = none) (n_abs : mg "abs" = none) (n_list : mg "list" = none) : Cal P w K mg base "_law_tape" 1 m_law_tape := cal_of G_law_tape sc_law_tape fun f cdv A outer s H E hr => (
    (mss_cons (ms_set sc_law_tape.nd me_int)
    (mss_cons (ms_for passesE (mi_it (me_var 0)) (mg_one sc_law_tape.nd) (mss_one (ms_set sc_law_tape.nd (me_bin op_modP os_mod (me_callTy call_int1 cs_int (by decide +kernel) n_int (ma_cons (me_bin op_addU os_add (me_bin op_mulU os_mul (me_var 1) me_int) (me_callB call_abs cs_abs PyProof.Rows.boot_abs n_abs (ma_cons (me_callTy call_int1 cs_int (by decide +kernel) n_int (ma_cons (me_var 2) ma_nil)) ma_nil))) ma_nil)) me_int))))
    (mss_one (ms_ret (me_lst (ma_cons (me_callTy call_list_of cs_list (by decide +kernel) n_list (ma_cons (me_var 0) ma_nil)) (ma_cons me_int (ma_cons me_int (ma_cons (me_var 1) ma_nil))))))))))
abbrev s_law_draw : Stmt := top 21
theorem sc_law_draw : FnScope ["_law_tape_here", "_law_many", "_law_place_here", "_law_number"] ["_law_tape_here", "_law_many"] (defScope s_law_draw) := ⟨rfl, rfl, rfl, by decide +kernel, rfl, by decide +kernel, by decide +kernel⟩
theorem c_law_draw (G_law_draw : GF K mg "_law_draw" s_law_draw ["_law_tape_here", "_law_many"]) (n_len : mg "len" = none) (n_int : mg "int" = none) (n_abs : mg "abs" = none) (n_max : mg "max" = none) : Cal P w K mg base "_law_draw" 1 m_law_draw := cal_of G_law_draw sc_law_draw fun f cdv A outer s H E hr => (
    (mss_cons (ms_if (mt_cmp (op_eqU (units_ok hr)) os_eq (me_ix (me_var 0) me_int) me_int) (mss_cons (ms_set sc_law_draw.nd (me_ix (me_var 0) me_int))
    (mss_cons (ms_set sc_law_draw.nd me_int)
    (mss_cons (ms_if (mt_cmp op_ltU os_lt (me_var 2) (me_callB call_len cs_len PySem.boot_len n_len (ma_cons (me_ix (me_var 0) me_int) ma_nil))) (mss_one (ms_set sc_law_draw.nd (me_callB call_abs cs_abs PyProof.Rows.boot_abs n_abs (ma_cons (me_callTy call_int1 cs_int (by decide +kernel) n_int (ma_cons (me_ix (me_ix (me_var 0) me_int) (me_var 2)) ma_nil)) ma_nil)))) (mss_cons (ms_put (me_var 0) me_int (me_bin op_modP os_mod (me_callTy call_int1 cs_int (by decide +kernel) n_int (ma_cons (me_bin op_addU os_add (me_bin op_addU os_add (me_bin op_mulU os_mul (me_ix (me_var 0) me_int) me_int) (me_var 2)) me_int) ma_nil)) me_int))
    (mss_one (ms_set sc_law_draw.nd (me_ix (me_var 0) me_int)))))
    (mss_cons (ms_put (me_var 0) me_int (me_bin op_addU os_add (me_var 2) me_int))
    (mss_cons (ms_if (mt_cmp op_ltU os_lt (me_var 3) (me_bin op_pow os_pow me_int me_int)) (mss_cons (ms_set sc_law_draw.nd (me_bin op_modP os_mod (me_callTy call_int1 cs_int (by decide +kernel) n_int (ma_cons (me_bin op_addU os_add (me_bin op_addU os_add (me_bin op_mulU os_mul (me_var 3) me_int) (me_bin op_mulU os_mul (me_var 2) me_int)) me_int) ma_nil)) me_int))
    (mss_cons (ms_set sc_law_draw.nd (me_bin op_modP os_mod (me_callTy call_int1 cs_int (by decide +kernel) n_int (ma_cons (me_bin op_mulU os_mul (me_var 3) me_int) ma_nil)) me_int))
    (mss_one (ms_ret (me_bin op_modP os_mod (me_callTy call_int1 cs_int (by decide +kernel) n_int (ma_cons (me_var 3) ma_nil)) (me_callB (call_maxU rfl) cs_max PyProof.Rows.boot_max n_max (ma_cons (me_var 1) (ma_cons me_int ma_nil)))))))) mss_nil)
    (mss_one (ms_put (me_var 0) me_int (me_var 3)))))))) mss_nil)
    (mss_cons (ms_set sc_law_draw.nd (me_ix (me_var 0) me_int))
    (mss_cons (ms_put (me_var 0) me_int (me_bin op_fdivW os_fdiv (me_var 3) (me_callB (call_maxU rfl) cs_max PyProof.Rows.boot_max n_max (ma_cons (me_var 1) (ma_cons me_int ma_nil)))))
    (mss_one (ms_ret (me_bin op_modP os_mod (me_callTy call_int1 cs_int (by decide +kernel) n_int (ma_cons (me_var 3) ma_nil)) (me_callB (call_maxU rfl) cs_max PyProof.Rows.boot_max n_max (ma_cons (me_var 1) (ma_cons me_int ma_nil))))))))))
abbrev s_law_scalarB : Stmt := top 23
theorem sc_law_scalarB : FnScope ["_law_tape_here", "_law_signs", "_law_share", "_law_number", "_law_text", "_law_k"] ["_law_tape_here"] (defScope s_law_scalarB) := ⟨rfl, rfl, rfl, by decide +kernel, rfl, by decide +kernel, by decide +kernel⟩
theorem c_law_scalarB (G_law_scalarB : GF K mg "_law_scalar" s_law_scalarB ["_law_tape_here"]) (C_law_draw : Cal P w K mg base "_law_draw" 1 m_law_draw) (n_range : mg "range" = none) : Cal P w K mg base "_law_scalar" 2 m_law_scalarB := cal_of G_law_scalarB sc_law_scalarB fun f cdv A outer s H E hr => (
    (mss_cons (ms_set sc_law_scalarB.nd me_str)
    (mss_cons (ms_set sc_law_scalarB.nd (me_call C_law_draw (hr.mono (by decide)) takesE (ma_cons (me_var 0) (ma_cons me_int ma_nil))))
    (mss_cons (ms_if (mt_cmp op_ltU os_lt (me_var 2) me_int) (mss_one (ms_ret (me_bin op_sub os_sub (me_call C_law_draw (hr.mono (by decide)) takesE (ma_cons (me_var 0) (ma_cons me_int ma_nil))) me_int))) mss_nil)
    (mss_cons (ms_if (mt_cmp (op_eqU (units_ok hr)) os_eq (me_var 2) me_int) (mss_cons (ms_set sc_law_scalarB.nd (me_bin op_sub os_sub (me_call C_law_draw (hr.mono (by decide)) takesE (ma_cons (me_var 0) (ma_cons me_int ma_nil))) me_int))
    (mss_one (ms_ret (me_ix (me_lst (ma_cons (me_var 3) (ma_cons (me_var 3) (ma_cons (me_bin op_mulU os_mul (me_var 3) (me_bin op_pow os_pow me_int me_int)) (ma_cons (me_bin op_pow os_pow me_int me_int) (ma_cons (me_neg (me_bin op_pow os_pow me_int me_int)) ma_nil)))))) (me_call C_law_draw (hr.mono (by decide)) takesE (ma_cons (me_var 0) (ma_cons me_int ma_nil))))))) mss_nil)
    (mss_cons (ms_set sc_law_scalarB.nd (me_ix (me_lst (ma_cons me_str (ma_cons me_str (ma_cons me_str (ma_cons me_str ma_nil))))) (me_call C_law_draw (hr.mono (by decide)) takesE (ma_cons (me_var 0) (ma_cons me_int ma_nil)))))
    (mss_cons (ms_for passesE (mi_range1 (x := "range") n_range (ma_cons (me_ix (me_lst (ma_cons me_int (ma_cons me_int (ma_cons me_int (ma_cons me_int (ma_cons me_int (ma_cons me_int ma_nil))))))) (me_call C_law_draw (hr.mono (by decide)) takesE (ma_cons (me_var 0) (ma_cons me_int ma_nil)))) ma_nil) (hn := cons1)) (mg_one sc_law_scalarB.nd) (mss_one (ms_set sc_law_scalarB.nd (me_bin op_addU os_add (me_var 4) (me_ix (me_var 1) (me_call C_law_draw (hr.mono (by decide)) takesE (ma_cons (me_var 0) (ma_cons me_int ma_nil))))))))
    (mss_one (ms_ret (me_var 4))))))))))
abbrev s_law_elementB : Stmt := top 24
theorem sc_law_elementB : FnScope ["_law_tape_here", "_law_first"] ["_law_tape_here"] (defScope s_law_elementB) := ⟨rfl, rfl, rfl, by decide +kernel, rfl, by decide +kernel, by decide +kernel⟩
theorem c_law_elementB (G_law_elementB : GF K mg "_law_element" s_law_elementB ["_law_tape_here"]) (C_law_draw : Cal P w K mg base "_law_draw" 1 m_law_draw) (C_law_scalarB : Cal P w K mg base "_law_scalar" 2 m_law_scalarB) : Cal P w K mg base "_law_element" 3 m_law_elementB := cal_of G_law_elementB sc_law_elementB fun f cdv A outer s H E hr => (
    (mss_cons (ms_if (mt_cmp (op_eqU (units_ok hr)) os_eq (me_call C_law_draw (hr.mono (by decide)) takesE (ma_cons (me_var 0) (ma_cons me_int ma_nil))) me_int) (mss_cons (ms_set sc_law_elementB.nd (me_call C_law_scalarB (hr.mono (by decide)) takesE (ma_cons (me_var 0) ma_nil)))
    (mss_one (ms_ret (me_tup (ma_cons (me_var 1) (ma_cons (me_call C_law_scalarB (hr.mono (by decide)) takesE (ma_cons (me_var 0) ma_nil)) ma_nil)))))) mss_nil)
    (mss_one (ms_ret (me_call C_law_scalarB (hr.mono (by decide)) takesE (ma_cons (me_var 0) ma_nil))))))
abbrev s_law_pool : Stmt := top 25
theorem sc_law_pool : FnScope ["_law_tape_here", "_law_k"] ["_law_tape_here"] (defScope s_law_pool) := ⟨rfl, rfl, rfl, by decide +kernel, rfl, by decide +kernel, by decide +kernel⟩
theorem c_law_pool (G_law_pool : GF K mg "_law_pool" s_law_pool ["_law_tape_here"]) (C_law_draw : Cal P w K mg base "_law_draw" 1 m_law_draw) (C_law_elementB : Cal P w K mg base "_law_element" 3 m_law_elementB) (n_range : mg "range" = none) : Cal P w K mg base "_law_pool" 4 m_law_pool := cal_of G_law_pool sc_law_pool fun f cdv A outer s H E hr => (
    (mss_one (ms_ret (me_lc [("_law_k", 1)] sc_law_pool.nd (mi_range1 (x := "range") n_range (ma_cons (me_bin op_addU os_add me_int (me_call C_law_draw (hr.mono (by decide)) takesE (ma_cons (me_var 0) (ma_cons me_int ma_nil)))) ma_nil) (hn := cons1)) (blkOk_by (N := ["_law_tape_here", "_law_k"]) (sc := defScope s_law_pool) (own := [("_law_k", 1)]) (by decide +kernel)) (fun _ _ _ _ _ => (mg_one sc_law_pool.nd)) (fun _ _ _ _ _ => mts_nil) (fun _ _ _ _ _ => (me_call C_law_elementB (hr.mono (by decide)) takes0 (ma_cons (me_var 0) ma_nil)))))))
abbrev s_law_contents : Stmt := top 26
theorem sc_law_contents : FnScope ["_law_tape_here", "_law_pool_here", "_law_most", "_law_size", "_law_shape", "_law_first", "_law_part", "_law_found", "_law_k", "_law_many", "_law_element_here"] ["_law_tape_here", "_law_pool_here", "_law_most"] (defScope s_law_contents) := ⟨rfl, rfl, rfl, by decide +kernel, rfl, by decide +kernel, by decide +kernel⟩
theorem c_law_contents (G_law_contents : GF K mg "_law_contents" s_law_contents ["_law_tape_here", "_law_pool_here", "_law_most"]) (C_law_draw : Cal P w K mg base "_law_draw" 1 m_law_draw) (n_range : mg "range" = none) (n_tuple : mg "tuple" = none) (n_int : mg "int" = none) (n_len : mg "len" = none) : Cal P w K mg base "_law_contents" 2 m_law_contents := cal_of G_law_contents sc_law_contents fun f cdv A outer s H E hr => (
    (mss_cons (ms_set sc_law_contents.nd (me_call C_law_draw (hr.mono (by decide)) takesE (ma_cons (me_var 0) (ma_cons (me_bin op_addU os_add (me_var 2) me_int) ma_nil))))
    (mss_cons (ms_if (mt_cmp (op_eqU (units_ok hr)) os_eq (me_call C_law_draw (hr.mono (by decide)) takesE (ma_cons (me_var 0) (ma_cons me_int ma_nil))) me_int) (mss_one (ms_set sc_law_contents.nd (me_ix (me_lst (ma_cons me_int (ma_cons me_int (ma_cons me_int (ma_cons (me_var 2) ma_nil))))) (me_call C_law_draw (hr.mono (by decide)) takesE (ma_cons (me_var 0) (ma_cons me_int ma_nil)))))) mss_nil)
    (mss_cons (ms_set sc_law_contents.nd (me_call C_law_draw (hr.mono (by decide)) takesE (ma_cons (me_var 0) (ma_cons me_int ma_nil))))
    (mss_cons (ms_set sc_law_contents.nd (me_call C_law_draw (hr.mono (by decide)) takesE (ma_cons (me_var 0) (ma_cons me_int ma_nil))))
    (mss_cons (ms_if (mt_cmp (op_eqU (units_ok hr)) os_eq (me_var 4) me_int) (mss_one (ms_ret (me_callTy call_tupleP cs_tuple (by decide +kernel) n_tuple (ma_cons (me_lc [("_law_k", 8)] sc_law_contents.nd (mi_range1 (x := "range") n_range (ma_cons (me_var 3) ma_nil) (hn := cons1)) (blkOk_by (N := ["_law_tape_here", "_law_pool_here", "_law_most", "_law_size", "_law_shape", "_law_first", "_law_part", "_law_found", "_law_k", "_law_many", "_law_element_here"]) (sc := defScope s_law_contents) (own := [("_law_k", 8)]) (by decide +kernel)) (fun _ _ _ _ _ => (mg_one sc_law_contents.nd)) (fun _ _ _ _ _ => mts_nil) (fun _ _ _ _ _ => (me_bin op_addU os_add (me_var 5) (me_var 8)))) ma_nil)))) mss_nil)
    (mss_cons (ms_if (mt_cmp (op_eqU (units_ok hr)) os_eq (me_var 4) me_int) (mss_cons (ms_set sc_law_contents.nd (me_lc [("_law_k", 8)] sc_law_contents.nd (mi_range1 (x := "range") n_range (ma_cons (me_bin op_addU os_add me_int (me_bin op_modP os_mod (me_callTy call_int1 cs_int (by decide +kernel) n_int (ma_cons (me_var 5) ma_nil)) me_int)) ma_nil) (hn := cons1)) (blkOk_by (N := ["_law_tape_here", "_law_pool_here", "_law_most", "_law_size", "_law_shape", "_law_first", "_law_part", "_law_found", "_law_k", "_law_many", "_law_element_here"]) (sc := defScope s_law_contents) (own := [("_law_k", 8)]) (by decide +kernel)) (fun _ _ _ _ _ => (mg_one sc_law_contents.nd)) (fun _ _ _ _ _ => mts_nil) (fun _ _ _ _ _ => (me_ix (me_var 1) (me_call C_law_draw (hr.mono (by decide)) takes0 (ma_cons (me_var 0) (ma_cons (me_callB call_len cs_len PySem.boot_len n_len (ma_cons (me_var 1) ma_nil)) ma_nil)))))))
    (mss_one (ms_ret (me_callTy call_tupleP cs_tuple (by decide +kernel) n_tuple (ma_cons (me_lc [("_law_k", 8)] sc_law_contents.nd (mi_range1 (x := "range") n_range (ma_cons (me_var 3) ma_nil) (hn := cons1)) (blkOk_by (N := ["_law_tape_here", "_law_pool_here", "_law_most", "_law_size", "_law_shape", "_law_first", "_law_part", "_law_found", "_law_k", "_law_many", "_law_element_here"]) (sc := defScope s_law_contents) (own := [("_law_k", 8)]) (by decide +kernel)) (fun _ _ _ _ _ => (mg_one sc_law_contents.nd)) (fun _ _ _ _ _ => mts_nil) (fun _ _ _ _ _ => (me_ix (me_var 6) (me_bin op_modP os_mod (me_callTy call_int1 cs_int (by decide +kernel) n_int (ma_cons (me_var 8) ma_nil)) (me_callB call_len cs_len PySem.boot_len n_len (ma_cons (me_var 6) ma_nil)))))) ma_nil))))) mss_nil)
    (mss_cons (ms_set sc_law_contents.nd (me_lst ma_nil))
    (mss_cons (ms_for passesE (mi_range1 (x := "range") n_range (ma_cons (me_var 3) ma_nil) (hn := cons1)) (mg_one sc_law_contents.nd) (mss_one (ms_if (mt_cmp op_ltU os_lt (me_callB call_len cs_len PySem.boot_len n_len (ma_cons (me_var 7) ma_nil)) (me_var 3)) (mss_cons (ms_set sc_law_contents.nd me_int)
    (mss_cons (ms_if (mt_cmp (op_eqU (units_ok hr)) os_eq (me_var 4) me_int) (mss_one (ms_set sc_law_contents.nd (me_bin op_addU os_add me_int (me_call C_law_draw (hr.mono (by decide)) takesE (ma_cons (me_var 0) (ma_cons me_int ma_nil)))))) mss_nil)
    (mss_cons (ms_set sc_law_contents.nd (me_ix (me_var 1) (me_call C_law_draw (hr.mono (by decide)) takesE (ma_cons (me_var 0) (ma_cons (me_callB call_len cs_len PySem.boot_len n_len (ma_cons (me_var 1) ma_nil)) ma_nil)))))
    (mss_one (ms_set sc_law_contents.nd (me_bin op_addU os_add (me_var 7) (me_bin op_mulU os_mul (me_lst (ma_cons (me_var 10) ma_nil)) (me_var 9)))))))) mss_nil)))
    (mss_one (ms_ret (me_callTy call_tupleP cs_tuple (by decide +kernel) n_tuple (ma_cons (me_slice (me_var 7) mo_none (mo_some (me_var 3))) ma_nil)))))))))))))
abbrev s_can_join : Stmt := top 12
theorem sc_can_join : FnScope ["piece", "after"] ["piece", "after"] (defScope s_can_join) := ⟨rfl, rfl, rfl, by decide +kernel, rfl, by decide +kernel, by decide +kernel⟩
theorem c_can_join (G_can_join : GF K mg "can_join" s_can_join ["piece", "after"]) : Cal P w K mg base "can_join" 1 m_can_join := cal_of G_can_join sc_can_join fun f cdv A outer s H E hr => (
    (mss_cons (ms_if (mt_cmp (op_eqU (units_ok hr)) os_eq (me_ix (me_var 0) me_int) me_str) (mss_one (ms_ret (me_and (me_cmp (op_eqU (units_ok hr)) os_eq (me_ix (me_var 1) me_int) me_str) (me_one (me_cmp (op_eqU (units_ok hr)) os_eq (me_ix (me_var 0) me_int) (me_ix (me_var 1) me_int)))))) mss_nil)
    (mss_one (ms_ret (me_cmp (op_eqU (units_ok hr)) os_eq (me_ix (me_var 1) me_int) me_str)))))
abbrev s_joined_piece : Stmt := top 13
theorem sc_joined_piece : FnScope ["piece", "after"] ["piece", "after"] (defScope s_joined_piece) := ⟨rfl, rfl, rfl, by decide +kernel, rfl, by decide +kernel, by decide +kernel⟩
theorem c_joined_piece (G_joined_piece : GF K mg "joined_piece" s_joined_piece ["piece", "after"]) : Cal P w K mg base "joined_piece" 1 m_joined_piece := cal_of G_joined_piece sc_joined_piece fun f cdv A outer s H E hr => (
    (mss_cons (ms_if (mt_cmp (op_eqU (units_ok hr)) os_eq (me_ix (me_var 0) me_int) me_str) (mss_one (ms_ret (me_tup (ma_cons me_str (ma_cons (me_ix (me_var 0) me_int) (ma_cons (me_ix (me_var 1) me_int) ma_nil)))))) mss_nil)
    (mss_one (ms_ret (me_tup (ma_cons me_str (ma_cons (me_bin op_addU os_add (me_ix (me_var 0) me_int) (me_ix (me_var 1) me_int)) ma_nil)))))))
abbrev s_length_of : Stmt := top 9
theorem sc_length_of : FnScope ["piece"] ["piece"] (defScope s_length_of) := ⟨rfl, rfl, rfl, by decide +kernel, rfl, by decide +kernel, by decide +kernel⟩
theorem c_length_of (G_length_of : GF K mg "length_of" s_length_of ["piece"]) (n_len : mg "len" = none) : Cal P w K mg base "length_of" 1 m_length_of := cal_of G_length_of sc_length_of fun f cdv A outer s H E hr => (
    (mss_cons (ms_if (mt_cmp (op_eqU (units_ok hr)) os_eq (me_ix (me_var 0) me_int) me_str) (mss_one (ms_ret (me_bin op_sub os_sub (me_ix (me_var 0) me_int) (me_ix (me_var 0) me_int)))) mss_nil)
    (mss_one (ms_ret (me_callB call_len cs_len PySem.boot_len n_len (ma_cons (me_ix (me_var 0) me_int) ma_nil))))))
abbrev s_tidied : Stmt := top 14
theorem sc_tidied : FnScope ["pieces", "found", "piece"] ["pieces"] (defScope s_tidied) := ⟨rfl, rfl, rfl, by decide +kernel, rfl, by decide +kernel, by decide +kernel⟩
theorem c_tidied (G_tidied : GF K mg "tidied" s_tidied ["pieces"]) (C_can_join : Cal P w K mg base "can_join" 1 m_can_join) (C_joined_piece : Cal P w K mg base "joined_piece" 1 m_joined_piece) (C_length_of : Cal P w K mg base "length_of" 1 m_length_of) (n_tuple : mg "tuple" = none) : Cal P w K mg base "tidied" 2 m_tidied := cal_of G_tidied sc_tidied fun f cdv A outer s H E hr => (
    (mss_cons (ms_set sc_tidied.nd (me_lst ma_nil))
    (mss_cons (ms_for passesE (mi_it (me_var 0)) (mg_one sc_tidied.nd) (mss_one (ms_if (L2.PW.pt (mw_and (mt_tru (me_var 1)) (mw_and1 (mt_tru (me_call C_can_join (hr.mono (by decide)) takesE (ma_cons (me_ix (me_var 1) (me_neg me_int)) (ma_cons (me_var 2) ma_nil))))))) (mss_one (ms_put (me_var 1) (me_neg me_int) (me_call C_joined_piece (hr.mono (by decide)) takesE (ma_cons (me_ix (me_var 1) (me_neg me_int)) (ma_cons (me_var 2) ma_nil))))) (mss_one (ms_if (mt_cmp op_gtU os_gt (me_call C_length_of (hr.mono (by decide)) takesE (ma_cons (me_var 2) ma_nil)) me_int) (mss_one (ms_expr (me_bm PySem.F.slot_list_append PySem.F.type_list_append mt_append ms_append (me_var 1) (ma_cons (me_var 2) ma_nil)))) mss_nil)))))
    (mss_one (ms_ret (me_callTy call_tupleP cs_tuple (by decide +kernel) n_tuple (ma_cons (me_var 1) ma_nil)))))))
abbrev s_Editor___init__ : Stmt := clsAt (top 18) 0
theorem sc_Editor___init__ : FnScope ["self", "contents"] ["self", "contents"] (defScope s_Editor___init__) := ⟨rfl, rfl, rfl, by decide +kernel, rfl, by decide +kernel, by decide +kernel⟩
theorem c_Editor___init__ (G_Editor___init__ : GI K mg "Editor" "Editor.__init__" s_Editor___init__ ["self", "contents"]) (C_tidied : Cal P w K mg base "tidied" 2 m_tidied) (F_Editor__base : FldF K mg "Editor" "_base") (F_Editor__contents : FldF K mg "Editor" "_contents") (n_len : mg "len" = none) (F_Editor__pieces : FldF K mg "Editor" "_pieces") (F_Editor__undoable : FldF K mg "Editor" "_undoable") (F_Editor__redoable : FldF K mg "Editor" "_redoable") : CalI P w K mg base "Editor" 3 m_Editor___init__ := cali_of G_Editor___init__ sc_Editor___init__ fun f cdv A outer s H E hr => (
    (mss_cons (ms_putf F_Editor__base (me_var 0) (me_var 1))
    (mss_cons (ms_putf F_Editor__contents (me_var 0) (me_var 1))
    (mss_cons (ms_putf F_Editor__pieces (me_var 0) (me_call C_tidied (hr.mono (by decide)) takesE (ma_cons (me_lst (ma_cons (me_tup (ma_cons me_str (ma_cons me_int (ma_cons (me_callB call_len cs_len PySem.boot_len n_len (ma_cons (me_var 1) ma_nil)) ma_nil)))) ma_nil)) ma_nil)))
    (mss_cons (ms_putf F_Editor__undoable (me_var 0) (me_lst ma_nil))
    (mss_one (ms_putf F_Editor__redoable (me_var 0) (me_lst ma_nil))))))))
abbrev s_law_of_origins : Stmt := top 29
theorem sc_law_of_origins : FnScope ["_law_base", "_law_origins", "_law_found", "_law_origin"] ["_law_base", "_law_origins"] (defScope s_law_of_origins) := ⟨rfl, rfl, rfl, by decide +kernel, rfl, by decide +kernel, by decide +kernel⟩
theorem c_law_of_origins (G_law_of_origins : GF K mg "_law_of_origins" s_law_of_origins ["_law_base", "_law_origins"]) (n_isinstance : mg "isinstance" = none) (n_int : mg "int" = none) (n_tuple : mg "tuple" = none) : Cal P w K mg base "_law_of_origins" 1 m_law_of_origins := cal_of G_law_of_origins sc_law_of_origins fun f cdv A outer s H E hr => (
    (mss_cons (ms_set sc_law_of_origins.nd (me_lst ma_nil))
    (mss_cons (ms_for passesE (mi_it (me_var 1)) (mg_one sc_law_of_origins.nd) (mss_one (ms_if (mt_tru (me_isi .int (me_var 3) rfl rfl n_isinstance n_int (by decide +kernel))) (mss_one (ms_expr (me_bm PySem.F.slot_list_append PySem.F.type_list_append mt_append ms_append (me_var 2) (ma_cons (me_ix (me_var 0) (me_var 3)) ma_nil)))) (mss_one (ms_expr (me_bm PySem.F.slot_list_append PySem.F.type_list_append mt_append ms_append (me_var 2) (ma_cons (me_ix (me_var 3) me_int) ma_nil)))))))
    (mss_one (ms_ret (me_callTy call_tupleP cs_tuple (by decide +kernel) n_tuple (ma_cons (me_var 2) ma_nil)))))))
abbrev s_law_pieces : Stmt := top 28
theorem sc_law_pieces : FnScope ["_law_origins", "_law_pieces_here", "_law_origin", "_law_last"] ["_law_origins"] (defScope s_law_pieces) := ⟨rfl, rfl, rfl, by decide +kernel, rfl, by decide +kernel, by decide +kernel⟩
theorem c_law_pieces (G_law_pieces : GF K mg "_law_pieces" s_law_pieces ["_law_origins"]) (n_len : mg "len" = none) (n_isinstance : mg "isinstance" = none) (n_int : mg "int" = none) (n_tuple : mg "tuple" = none) : Cal P w K mg base "_law_pieces" 1 m_law_pieces := cal_of G_law_pieces sc_law_pieces fun f cdv A outer s H E hr => (
    (mss_cons (ms_set sc_law_pieces.nd (me_lst ma_nil))
    (mss_cons (ms_for passesE (mi_it (me_var 0)) (mg_one sc_law_pieces.nd) (mss_cons (ms_set sc_law_pieces.nd (me_tup (ma_cons me_str (ma_cons me_int (ma_cons me_int ma_nil)))))
    (mss_cons (ms_if (mt_cmp op_gtU os_gt (me_callB call_len cs_len PySem.boot_len n_len (ma_cons (me_var 1) ma_nil)) me_int) (mss_one (ms_set sc_law_pieces.nd (me_ix (me_var 1) (me_neg me_int)))) mss_nil)
    (mss_one (ms_if (L2.PW.pt (mw_and (mt_tru (me_isi .int (me_var 2) rfl rfl n_isinstance n_int (by decide +kernel))) (mw_and (mt_cmp (op_eqU (units_ok hr)) os_eq (me_ix (me_var 3) me_int) me_str) (mw_and1 (mt_cmp (op_eqU (units_ok hr)) os_eq (me_ix (me_var 3) me_int) (me_var 2)))))) (mss_one (ms_put (me_var 1) (me_neg me_int) (me_tup (ma_cons me_str (ma_cons (me_ix (me_var 3) me_int) (ma_cons (me_bin op_addU os_add (me_var 2) me_int) ma_nil)))))) (mss_one (ms_if (mt_tru (me_isi .int (me_var 2) rfl rfl n_isinstance n_int (by decide +kernel))) (mss_one (ms_expr (me_bm PySem.F.slot_list_append PySem.F.type_list_append mt_append ms_append (me_var 1) (ma_cons (me_tup (ma_cons me_str (ma_cons (me_var 2) (ma_cons (me_bin op_addU os_add (me_var 2) me_int) ma_nil)))) ma_nil)))) (mss_one (ms_if (mt_cmp (op_eqU (units_ok hr)) os_eq (me_ix (me_var 3) me_int) me_str) (mss_one (ms_put (me_var 1) (me_neg me_int) (me_tup (ma_cons me_str (ma_cons (me_bin op_addU os_add (me_ix (me_var 3) me_int) (me_var 2)) ma_nil))))) (mss_one (ms_expr (me_bm PySem.F.slot_list_append PySem.F.type_list_append mt_append ms_append (me_var 1) (ma_cons (me_tup (ma_cons me_str (ma_cons (me_var 2) ma_nil))) ma_nil)))))))))))))
    (mss_one (ms_ret (me_callTy call_tupleP cs_tuple (by decide +kernel) n_tuple (ma_cons (me_var 1) ma_nil)))))))
abbrev s_law_alikeB : Stmt := top 22
theorem sc_law_alikeB : FnScope ["_law_told", "_law_due", "_law_k"] ["_law_told", "_law_due"] (defScope s_law_alikeB) := ⟨rfl, rfl, rfl, by decide +kernel, rfl, by decide +kernel, by decide +kernel⟩
theorem c_law_alikeB (G_law_alikeB : GF K mg "_law_alike" s_law_alikeB ["_law_told", "_law_due"]) (n_isinstance : mg "isinstance" = none) (n_tuple : mg "tuple" = none) (n_len : mg "len" = none) (n_range : mg "range" = none) (n_str : mg "str" = none) (n_int : mg "int" = none) (n_bool : mg "bool" = none) : ∀ n : Nat, Cal P w K mg base "_law_alike" (n + 0) (m_law_alikeB n)
  | 0 => cal_bad G_law_alikeB
  | n + 1 => by
    have ih_law_alikeB := c_law_alikeB G_law_alikeB n_isinstance n_tuple n_len n_range n_str n_int n_bool n
    exact Cal.cast (by omega) (cal_of G_law_alikeB sc_law_alikeB fun f cdv A outer s H E hr => (
    (mss_cons (ms_if (mt_tru (me_isi .tup (me_var 1) rfl rfl n_isinstance n_tuple (by decide +kernel))) (mss_cons (ms_if (L2.PW.pt (mw_or (mt_not (mt_tru (me_isi .tup (me_var 0) rfl rfl n_isinstance n_tuple (by decide +kernel)))) (mw_or1 (mt_cmp (op_neU (units_ok hr)) os_ne (me_callB call_len cs_len PySem.boot_len n_len (ma_cons (me_var 0) ma_nil)) (me_callB call_len cs_len PySem.boot_len n_len (ma_cons (me_var 1) ma_nil)))))) (mss_one (ms_ret me_bl)) mss_nil)
    (mss_one (ms_ret (me_cmp (op_eqU (units_ok hr)) os_eq (me_callB call_len cs_len PySem.boot_len n_len (ma_cons (me_lc [("_law_k", 2)] sc_law_alikeB.nd (mi_range1 (x := "range") n_range (ma_cons (me_callB call_len cs_len PySem.boot_len n_len (ma_cons (me_var 1) ma_nil)) ma_nil) (hn := cons1)) (blkOk_by (N := ["_law_told", "_law_due", "_law_k"]) (sc := defScope s_law_alikeB) (own := [("_law_k", 2)]) (by decide +kernel)) (fun _ _ _ _ _ => (mg_one sc_law_alikeB.nd)) (fun _ _ _ _ _ => (mts_one (mt_not (mt_tru (me_call ih_law_alikeB (hr.mono (Nat.le_refl _)) takes0 (ma_cons (me_ix (me_var 0) (me_var 2)) (ma_cons (me_ix (me_var 1) (me_var 2)) ma_nil))))))) (fun _ _ _ _ _ => (me_var 2))) ma_nil)) me_int)))) mss_nil)
    (mss_cons (ms_if (mt_cmp op_isN os_isN (me_var 1) me_non) (mss_one (ms_ret (me_cmp op_isN os_isN (me_var 0) me_non))) mss_nil)
    (mss_cons (ms_if (mt_tru (me_isi .str (me_var 1) rfl rfl n_isinstance n_str (by decide +kernel))) (mss_one (ms_ret (me_and (me_isi .str (me_var 0) rfl rfl n_isinstance n_str (by decide +kernel)) (me_one (me_cmp (op_eqU (units_ok hr)) os_eq (me_var 0) (me_var 1)))))) mss_nil)
    (mss_one (ms_ret (me_and (me_isi .int (me_var 0) rfl rfl n_isinstance n_int (by decide +kernel)) (me_and (me_cmp (op_eqU (units_ok hr)) os_eq (me_isi .bool (me_var 0) rfl rfl n_isinstance n_bool (by decide +kernel)) (me_isi .bool (me_var 1) rfl rfl n_isinstance n_bool (by decide +kernel))) (me_one (me_cmp (op_eqU (units_ok hr)) os_eq (me_var 0) (me_var 1))))))))))))
abbrev s_Editor___len__ : Stmt := clsAt (top 18) 4
theorem sc_Editor___len__ : FnScope ["self"] ["self"] (defScope s_Editor___len__) := ⟨rfl, rfl, rfl, by decide +kernel, rfl, by decide +kernel, by decide +kernel⟩
theorem c_Editor___len__ (G_Editor___len__ : GM K mg "Editor" "__len__" "Editor.__len__" s_Editor___len__ ["self"]) (F_Editor__contents : FldF K mg "Editor" "_contents") (n_len : mg "len" = none) : CalM P w K mg base "Editor" "__len__" 1 m_Editor___len__ := calm_of G_Editor___len__ sc_Editor___len__ fun f cdv A outer s H E hr => (
    (mss_one (ms_ret (me_callB call_len cs_len PySem.boot_len n_len (ma_cons (me_fld F_Editor__contents (me_var 0)) ma_nil)))))
abbrev s_Editor_pieces : Stmt := clsAt (top 18) 1
theorem sc_Editor_pieces : FnScope ["self"] ["self"] (defScope s_Editor_pieces) := ⟨rfl, rfl, rfl, by decide +kernel, rfl, by decide +kernel, by decide +kernel⟩
theorem c_Editor_pieces (G_Editor_pieces : GP K mg "Editor" "pieces" "Editor.pieces" s_Editor_pieces ["self"]) (F_Editor__pieces : FldF K mg "Editor" "_pieces") : CalP P w K mg base "Editor" "pieces" 1 m_Editor_pieces := calp_of G_Editor_pieces sc_Editor_pieces fun f cdv A outer s H E hr => (
    (mss_one (ms_ret (me_fld F_Editor__pieces (me_var 0)))))
abbrev s_Editor_contents : Stmt := clsAt (top 18) 2
theorem sc_Editor_contents : FnScope ["self"] ["self"] (defScope s_Editor_contents) := ⟨rfl, rfl, rfl, by decide +kernel, rfl, by decide +kernel, by decide +kernel⟩
theorem c_Editor_contents (G_Editor_contents : GP K mg "Editor" "contents" "Editor.contents" s_Editor_contents ["self"]) (F_Editor__contents : FldF K mg "Editor" "_contents") : CalP P w K mg base "Editor" "contents" 1 m_Editor_contents := calp_of G_Editor_contents sc_Editor_contents fun f cdv A outer s H E hr => (
    (mss_one (ms_ret (me_fld F_Editor__contents (me_var 0)))))
abbrev s_edits_of : Stmt := top 16
theorem sc_edits_of : FnScope ["pieces", "length", "found", "place", "inserted", "piece"] ["pieces", "length"] (defScope s_edits_of) := ⟨rfl, rfl, rfl, by decide +kernel, rfl, by decide +kernel, by decide +kernel⟩
theorem c_edits_of (G_edits_of : GF K mg "edits_of" s_edits_of ["pieces", "length"]) (n_tuple : mg "tuple" = none) : Cal P w K mg base "edits_of" 1 m_edits_of := cal_of G_edits_of sc_edits_of fun f cdv A outer s H E hr => (
    (mss_cons (ms_set sc_edits_of.nd (me_lst ma_nil))
    (mss_cons (ms_set sc_edits_of.nd me_int)
    (mss_cons (ms_set sc_edits_of.nd (me_tup ma_nil))
    (mss_cons (ms_for passesE (mi_it (me_bin op_addU os_add (me_var 0) (me_tup (ma_cons (me_tup (ma_cons me_str (ma_cons (me_var 1) (ma_cons (me_var 1) ma_nil)))) ma_nil)))) (mg_one sc_edits_of.nd) (mss_one (ms_if (mt_cmp (op_eqU (units_ok hr)) os_eq (me_ix (me_var 5) me_int) me_str) (mss_one (ms_set sc_edits_of.nd (me_ix (me_var 5) me_int))) (mss_cons (ms_if (L2.PW.pt (mw_or (mt_cmp op_ltU os_lt (me_var 3) (me_ix (me_var 5) me_int)) (mw_or1 (mt_tru (me_var 4))))) (mss_one (ms_expr (me_bm PySem.F.slot_list_append PySem.F.type_list_append mt_append ms_append (me_var 2) (ma_cons (me_tup (ma_cons (me_var 3) (ma_cons (me_ix (me_var 5) me_int) (ma_cons (me_var 4) ma_nil)))) ma_nil)))) mss_nil)
    (mss_cons (ms_set sc_edits_of.nd (me_ix (me_var 5) me_int))
    (mss_one (ms_set sc_edits_of.nd (me_tup ma_nil))))))))
    (mss_one (ms_ret (me_callTy call_tupleP cs_tuple (by decide +kernel) n_tuple (ma_cons (me_var 2) ma_nil)))))))))
abbrev s_Editor_edits : Stmt := clsAt (top 18) 3
theorem sc_Editor_edits : FnScope ["self"] ["self"] (defScope s_Editor_edits) := ⟨rfl, rfl, rfl, by decide +kernel, rfl, by decide +kernel, by decide +kernel⟩
theorem c_Editor_edits (G_Editor_edits : GP K mg "Editor" "edits" "Editor.edits" s_Editor_edits ["self"]) (C_edits_of : Cal P w K mg base "edits_of" 1 m_edits_of) (F_Editor__base : FldF K mg "Editor" "_base") (n_len : mg "len" = none) (F_Editor__pieces : FldF K mg "Editor" "_pieces") : CalP P w K mg base "Editor" "edits" 2 m_Editor_edits := calp_of G_Editor_edits sc_Editor_edits fun f cdv A outer s H E hr => (
    (mss_one (ms_ret (me_call C_edits_of (hr.mono (by decide)) takesE (ma_cons (me_fld F_Editor__pieces (me_var 0)) (ma_cons (me_callB call_len cs_len PySem.boot_len n_len (ma_cons (me_fld F_Editor__base (me_var 0)) ma_nil)) ma_nil))))))
abbrev s_Editor___iter__ : Stmt := clsAt (top 18) 5
theorem sc_Editor___iter__ : FnScope ["self"] ["self"] (defScope s_Editor___iter__) := ⟨rfl, rfl, rfl, by decide +kernel, rfl, by decide +kernel, by decide +kernel⟩
theorem c_Editor___iter__ (G_Editor___iter__ : GM K mg "Editor" "__iter__" "Editor.__iter__" s_Editor___iter__ ["self"]) (F_Editor__contents : FldF K mg "Editor" "_contents") (n_iter : mg "iter" = none) : CalIt P w K mg base "Editor" "_contents" 1  := calit_of G_Editor___iter__ sc_Editor___iter__ fun f cdv A outer s H E hr => (
    pss_one (ps_ret (pe_callB call_iterT rfl n_iter (by decide +kernel) (ma_cons (me_fld F_Editor__contents (me_var 0)) ma_nil))))
abbrev s_law_edits_of : Stmt := top 30
theorem sc_law_edits_of : FnScope ["_law_base", "_law_pieces_here", "_law_edits", "_law_place_here", "_law_inserted", "_law_piece"] ["_law_base", "_law_pieces_here"] (defScope s_law_edits_of) := ⟨rfl, rfl, rfl, by decide +kernel, rfl, by decide +kernel, by decide +kernel⟩
theorem c_law_edits_of (G_law_edits_of : GF K mg "_law_edits_of" s_law_edits_of ["_law_base", "_law_pieces_here"]) (n_len : mg "len" = none) (n_tuple : mg "tuple" = none) : Cal P w K mg base "_law_edits_of" 1 m_law_edits_of := cal_of G_law_edits_of sc_law_edits_of fun f cdv A outer s H E hr => (
    (mss_cons (ms_set sc_law_edits_of.nd (me_lst ma_nil))
    (mss_cons (ms_set sc_law_edits_of.nd me_int)
    (mss_cons (ms_set sc_law_edits_of.nd (me_tup ma_nil))
    (mss_cons (ms_for passesE (mi_it (me_bin op_addU os_add (me_var 1) (me_tup (ma_cons (me_tup (ma_cons me_str (ma_cons (me_callB call_len cs_len PySem.boot_len n_len (ma_cons (me_var 0) ma_nil)) (ma_cons (me_callB call_len cs_len PySem.boot_len n_len (ma_cons (me_var 0) ma_nil)) ma_nil)))) ma_nil)))) (mg_one sc_law_edits_of.nd) (mss_one (ms_if (mt_cmp (op_eqU (units_ok hr)) os_eq (me_ix (me_var 5) me_int) me_str) (mss_one (ms_set sc_law_edits_of.nd (me_ix (me_var 5) me_int))) (mss_cons (ms_if (L2.PW.pt (mw_or (mt_cmp op_gtU os_gt (me_ix (me_var 5) me_int) (me_var 3)) (mw_or1 (mt_cmp op_gtU os_gt (me_callB call_len cs_len PySem.boot_len n_len (ma_cons (me_var 4) ma_nil)) me_int)))) (mss_one (ms_expr (me_bm PySem.F.slot_list_append PySem.F.type_list_append mt_append ms_append (me_var 2) (ma_cons (me_tup (ma_cons (me_var 3) (ma_cons (me_ix (me_var 5) me_int) (ma_cons (me_var 4) ma_nil)))) ma_nil)))) mss_nil)
    (mss_cons (ms_set sc_law_edits_of.nd (me_ix (me_var 5) me_int))
    (mss_one (ms_set sc_law_edits_of.nd (me_tup ma_nil))))))))
    (mss_one (ms_ret (me_callTy call_tupleP cs_tuple (by decide +kernel) n_tuple (ma_cons (me_var 2) ma_nil)))))))))
abbrev s_law_rightB : Stmt := top 32
theorem sc_law_rightB : FnScope ["_law_editor", "_law_base", "_law_origins", "_law_due", "_law_pieces_here"] ["_law_editor", "_law_base", "_law_origins"] (defScope s_law_rightB) := ⟨rfl, rfl, rfl, by decide +kernel, rfl, by decide +kernel, by decide +kernel⟩
theorem c_law_rightB (G_law_rightB : GF K mg "_law_right" s_law_rightB ["_law_editor", "_law_base", "_law_origins"]) (C_law_of_origins : Cal P w K mg base "_law_of_origins" 1 m_law_of_origins) (C_law_pieces : Cal P w K mg base "_law_pieces" 1 m_law_pieces) (C_law_edits_of : Cal P w K mg base "_law_edits_of" 1 m_law_edits_of) (C_Editor_edits : CalP P w K mg base "Editor" "edits" 2 m_Editor_edits) (C_Editor_contents : CalP P w K mg base "Editor" "contents" 1 m_Editor_contents) (C_Editor_pieces : CalP P w K mg base "Editor" "pieces" 1 m_Editor_pieces) (C_law_alikeB : Cal P w K mg base "_law_alike" 40 (m_law_alikeB 40)) (C_Editor___iter__ : CalIt P w K mg base "Editor" "_contents" 1 ) (C_Editor___len__ : CalM P w K mg base "Editor" "__len__" 1 m_Editor___len__) (n_list : mg "list" = none) (n_tuple : mg "tuple" = none) (n_len : mg "len" = none) : Cal P w K mg base "_law_right" 41 m_law_rightB := cal_of G_law_rightB sc_law_rightB fun f cdv A outer s H E hr => (
    (mss_cons (ms_set sc_law_rightB.nd (me_call C_law_of_origins (hr.mono (by decide)) takesE (ma_cons (me_var 1) (ma_cons (me_var 2) ma_nil))))
    (mss_cons (ms_set sc_law_rightB.nd (me_call C_law_pieces (hr.mono (by decide)) takesE (ma_cons (me_var 2) ma_nil)))
    (mss_cons (ms_if (mt_not (mt_tru (me_call C_law_alikeB (hr.mono (by decide)) takesE (ma_cons (me_tup (ma_cons (me_prop C_Editor_pieces (hr.mono (by decide)) (me_var 0)) (ma_cons (me_prop C_Editor_contents (hr.mono (by decide)) (me_var 0)) (ma_cons (me_prop C_Editor_edits (hr.mono (by decide)) (me_var 0)) ma_nil)))) (ma_cons (me_tup (ma_cons (me_var 4) (ma_cons (me_var 3) (ma_cons (me_call C_law_edits_of (hr.mono (by decide)) takesE (ma_cons (me_var 1) (ma_cons (me_var 4) ma_nil))) ma_nil)))) ma_nil))))) (mss_one (ms_ret me_bl)) mss_nil)
    (mss_one (ms_ret (me_and (me_call C_law_alikeB (hr.mono (by decide)) takesE (ma_cons (me_callTy call_tupleP cs_tuple (by decide +kernel) n_tuple (ma_cons (me_listO (k := 1) rfl (C_Editor___iter__.mono (by decide)) (C_Editor___len__.mono (by decide)) (hr.mono (by decide)) n_list (ma_cons (me_var 0) ma_nil)) ma_nil)) (ma_cons (me_var 3) ma_nil))) (me_one (me_cmp (op_eqU (units_ok hr)) os_eq (me_lenO C_Editor___len__ (hr.mono (by decide)) n_len (ma_cons (me_var 0) ma_nil)) (me_callB call_len cs_len PySem.boot_len n_len (ma_cons (me_var 3) ma_nil)))))))))))
abbrev s_law_place : Stmt := top 27
theorem sc_law_place : FnScope ["_law_tape_here", "_law_size", "_law_choice"] ["_law_tape_here", "_law_size"] (defScope s_law_place) := ⟨rfl, rfl, rfl, by decide +kernel, rfl, by decide +kernel, by decide +kernel⟩
theorem c_law_place (G_law_place : GF K mg "_law_place" s_law_place ["_law_tape_here", "_law_size"]) (C_law_draw : Cal P w K mg base "_law_draw" 1 m_law_draw) : Cal P w K mg base "_law_place" 2 m_law_place := cal_of G_law_place sc_law_place fun f cdv A outer s H E hr => (
    (mss_cons (ms_set sc_law_place.nd (me_call C_law_draw (hr.mono (by decide)) takesE (ma_cons (me_var 0) (ma_cons me_int ma_nil))))
    (mss_cons (ms_if (mt_cmp (op_eqU (units_ok hr)) os_eq (me_var 2) me_int) (mss_one (ms_ret me_int)) mss_nil)
    (mss_cons (ms_if (mt_cmp (op_eqU (units_ok hr)) os_eq (me_var 2) me_int) (mss_one (ms_ret (me_var 1))) mss_nil)
    (mss_cons (ms_if (mt_cmp (op_eqU (units_ok hr)) os_eq (me_var 2) me_int) (mss_one (ms_ret (me_bin op_addU os_add (me_bin op_addU os_add (me_var 1) me_int) (me_call C_law_draw (hr.mono (by decide)) takesE (ma_cons (me_var 0) (ma_cons me_int ma_nil)))))) mss_nil)
    (mss_cons (ms_if (L2.PW.pt (mw_and (mt_cmp (op_eqU (units_ok hr)) os_eq (me_var 2) me_int) (mw_and1 (mt_cmp (op_eqU (units_ok hr)) os_eq (me_call C_law_draw (hr.mono (by decide)) takesE (ma_cons (me_var 0) (ma_cons me_int ma_nil))) me_int)))) (mss_one (ms_ret me_int)) mss_nil)
    (mss_one (ms_ret (me_call C_law_draw (hr.mono (by decide)) takesE (ma_cons (me_var 0) (ma_cons (me_bin op_addU os_add (me_var 1) me_int) ma_nil)))))))))))
abbrev s_described : Stmt := top 15
theorem sc_described : FnScope ["pieces", "base", "found", "piece"] ["pieces", "base"] (defScope s_described) := ⟨rfl, rfl, rfl, by decide +kernel, rfl, by decide +kernel, by decide +kernel⟩
theorem c_described (G_described : GF K mg "described" s_described ["pieces", "base"]) (n_tuple : mg "tuple" = none) : Cal P w K mg base "described" 1 m_described := cal_of G_described sc_described fun f cdv A outer s H E hr => (
    (mss_cons (ms_set sc_described.nd (me_lst ma_nil))
    (mss_cons (ms_for passesE (mi_it (me_var 0)) (mg_one sc_described.nd) (mss_one (ms_if (mt_cmp (op_eqU (units_ok hr)) os_eq (me_ix (me_var 3) me_int) me_str) (mss_one (ms_expr (me_bm PySem.F.slot_list_extend PySem.F.type_list_extend mt_extendU ms_extend (me_var 2) (ma_cons (me_slice (me_var 1) (mo_some (me_ix (me_var 3) me_int)) (mo_some (me_ix (me_var 3) me_int))) ma_nil)))) (mss_one (ms_expr (me_bm PySem.F.slot_list_extend PySem.F.type_list_extend mt_extendU ms_extend (me_var 2) (ma_cons (me_ix (me_var 3) me_int) ma_nil)))))))
    (mss_one (ms_ret (me_callTy call_tupleP cs_tuple (by decide +kernel) n_tuple (ma_cons (me_var 2) ma_nil)))))))
abbrev s_Editor__become : Stmt := clsAt (top 18) 6
theorem sc_Editor__become : FnScope ["self", "pieces"] ["self", "pieces"] (defScope s_Editor__become) := ⟨rfl, rfl, rfl, by decide +kernel, rfl, by decide +kernel, by decide +kernel⟩
theorem c_Editor__become (G_Editor__become : GM K mg "Editor" "_become" "Editor._become" s_Editor__become ["self", "pieces"]) (C_described : Cal P w K mg base "described" 1 m_described) (F_Editor__pieces : FldF K mg "Editor" "_pieces") (F_Editor__base : FldF K mg "Editor" "_base") (F_Editor__contents : FldF K mg "Editor" "_contents") : CalM P w K mg base "Editor" "_become" 2 m_Editor__become := calm_of G_Editor__become sc_Editor__become fun f cdv A outer s H E hr => (
    (mss_cons (ms_putf F_Editor__pieces (me_var 0) (me_var 1))
    (mss_one (ms_putf F_Editor__contents (me_var 0) (me_call C_described (hr.mono (by decide)) takesE (ma_cons (me_var 1) (ma_cons (me_fld F_Editor__base (me_var 0)) ma_nil)))))))
abbrev s_check_count : Stmt := top 7
theorem sc_check_count : FnScope ["count"] ["count"] (defScope s_check_count) := ⟨rfl, rfl, rfl, by decide +kernel, rfl, by decide +kernel, by decide +kernel⟩
theorem c_check_count {C_TooManyElements : Addr} {I_TooManyElements : Addr} (G_check_count : GF K mg "check_count" s_check_count ["count"]) (g_MOST_ELEMENTS : ∃ u, mg "MOST_ELEMENTS" = some (.int 2000 u)) (S_TooManyElements : PySem.SupX.SupTxt P K mg "TooManyElements" "count" "too many elements" C_TooManyElements I_TooManyElements) : Cal P w K mg base "check_count" 1 m_check_count := cal_of G_check_count sc_check_count fun f cdv A outer s H E hr => (
    (mss_one (ms_if (mt_cmp op_gtU os_gt (me_var 0) (g_MOST_ELEMENTS.elim fun _ hg => me_glob (v := .int 2000) (d := .int 2000) rfl hg ⟨_, rfl⟩ (fun _ _ => RV.int _))) (mss_one (ms_raise S_TooManyElements hr takesE (me_var 0))) mss_nil)))
abbrev s_piece_part : Stmt := top 10
theorem sc_piece_part : FnScope ["piece", "start", "end"] ["piece", "start", "end"] (defScope s_piece_part) := ⟨rfl, rfl, rfl, by decide +kernel, rfl, by decide +kernel, by decide +kernel⟩
theorem c_piece_part (G_piece_part : GF K mg "piece_part" s_piece_part ["piece", "start", "end"]) : Cal P w K mg base "piece_part" 1 m_piece_part := cal_of G_piece_part sc_piece_part fun f cdv A outer s H E hr => (
    (mss_cons (ms_if (mt_cmp (op_eqU (units_ok hr)) os_eq (me_ix (me_var 0) me_int) me_str) (mss_one (ms_ret (me_tup (ma_cons me_str (ma_cons (me_bin op_addU os_add (me_ix (me_var 0) me_int) (me_var 1)) (ma_cons (me_bin op_addU os_add (me_ix (me_var 0) me_int) (me_var 2)) ma_nil)))))) mss_nil)
    (mss_one (ms_ret (me_tup (ma_cons me_str (ma_cons (me_slice (me_ix (me_var 0) me_int) (mo_some (me_var 1)) (mo_some (me_var 2))) ma_nil)))))))
abbrev s_pieces_part : Stmt := top 11
theorem sc_pieces_part : FnScope ["pieces", "start", "end", "found", "place", "piece", "low", "high"] ["pieces", "start", "end"] (defScope s_pieces_part) := ⟨rfl, rfl, rfl, by decide +kernel, rfl, by decide +kernel, by decide +kernel⟩
theorem c_pieces_part (G_pieces_part : GF K mg "pieces_part" s_pieces_part ["pieces", "start", "end"]) (C_length_of : Cal P w K mg base "length_of" 1 m_length_of) (C_piece_part : Cal P w K mg base "piece_part" 1 m_piece_part) (n_max : mg "max" = none) (n_min : mg "min" = none) : Cal P w K mg base "pieces_part" 2 m_pieces_part := cal_of G_pieces_part sc_pieces_part fun f cdv A outer s H E hr => (
    (mss_cons (ms_set sc_pieces_part.nd (me_lst ma_nil))
    (mss_cons (ms_set sc_pieces_part.nd me_int)
    (mss_cons (ms_for passesE (mi_it (me_var 0)) (mg_one sc_pieces_part.nd) (mss_cons (ms_set sc_pieces_part.nd (me_callB (call_maxU rfl) cs_max PyProof.Rows.boot_max n_max (ma_cons (me_bin op_sub os_sub (me_var 1) (me_var 4)) (ma_cons me_int ma_nil))))
    (mss_cons (ms_set sc_pieces_part.nd (me_callB (call_minU rfl) cs_min PyProof.Rows.boot_min n_min (ma_cons (me_bin op_sub os_sub (me_var 2) (me_var 4)) (ma_cons (me_call C_length_of (hr.mono (by decide)) takesE (ma_cons (me_var 5) ma_nil)) ma_nil))))
    (mss_cons (ms_if (mt_cmp op_ltU os_lt (me_var 6) (me_var 7)) (mss_one (ms_expr (me_bm PySem.F.slot_list_append PySem.F.type_list_append mt_append ms_append (me_var 3) (ma_cons (me_call C_piece_part (hr.mono (by decide)) takesE (ma_cons (me_var 5) (ma_cons (me_var 6) (ma_cons (me_var 7) ma_nil)))) ma_nil)))) mss_nil)
    (mss_one (ms_set sc_pieces_part.nd (me_bin op_addU os_add (me_var 4) (me_call C_length_of (hr.mono (by decide)) takesE (ma_cons (me_var 5) ma_nil)))))))))
    (mss_one (ms_ret (me_var 3)))))))
abbrev s_Editor_replace_range : Stmt := clsAt (top 18) 7
theorem sc_Editor_replace_range : FnScope ["self", "start", "end", "inserted", "count", "before", "behind"] ["self", "start", "end", "inserted"] (defScope s_Editor_replace_range) := ⟨rfl, rfl, rfl, by decide +kernel, rfl, by decide +kernel, by decide +kernel⟩
theorem c_Editor_replace_range {C_IndexOutOfRange : Addr} {I_IndexOutOfRange : Addr} (G_Editor_replace_range : GM K mg "Editor" "replace_range" "Editor.replace_range" s_Editor_replace_range ["self", "start", "end", "inserted"]) (C_check_count : Cal P w K mg base "check_count" 1 m_check_count) (C_pieces_part : Cal P w K mg base "pieces_part" 2 m_pieces_part) (C_Editor__become : CalM P w K mg base "Editor" "_become" 2 m_Editor__become) (C_tidied : Cal P w K mg base "tidied" 2 m_tidied) (F_Editor__contents : FldF K mg "Editor" "_contents") (n_len : mg "len" = none) (S_IndexOutOfRange : PySem.SupX.SupTxt P K mg "IndexOutOfRange" "place" "index out of range" C_IndexOutOfRange I_IndexOutOfRange) (F_Editor__pieces : FldF K mg "Editor" "_pieces") (F_Editor__undoable : FldF K mg "Editor" "_undoable") (F_Editor__redoable : FldF K mg "Editor" "_redoable") : CalM P w K mg base "Editor" "replace_range" 3 m_Editor_replace_range := calm_of G_Editor_replace_range sc_Editor_replace_range fun f cdv A outer s H E hr => (
    (mss_cons (ms_set sc_Editor_replace_range.nd (me_callB call_len cs_len PySem.boot_len n_len (ma_cons (me_fld F_Editor__contents (me_var 0)) ma_nil)))
    (mss_cons (ms_if (mt_cmp op_gtU os_gt (me_var 2) (me_var 4)) (mss_one (ms_raise S_IndexOutOfRange hr takesE (me_var 2))) mss_nil)
    (mss_cons (ms_if (mt_cmp op_gtU os_gt (me_var 1) (me_var 2)) (mss_one (ms_raise S_IndexOutOfRange hr takesE (me_var 1))) mss_nil)
    (mss_cons (ms_expr (me_call C_check_count (hr.mono (by decide)) takesE (ma_cons (me_bin op_addU os_add (me_bin op_sub os_sub (me_var 4) (me_bin op_sub os_sub (me_var 2) (me_var 1))) (me_callB call_len cs_len PySem.boot_len n_len (ma_cons (me_var 3) ma_nil))) ma_nil)))
    (mss_cons (ms_set sc_Editor_replace_range.nd (me_call C_pieces_part (hr.mono (by decide)) takesE (ma_cons (me_fld F_Editor__pieces (me_var 0)) (ma_cons me_int (ma_cons (me_var 1) ma_nil)))))
    (mss_cons (ms_set sc_Editor_replace_range.nd (me_call C_pieces_part (hr.mono (by decide)) takesE (ma_cons (me_fld F_Editor__pieces (me_var 0)) (ma_cons (me_var 2) (ma_cons (me_var 4) ma_nil)))))
    (mss_cons (ms_expr (me_bm PySem.F.slot_list_append PySem.F.type_list_append mt_append ms_append (me_fld F_Editor__undoable (me_var 0)) (ma_cons (me_fld F_Editor__pieces (me_var 0)) ma_nil)))
    (mss_cons (ms_putf F_Editor__redoable (me_var 0) (me_lst ma_nil))
    (mss_cons (ms_expr (me_meth C_Editor__become (hr.mono (by decide)) takesE (me_var 0) (ma_cons (me_call C_tidied (hr.mono (by decide)) takesE (ma_cons (me_bin op_addU os_add (me_bin op_addU os_add (me_var 5) (me_lst (ma_cons (me_tup (ma_cons me_str (ma_cons (me_var 3) ma_nil))) ma_nil))) (me_var 6)) ma_nil)) ma_nil)))
    (mss_one (ms_ret (me_callB call_len cs_len PySem.boot_len n_len (ma_cons (me_fld F_Editor__contents (me_var 0)) ma_nil))))))))))))))
abbrev s_law_replaceB : Stmt := top 31
theorem sc_law_replaceB : FnScope ["_law_editor", "_law_start", "_law_end", "_law_inserted", "e"] ["_law_editor", "_law_start", "_law_end", "_law_inserted"] (defScope s_law_replaceB) := ⟨rfl, rfl, rfl, by decide +kernel, rfl, by decide +kernel, by decide +kernel⟩
theorem c_law_replaceB {C_IndexOutOfRange : Addr} {C_ShapeError : Addr} {C_TooManyElements : Addr} {I_IndexOutOfRange : Addr} {I_TooManyElements : Addr} (G_law_replaceB : GF K mg "_law_replace" s_law_replaceB ["_law_editor", "_law_start", "_law_end", "_law_inserted"]) (C_Editor_replace_range : CalM P w K mg base "Editor" "replace_range" 3 m_Editor_replace_range) (X_IndexOutOfRange : ClsX K C_IndexOutOfRange ∧ PySem.W.exmOne K (.ref C_IndexOutOfRange) (.ref C_IndexOutOfRange) = some true) (S_IndexOutOfRange : PySem.SupX.SupTxt P K mg "IndexOutOfRange" "place" "index out of range" C_IndexOutOfRange I_IndexOutOfRange) (K_IndexOutOfRange_ShapeError : PySem.W.kitOne K (.ref C_IndexOutOfRange) (.ref C_ShapeError) = some true) (n_isinstance : mg "isinstance" = none) (gc_ShapeError : mg "ShapeError" = some (.ref C_ShapeError)) (K_IndexOutOfRange_ValueError : PySem.W.kitOne K (.ref C_IndexOutOfRange) (.type "ValueError") = some true) (n_ValueError : mg "ValueError" = none) (K_IndexOutOfRange_TooManyElements : PySem.W.kitOne K (.ref C_IndexOutOfRange) (.ref C_TooManyElements) = some false) (gc_TooManyElements : mg "TooManyElements" = some (.ref C_TooManyElements)) (X_TooManyElements : ClsX K C_TooManyElements ∧ PySem.W.exmOne K (.ref C_TooManyElements) (.ref C_TooManyElements) = some true) (S_TooManyElements : PySem.SupX.SupTxt P K mg "TooManyElements" "count" "too many elements" C_TooManyElements I_TooManyElements) (K_TooManyElements_ShapeError : PySem.W.kitOne K (.ref C_TooManyElements) (.ref C_ShapeError) = some true) (K_TooManyElements_ValueError : PySem.W.kitOne K (.ref C_TooManyElements) (.type "ValueError") = some true) (K_TooManyElements_IndexOutOfRange : PySem.W.kitOne K (.ref C_TooManyElements) (.ref C_IndexOutOfRange) = some false) (gc_IndexOutOfRange : mg "IndexOutOfRange" = some (.ref C_IndexOutOfRange)) (E_TooManyElements_IndexOutOfRange : PySem.W.exmOne K (.ref C_TooManyElements) (.ref C_IndexOutOfRange) = some false) : Cal P w K mg base "_law_replace" 4 m_law_replaceB := cal_of G_law_replaceB sc_law_replaceB fun f cdv A outer s H E hr => (
    (mss_one (ms_try2 (i := 4) (g1 := fun er => (.tup [(.str "out of range"), (fldE "place" er), (.bl (true && true)), (.bl false)])) (fl1 := ["place"]) (g2 := fun er => (.tup [(.str "too many"), (fldE "count" er), (.bl (true && true)), (.bl false)])) (fl2 := ["count"]) rfl rfl sc_law_replaceB.nd rfl rfl rfl S_IndexOutOfRange.gC X_IndexOutOfRange.2 rfl S_TooManyElements.gC X_TooManyElements.2 E_TooManyElements_IndexOutOfRange (fun W pn xe tk po => (mss_one (ms_ret (me_tup (ma_cons me_str (ma_cons (me_methS C_Editor_replace_range (hr.mono (by decide)) tk (me_var 0) (ma_cons (me_var 1) (ma_cons (me_var 2) (ma_cons (me_var 3) ma_nil)))) ma_nil)))))) (fun a oe cls d pn hz hf => pss_retE (xv_tup (xvs_cons xv_str (xvs_cons (xv_fld X_IndexOutOfRange.1 S_IndexOutOfRange.noN hz hf (pv 4)) (xvs_cons (xv_and (xv_isi X_IndexOutOfRange.1 hz hf (pv 4) (pe_glob (v := .ref C_ShapeError) rfl gc_ShapeError rfl) (fun u hu => hu) K_IndexOutOfRange_ShapeError n_isinstance) (xv_one (xv_isi X_IndexOutOfRange.1 hz hf (pv 4) (pe_bltn (v := .ty "ValueError") rfl n_ValueError (by decide +kernel) rfl) (fun u hu => hu) K_IndexOutOfRange_ValueError n_isinstance))) (xvs_cons (xv_isi X_IndexOutOfRange.1 hz hf (pv 4) (pe_glob (v := .ref C_TooManyElements) rfl gc_TooManyElements rfl) (fun u hu => hu) K_IndexOutOfRange_TooManyElements n_isinstance) xvs_nil)))) (fun _ => by simp))) (fun a oe cls d pn hz hf => pss_retE (xv_tup (xvs_cons xv_str (xvs_cons (xv_fld X_TooManyElements.1 S_TooManyElements.noN hz hf (pv 4)) (xvs_cons (xv_and (xv_isi X_TooManyElements.1 hz hf (pv 4) (pe_glob (v := .ref C_ShapeError) rfl gc_ShapeError rfl) (fun u hu => hu) K_TooManyElements_ShapeError n_isinstance) (xv_one (xv_isi X_TooManyElements.1 hz hf (pv 4) (pe_bltn (v := .ty "ValueError") rfl n_ValueError (by decide +kernel) rfl) (fun u hu => hu) K_TooManyElements_ValueError n_isinstance))) (xvs_cons (xv_isi X_TooManyElements.1 hz hf (pv 4) (pe_glob (v := .ref C_IndexOutOfRange) rfl gc_IndexOutOfRange rfl) (fun u hu => hu) K_TooManyElements_IndexOutOfRange n_isinstance) xvs_nil)))) (fun _ => by simp))))))
abbrev s_law : Stmt := top 33
theorem sc_law : FnScope ["_law_script", "_law_tape_here", "_law_pool_here", "_law_base", "_law_large", "_law_origins", "_law_editor", "_law_k", "_law_end", "_law_start", "_law_inserted", "_law_size", "_law_due", "_law_i", "_law_element_here"] ["_law_script"] (defScope s_law) := ⟨rfl, rfl, rfl, by decide +kernel, rfl, by decide +kernel, by decide +kernel⟩
theorem c_law_body (C_law_tape : Cal P w K mg base "_law_tape" 1 m_law_tape) (C_law_pool : Cal P w K mg base "_law_pool" 4 m_law_pool) (C_law_contents : Cal P w K mg base "_law_contents" 2 m_law_contents) (C_law_draw : Cal P w K mg base "_law_draw" 1 m_law_draw) (C_Editor___init__ : CalI P w K mg base "Editor" 3 m_Editor___init__) (C_law_rightB : Cal P w K mg base "_law_right" 41 m_law_rightB) (C_law_place : Cal P w K mg base "_law_place" 2 m_law_place) (C_law_replaceB : Cal P w K mg base "_law_replace" 4 m_law_replaceB) (C_law_alikeB : Cal P w K mg base "_law_alike" 40 (m_law_alikeB 40)) (n_tuple : mg "tuple" = none) (n_range : mg "range" = none) (n_len : mg "len" = none) (n_list : mg "list" = none) (n_int : mg "int" = none) (n_min : mg "min" = none) {f : Addr} (cdv : Value) (A : Around) (outer : List PySem.Env) (s : Shared) (H : Hp) (E : XK) (hr : Room 41 (A.deeper (PyProof.Rows.envOfC "law" (defScope s_law) s.heap.objs.size f cdv))) : PSs (cxOf (L2.CX P w) P w K mg base ["_law_script", "_law_tape_here", "_law_pool_here", "_law_base", "_law_large", "_law_origins", "_law_editor", "_law_k", "_law_end", "_law_start", "_law_inserted", "_law_size", "_law_due", "_law_i", "_law_element_here"] "law" (defScope s_law) f cdv A outer s H E) (defBody s_law) (tS (cxOf (L2.CX P w) P w K mg base ["_law_script", "_law_tape_here", "_law_pool_here", "_law_base", "_law_large", "_law_origins", "_law_editor", "_law_k", "_law_end", "_law_start", "_law_inserted", "_law_size", "_law_due", "_law_i", "_law_element_here"] "law" (defScope s_law) f cdv A outer s H E) (fun c d _ H' => E c d H') ((mSeq (mSet 1 (mCall m_law_tape (mCons (mVar 0) mNil)))
    (mSeq (mSet 2 (mCall m_law_pool (mCons (mVar 1) mNil)))
    (mSeq (mSet 3 (mCall m_law_contents (mCons (mVar 1) (mCons (mVar 2) (mCons (mC (.int 10)) mNil)))))
    (mSeq (mSet 4 (mBin eqA (mCall m_law_draw (mCons (mVar 1) (mCons (mC (.int 8)) mNil))) (mC (.int 0))))
    (mSeq (mIfS (mTru (mVar 4)) (mSet 3 (mBin addA (mVar 3) (mTupRg1 (mC (.int 1985))))) mNext)
    (mSeq (mSet 5 (mLstRg1 (mCa lenA (mCons (mVar 3) mNil))))
    (mSeq (mSet 6 (mMake "Editor" m_Editor___init__ (mCons (mVar 3) mNil)))
    (mSeq (mIfS (mNot (mTru (mCall m_law_rightB (mCons (mVar 6) (mCons (mVar 3) (mCons (mVar 5) mNil)))))) (mRet (mC (.bl false))) mNext)
    (mSeq (mFor (mRng (mCons (mBin subA (mC (.int 8)) (mBin mulA (mC (.int 4)) (mCa intA (mCons (mVar 4) mNil)))) mNil)) (.one 7) (mSeq (mSet 8 (mCall m_law_place (mCons (mVar 1) (mCons (mCa lenA (mCons (mVar 5) mNil)) mNil))))
    (mSeq (mSet 9 (mCall m_law_place (mCons (mVar 1) (mCons (mCa lenA (mCons (mVar 5) mNil)) mNil))))
    (mSeq (mIfS (mGB (mBin gtA (mCall m_law_draw (mCons (mVar 1) (mCons (mC (.int 4)) mNil))) (mC (.int 0)))) (mSeq (mSet 8 (mCa minA (mCons (mVar 8) (mCons (mCa lenA (mCons (mVar 5) mNil)) mNil))))
    (mSet 9 (mCa minA (mCons (mVar 9) (mCons (mVar 8) mNil))))) mNext)
    (mSeq (mSet 10 (mLc (mRng (mCons (mCall m_law_draw (mCons (mVar 1) (mCons (mC (.int 5)) mNil))) mNil)) (.one 13) [13] mYes (mBin ixA (mBin addA (mVar 3) (mCa tupleA (mCons (mVar 2) mNil))) (mCall m_law_draw (mCons (mVar 1) (mCons (mBin addA (mCa lenA (mCons (mVar 3) mNil)) (mCa lenA (mCons (mVar 2) mNil))) mNil))))))
    (mSeq (mIfS (mTru (mVar 4)) (mSet 10 (mBin addA (mVar 10) (mBin mulA (mLst (mCons (mVar 7) mNil)) (mCall m_law_draw (mCons (mVar 1) (mCons (mC (.int 21)) mNil)))))) mNext)
    (mSeq (mSet 11 (mBin addA (mBin subA (mCa lenA (mCons (mVar 5) mNil)) (mBin subA (mVar 8) (mVar 9))) (mCa lenA (mCons (mVar 10) mNil))))
    (mSeq (mSet 12 (mTup (mCons (mC (.str "out of range")) (mCons (mVar 8) (mCons (mC (.bl true)) (mCons (mC (.bl false)) mNil))))))
    (mSeq (mIfS (mGB (mBin leA (mVar 8) (mCa lenA (mCons (mVar 5) mNil)))) (mSeq (mSet 12 (mTup (mCons (mC (.str "out of range")) (mCons (mVar 9) (mCons (mC (.bl true)) (mCons (mC (.bl false)) mNil))))))
    (mIfS (mGB (mBin leA (mVar 9) (mVar 8))) (mSeq (mSet 12 (mTup (mCons (mC (.str "too many")) (mCons (mVar 11) (mCons (mC (.bl true)) (mCons (mC (.bl false)) mNil))))))
    (mIfS (mGB (mBin leA (mVar 11) (mC (.int 2000)))) (mSeq (mSet 12 (mTup (mCons (mC (.str "told")) (mCons (mVar 11) mNil))))
    (mSet 5 (mBin addA (mBin addA (mSl (mVar 5) mNoPart (mPart (mVar 9))) (mLc (mSrc (mVar 10)) (.one 14) [14] mYes (mTup (mCons (mVar 14) mNil)))) (mSl (mVar 5) (mPart (mVar 8)) mNoPart)))) mNext)) mNext)) mNext)
    (mSeq (mIfS (mNot (mTru (mCall (m_law_alikeB 40) (mCons (mCall m_law_replaceB (mCons (mVar 6) (mCons (mVar 9) (mCons (mVar 8) (mCons (mCa tupleA (mCons (mVar 10) mNil)) mNil))))) (mCons (mVar 12) mNil))))) (mRet (mC (.bl false))) mNext)
    (mIfS (mNot (mTru (mCall m_law_rightB (mCons (mVar 6) (mCons (mVar 3) (mCons (mVar 5) mNil)))))) (mRet (mC (.bl false))) mNext)))))))))))
    (mRet (mC (.bl true)))))))))))))) := (
    (mss_cons (ms_set sc_law.nd (me_call C_law_tape (hr.mono (by decide)) takesE (ma_cons (me_var 0) ma_nil)))
    (mss_cons (ms_set sc_law.nd (me_call C_law_pool (hr.mono (by decide)) takesE (ma_cons (me_var 1) ma_nil)))
    (mss_cons (ms_set sc_law.nd (me_call C_law_contents (hr.mono (by decide)) takesE (ma_cons (me_var 1) (ma_cons (me_var 2) (ma_cons me_int ma_nil)))))
    (mss_cons (ms_set sc_law.nd (me_cmp (op_eqU (units_ok hr)) os_eq (me_call C_law_draw (hr.mono (by decide)) takesE (ma_cons (me_var 1) (ma_cons me_int ma_nil))) me_int))
    (mss_cons (ms_if (mt_tru (me_var 4)) (mss_one (ms_set sc_law.nd (me_bin op_addU os_add (me_var 3) (me_tupRg1 n_tuple n_range me_int)))) mss_nil)
    (mss_cons (ms_set sc_law.nd (me_lstRg1 n_list n_range (me_callB call_len cs_len PySem.boot_len n_len (ma_cons (me_var 3) ma_nil))))
    (mss_cons (ms_set sc_law.nd (me_make C_Editor___init__ (hr.mono (by decide)) takesE (ma_cons (me_var 3) ma_nil)))
    (mss_cons (ms_if (mt_not (mt_tru (me_call C_law_rightB (hr.mono (by decide)) takesE (ma_cons (me_var 6) (ma_cons (me_var 3) (ma_cons (me_var 5) ma_nil)))))) (mss_one (ms_ret me_bl)) mss_nil)
    (mss_cons (ms_for passesE (mi_range1 (x := "range") n_range (ma_cons (me_bin op_sub os_sub me_int (me_bin op_mulU os_mul me_int (me_callTy call_int1 cs_int (by decide +kernel) n_int (ma_cons (me_var 4) ma_nil)))) ma_nil) (hn := cons1)) (mg_one sc_law.nd) (mss_cons (ms_set sc_law.nd (me_call C_law_place (hr.mono (by decide)) takesE (ma_cons (me_var 1) (ma_cons (me_callB call_len cs_len PySem.boot_len n_len (ma_cons (me_var 5) ma_nil)) ma_nil))))
    (mss_cons (ms_set sc_law.nd (me_call C_law_place (hr.mono (by decide)) takesE (ma_cons (me_var 1) (ma_cons (me_callB call_len cs_len PySem.boot_len n_len (ma_cons (me_var 5) ma_nil)) ma_nil))))
    (mss_cons (ms_if (mt_cmp op_gtU os_gt (me_call C_law_draw (hr.mono (by decide)) takesE (ma_cons (me_var 1) (ma_cons me_int ma_nil))) me_int) (mss_cons (ms_set sc_law.nd (me_callB (call_minU rfl) cs_min PyProof.Rows.boot_min n_min (ma_cons (me_var 8) (ma_cons (me_callB call_len cs_len PySem.boot_len n_len (ma_cons (me_var 5) ma_nil)) ma_nil))))
    (mss_one (ms_set sc_law.nd (me_callB (call_minU rfl) cs_min PyProof.Rows.boot_min n_min (ma_cons (me_var 9) (ma_cons (me_var 8) ma_nil)))))) mss_nil)
    (mss_cons (ms_setLc [("_law_i", 13)] sc_law.nd (sw_true rfl rfl rfl (by decide +kernel)) (mi_range1 (x := "range") n_range (ma_cons (me_call C_law_draw (hr.mono (by decide)) takesE (ma_cons (me_var 1) (ma_cons me_int ma_nil))) ma_nil) (hn := cons1)) (blkOk_by (N := ["_law_script", "_law_tape_here", "_law_pool_here", "_law_base", "_law_large", "_law_origins", "_law_editor", "_law_k", "_law_end", "_law_start", "_law_inserted", "_law_size", "_law_due", "_law_i", "_law_element_here"]) (sc := defScope s_law) (own := [("_law_i", 13)]) (by decide +kernel)) (fun _ _ _ _ _ => (mg_one sc_law.nd)) (fun _ _ _ _ _ => mts_nil) (fun _ _ _ _ _ => (me_ix (me_bin op_addU os_add (me_var 3) (me_callTy call_tupleP cs_tuple (by decide +kernel) n_tuple (ma_cons (me_var 2) ma_nil))) (me_call C_law_draw (hr.mono (by decide)) takes0 (ma_cons (me_var 1) (ma_cons (me_bin op_addU os_add (me_callB call_len cs_len PySem.boot_len n_len (ma_cons (me_var 3) ma_nil)) (me_callB call_len cs_len PySem.boot_len n_len (ma_cons (me_var 2) ma_nil))) ma_nil))))))
    (mss_cons (ms_if (mt_tru (me_var 4)) (mss_one (ms_set sc_law.nd (me_bin op_addU os_add (me_var 10) (me_bin op_mulU os_mul (me_lst (ma_cons (me_var 7) ma_nil)) (me_call C_law_draw (hr.mono (by decide)) takesE (ma_cons (me_var 1) (ma_cons me_int ma_nil))))))) mss_nil)
    (mss_cons (ms_set sc_law.nd (me_bin op_addU os_add (me_bin op_sub os_sub (me_callB call_len cs_len PySem.boot_len n_len (ma_cons (me_var 5) ma_nil)) (me_bin op_sub os_sub (me_var 8) (me_var 9))) (me_callB call_len cs_len PySem.boot_len n_len (ma_cons (me_var 10) ma_nil))))
    (mss_cons (ms_set sc_law.nd (me_tup (ma_cons me_str (ma_cons (me_var 8) (ma_cons me_bl (ma_cons me_bl ma_nil))))))
    (mss_cons (ms_if (mt_cmp op_le os_le (me_var 8) (me_callB call_len cs_len PySem.boot_len n_len (ma_cons (me_var 5) ma_nil))) (mss_cons (ms_set sc_law.nd (me_tup (ma_cons me_str (ma_cons (me_var 9) (ma_cons me_bl (ma_cons me_bl ma_nil))))))
    (mss_one (ms_if (mt_cmp op_le os_le (me_var 9) (me_var 8)) (mss_cons (ms_set sc_law.nd (me_tup (ma_cons me_str (ma_cons (me_var 11) (ma_cons me_bl (ma_cons me_bl ma_nil))))))
    (mss_one (ms_if (mt_cmp op_le os_le (me_var 11) me_int) (mss_cons (ms_set sc_law.nd (me_tup (ma_cons me_str (ma_cons (me_var 11) ma_nil))))
    (mss_one (ms_set sc_law.nd (me_bin op_addU os_add (me_bin op_addU os_add (me_slice (me_var 5) mo_none (mo_some (me_var 9))) (me_lc [("_law_element_here", 14)] sc_law.nd (mi_it (me_var 10)) (blkOk_by (N := ["_law_script", "_law_tape_here", "_law_pool_here", "_law_base", "_law_large", "_law_origins", "_law_editor", "_law_k", "_law_end", "_law_start", "_law_inserted", "_law_size", "_law_due", "_law_i", "_law_element_here"]) (sc := defScope s_law) (own := [("_law_element_here", 14)]) (by decide +kernel)) (fun _ _ _ _ _ => (mg_one sc_law.nd)) (fun _ _ _ _ _ => mts_nil) (fun _ _ _ _ _ => (me_tup (ma_cons (me_var 14) ma_nil))))) (me_slice (me_var 5) (mo_some (me_var 8)) mo_none))))) mss_nil))) mss_nil))) mss_nil)
    (mss_cons (ms_if (mt_not (mt_tru (me_call C_law_alikeB (hr.mono (by decide)) takesE (ma_cons (me_call C_law_replaceB (hr.mono (by decide)) takesE (ma_cons (me_var 6) (ma_cons (me_var 9) (ma_cons (me_var 8) (ma_cons (me_callTy call_tupleP cs_tuple (by decide +kernel) n_tuple (ma_cons (me_var 10) ma_nil)) ma_nil))))) (ma_cons (me_var 12) ma_nil))))) (mss_one (ms_ret me_bl)) mss_nil)
    (mss_one (ms_if (mt_not (mt_tru (me_call C_law_rightB (hr.mono (by decide)) takesE (ma_cons (me_var 6) (ma_cons (me_var 3) (ma_cons (me_var 5) ma_nil)))))) (mss_one (ms_ret me_bl)) mss_nil))))))))))))
    (mss_one (ms_ret me_bl))))))))))))
end
theorem all_mk {P : Program} {w : World} {K : PySem.W.Frag} {h : Heap} {mg : Str → Option Value} {fa : Addr} (X : K.In h) (G : h.Ns mainGlobals mg) (hfa : mg "law" = some (.ref fa))
    {f1 : Addr} {od1 an1 : Option Addr} {sl1 : Array (Option Value)} {oc1 kV1 dc1 pm1 cd1 ct1 : Value} (a1 : PySem.W.nsIn K mainGlobals "_law_tape" = some (some (.ref f1))) (l1 : K.lookup f1 = some ⟨oc1, od1, .func (PySem.W.fnOf "_law_tape" "_law_tape" (defArgs s_law_tape) (defBody s_law_tape) (defScope s_law_tape) .none kV1 dc1 pm1 an1 cd1 ct1), sl1⟩) (e1 : PySem.W.codeIn K cd1 "_law_tape" = true) (k1 : PySem.W.keepIn K (.ref f1) = true)
    {f2 : Addr} {od2 an2 : Option Addr} {sl2 : Array (Option Value)} {oc2 kV2 dc2 pm2 cd2 ct2 : Value} (a2 : PySem.W.nsIn K mainGlobals "_law_draw" = some (some (.ref f2))) (l2 : K.lookup f2 = some ⟨oc2, od2, .func (PySem.W.fnOf "_law_draw" "_law_draw" (defArgs s_law_draw) (defBody s_law_draw) (defScope s_law_draw) .none kV2 dc2 pm2 an2 cd2 ct2), sl2⟩) (e2 : PySem.W.codeIn K cd2 "_law_draw" = true) (k2 : PySem.W.keepIn K (.ref f2) = true)
    {f3 : Addr} {od3 an3 : Option Addr} {sl3 : Array (Option Value)} {oc3 kV3 dc3 pm3 cd3 ct3 : Value} (a3 : PySem.W.nsIn K mainGlobals "_law_scalar" = some (some (.ref f3))) (l3 : K.lookup f3 = some ⟨oc3, od3, .func (PySem.W.fnOf "_law_scalar" "_law_scalar" (defArgs s_law_scalarB) (defBody s_law_scalarB) (defScope s_law_scalarB) .none kV3 dc3 pm3 an3 cd3 ct3), sl3⟩) (e3 : PySem.W.codeIn K cd3 "_law_scalar" = true) (k3 : PySem.W.keepIn K (.ref f3) = true)
    {f4 : Addr} {od4 an4 : Option Addr} {sl4 : Array (Option Value)} {oc4 kV4 dc4 pm4 cd4 ct4 : Value} (a4 : PySem.W.nsIn K mainGlobals "_law_element" = some (some (.ref f4))) (l4 : K.lookup f4 = some ⟨oc4, od4, .func (PySem.W.fnOf "_law_element" "_law_element" (defArgs s_law_elementB) (defBody s_law_elementB) (defScope s_law_elementB) .none kV4 dc4 pm4 an4 cd4 ct4), sl4⟩) (e4 : PySem.W.codeIn K cd4 "_law_element" = true) (k4 : PySem.W.keepIn K (.ref f4) = true)
    {f5 : Addr} {od5 an5 : Option Addr} {sl5 : Array (Option Value)} {oc5 kV5 dc5 pm5 cd5 ct5 : Value} (a5 : PySem.W.nsIn K mainGlobals "_law_pool" = some (some (.ref f5))) (l5 : K.lookup f5 = some ⟨oc5, od5, .func (PySem.W.fnOf "_law_pool" "_law_pool" (defArgs s_law_pool) (defBody s_law_pool) (defScope s_law_pool) .none kV5 dc5 pm5 an5 cd5 ct5), sl5⟩) (e5 : PySem.W.codeIn K cd5 "_law_pool" = true) (k5 : PySem.W.keepIn K (.ref f5) = true)
    {f6 : Addr} {od6 an6 : Option Addr} {sl6 : Array (Option Value)} {oc6 kV6 dc6 pm6 cd6 ct6 : Value} (a6 : PySem.W.nsIn K mainGlobals "_law_contents" = some (some (.ref f6))) (l6 : K.lookup f6 = some ⟨oc6, od6, .func (PySem.W.fnOf "_law_contents" "_law_contents" (defArgs s_law_contents) (defBody s_law_contents) (defScope s_law_contents) .none kV6 dc6 pm6 an6 cd6 ct6), sl6⟩) (e6 : PySem.W.codeIn K cd6 "_law_contents" = true) (k6 : PySem.W.keepIn K (.ref f6) = true)
    {f7 : Addr} {od7 an7 : Option Addr} {sl7 : Array (Option Value)} {oc7 kV7 dc7 pm7 cd7 ct7 : Value} (a7 : PySem.W.nsIn K mainGlobals "can_join" = some (some (.ref f7))) (l7 : K.lookup f7 = some ⟨oc7, od7, .func (PySem.W.fnOf "can_join" "can_join" (defArgs s_can_join) (defBody s_can_join) (defScope s_can_join) .none kV7 dc7 pm7 an7 cd7 ct7), sl7⟩) (e7 : PySem.W.codeIn K cd7 "can_join" = true) (k7 : PySem.W.keepIn K (.ref f7) = true)
    {f8 : Addr} {od8 an8 : Option Addr} {sl8 : Array (Option Value)} {oc8 kV8 dc8 pm8 cd8 ct8 : Value} (a8 : PySem.W.nsIn K mainGlobals "joined_piece" = some (some (.ref f8))) (l8 : K.lookup f8 = some ⟨oc8, od8, .func (PySem.W.fnOf "joined_piece" "joined_piece" (defArgs s_joined_piece) (defBody s_joined_piece) (defScope s_joined_piece) .none kV8 dc8 pm8 an8 cd8 ct8), sl8⟩) (e8 : PySem.W.codeIn K cd8 "joined_piece" = true) (k8 : PySem.W.keepIn K (.ref f8) = true)
    {f9 : Addr} {od9 an9 : Option Addr} {sl9 : Array (Option Value)} {oc9 kV9 dc9 pm9 cd9 ct9 : Value} (a9 : PySem.W.nsIn K mainGlobals "length_of" = some (some (.ref f9))) (l9 : K.lookup f9 = some ⟨oc9, od9, .func (PySem.W.fnOf "length_of" "length_of" (defArgs s_length_of) (defBody s_length_of) (defScope s_length_of) .none kV9 dc9 pm9 an9 cd9 ct9), sl9⟩) (e9 : PySem.W.codeIn K cd9 "length_of" = true) (k9 : PySem.W.keepIn K (.ref f9) = true)
    {f10 : Addr} {od10 an10 : Option Addr} {sl10 : Array (Option Value)} {oc10 kV10 dc10 pm10 cd10 ct10 : Value} (a10 : PySem.W.nsIn K mainGlobals "tidied" = some (some (.ref f10))) (l10 : K.lookup f10 = some ⟨oc10, od10, .func (PySem.W.fnOf "tidied" "tidied" (defArgs s_tidied) (defBody s_tidied) (defScope s_tidied) .none kV10 dc10 pm10 an10 cd10 ct10), sl10⟩) (e10 : PySem.W.codeIn K cd10 "tidied" = true) (k10 : PySem.W.keepIn K (.ref f10) = true)
    {C_Editor : Addr} (c1_Editor : PySem.W.nsIn K mainGlobals "Editor" = some (some (.ref C_Editor)))
    (pg_Editor : PySem.W.plainGet K C_Editor Str.empty = true)
    (hd_Editor : PySem.W.hasDictIn K C_Editor = true)
    (po_Editor : PySem.W.plainOver K C_Editor = true)
    (sa_Editor : PySem.W.findIn K (.ref C_Editor) "__setattr__" = some (some (.builtin "object.__setattr__")))
    (mk_Editor : PySem.W.makesIn K C_Editor = true)
    (kp_Editor : PySem.W.keepIn K (.ref C_Editor) = true)
    {f11 : Addr} {od11 an11 : Option Addr} {sl11 : Array (Option Value)} {oc11 kV11 dc11 pm11 cd11 ct11 : Value} (a11 : PySem.W.findIn K (.ref C_Editor) "__init__" = some (some (.ref f11))) (l11 : K.lookup f11 = some ⟨oc11, od11, .func (PySem.W.fnOf "__init__" "Editor.__init__" (defArgs s_Editor___init__) (defBody s_Editor___init__) (defScope s_Editor___init__) .none kV11 dc11 pm11 an11 cd11 ct11), sl11⟩) (e11 : PySem.W.codeIn K cd11 "Editor.__init__" = true) (k11 : PySem.W.keepIn K (.ref f11) = true)
    (i11 : PySem.W.isFn K (.ref f11) = true)
    {f12 : Addr} {od12 an12 : Option Addr} {sl12 : Array (Option Value)} {oc12 kV12 dc12 pm12 cd12 ct12 : Value} (a12 : PySem.W.nsIn K mainGlobals "_law_of_origins" = some (some (.ref f12))) (l12 : K.lookup f12 = some ⟨oc12, od12, .func (PySem.W.fnOf "_law_of_origins" "_law_of_origins" (defArgs s_law_of_origins) (defBody s_law_of_origins) (defScope s_law_of_origins) .none kV12 dc12 pm12 an12 cd12 ct12), sl12⟩) (e12 : PySem.W.codeIn K cd12 "_law_of_origins" = true) (k12 : PySem.W.keepIn K (.ref f12) = true)
    {f13 : Addr} {od13 an13 : Option Addr} {sl13 : Array (Option Value)} {oc13 kV13 dc13 pm13 cd13 ct13 : Value} (a13 : PySem.W.nsIn K mainGlobals "_law_pieces" = some (some (.ref f13))) (l13 : K.lookup f13 = some ⟨oc13, od13, .func (PySem.W.fnOf "_law_pieces" "_law_pieces" (defArgs s_law_pieces) (defBody s_law_pieces) (defScope s_law_pieces) .none kV13 dc13 pm13 an13 cd13 ct13), sl13⟩) (e13 : PySem.W.codeIn K cd13 "_law_pieces" = true) (k13 : PySem.W.keepIn K (.ref f13) = true)
    {f14 : Addr} {od14 an14 : Option Addr} {sl14 : Array (Option Value)} {oc14 kV14 dc14 pm14 cd14 ct14 : Value} (a14 : PySem.W.nsIn K mainGlobals "_law_alike" = some (some (.ref f14))) (l14 : K.lookup f14 = some ⟨oc14, od14, .func (PySem.W.fnOf "_law_alike" "_law_alike" (defArgs s_law_alikeB) (defBody s_law_alikeB) (defScope s_law_alikeB) .none kV14 dc14 pm14 an14 cd14 ct14), sl14⟩) (e14 : PySem.W.codeIn K cd14 "_law_alike" = true) (k14 : PySem.W.keepIn K (.ref f14) = true)
    {f15 : Addr} {od15 an15 : Option Addr} {sl15 : Array (Option Value)} {oc15 kV15 dc15 pm15 cd15 ct15 : Value} (a15 : PySem.W.findIn K (.ref C_Editor) "__len__" = some (some (.ref f15))) (l15 : K.lookup f15 = some ⟨oc15, od15, .func (PySem.W.fnOf "__len__" "Editor.__len__" (defArgs s_Editor___len__) (defBody s_Editor___len__) (defScope s_Editor___len__) .none kV15 dc15 pm15 an15 cd15 ct15), sl15⟩) (e15 : PySem.W.codeIn K cd15 "Editor.__len__" = true) (k15 : PySem.W.keepIn K (.ref f15) = true)
    (i15 : PySem.W.isFn K (.ref f15) = true)
    {p16 : Addr} {rest16 : List Value} 
    {f16 : Addr} {od16 an16 : Option Addr} {sl16 : Array (Option Value)} {oc16 kV16 dc16 pm16 cd16 ct16 : Value} (a16 : PySem.W.findIn K (.ref C_Editor) "pieces" = some (some (.ref p16))) (pg16 : PySem.W.specialIn K (.ref p16) "__get__" = some (some (.builtin "property.__get__"))) (pt16 : PySem.W.takesIn K (.ref p16) = some true) (pr16 : PySem.W.recIn K p16 "property" = some (.ref f16 :: rest16)) (l16 : K.lookup f16 = some ⟨oc16, od16, .func (PySem.W.fnOf "pieces" "Editor.pieces" (defArgs s_Editor_pieces) (defBody s_Editor_pieces) (defScope s_Editor_pieces) .none kV16 dc16 pm16 an16 cd16 ct16), sl16⟩) (e16 : PySem.W.codeIn K cd16 "Editor.pieces" = true) (k16 : PySem.W.keepIn K (.ref f16) = true)
    {p17 : Addr} {rest17 : List Value} 
    {f17 : Addr} {od17 an17 : Option Addr} {sl17 : Array (Option Value)} {oc17 kV17 dc17 pm17 cd17 ct17 : Value} (a17 : PySem.W.findIn K (.ref C_Editor) "contents" = some (some (.ref p17))) (pg17 : PySem.W.specialIn K (.ref p17) "__get__" = some (some (.builtin "property.__get__"))) (pt17 : PySem.W.takesIn K (.ref p17) = some true) (pr17 : PySem.W.recIn K p17 "property" = some (.ref f17 :: rest17)) (l17 : K.lookup f17 = some ⟨oc17, od17, .func (PySem.W.fnOf "contents" "Editor.contents" (defArgs s_Editor_contents) (defBody s_Editor_contents) (defScope s_Editor_contents) .none kV17 dc17 pm17 an17 cd17 ct17), sl17⟩) (e17 : PySem.W.codeIn K cd17 "Editor.contents" = true) (k17 : PySem.W.keepIn K (.ref f17) = true)
    {f18 : Addr} {od18 an18 : Option Addr} {sl18 : Array (Option Value)} {oc18 kV18 dc18 pm18 cd18 ct18 : Value} (a18 : PySem.W.nsIn K mainGlobals "edits_of" = some (some (.ref f18))) (l18 : K.lookup f18 = some ⟨oc18, od18, .func (PySem.W.fnOf "edits_of" "edits_of" (defArgs s_edits_of) (defBody s_edits_of) (defScope s_edits_of) .none kV18 dc18 pm18 an18 cd18 ct18), sl18⟩) (e18 : PySem.W.codeIn K cd18 "edits_of" = true) (k18 : PySem.W.keepIn K (.ref f18) = true)
    {p19 : Addr} {rest19 : List Value} 
    {f19 : Addr} {od19 an19 : Option Addr} {sl19 : Array (Option Value)} {oc19 kV19 dc19 pm19 cd19 ct19 : Value} (a19 : PySem.W.findIn K (.ref C_Editor) "edits" = some (some (.ref p19))) (pg19 : PySem.W.specialIn K (.ref p19) "__get__" = some (some (.builtin "property.__get__"))) (pt19 : PySem.W.takesIn K (.ref p19) = some true) (pr19 : PySem.W.recIn K p19 "property" = some (.ref f19 :: rest19)) (l19 : K.lookup f19 = some ⟨oc19, od19, .func (PySem.W.fnOf "edits" "Editor.edits" (defArgs s_Editor_edits) (defBody s_Editor_edits) (defScope s_Editor_edits) .none kV19 dc19 pm19 an19 cd19 ct19), sl19⟩) (e19 : PySem.W.codeIn K cd19 "Editor.edits" = true) (k19 : PySem.W.keepIn K (.ref f19) = true)
    {f20 : Addr} {od20 an20 : Option Addr} {sl20 : Array (Option Value)} {oc20 kV20 dc20 pm20 cd20 ct20 : Value} (a20 : PySem.W.findIn K (.ref C_Editor) "__iter__" = some (some (.ref f20))) (l20 : K.lookup f20 = some ⟨oc20, od20, .func (PySem.W.fnOf "__iter__" "Editor.__iter__" (defArgs s_Editor___iter__) (defBody s_Editor___iter__) (defScope s_Editor___iter__) .none kV20 dc20 pm20 an20 cd20 ct20), sl20⟩) (e20 : PySem.W.codeIn K cd20 "Editor.__iter__" = true) (k20 : PySem.W.keepIn K (.ref f20) = true)
    (i20 : PySem.W.isFn K (.ref f20) = true)
    {f21 : Addr} {od21 an21 : Option Addr} {sl21 : Array (Option Value)} {oc21 kV21 dc21 pm21 cd21 ct21 : Value} (a21 : PySem.W.nsIn K mainGlobals "_law_edits_of" = some (some (.ref f21))) (l21 : K.lookup f21 = some ⟨oc21, od21, .func (PySem.W.fnOf "_law_edits_of" "_law_edits_of" (defArgs s_law_edits_of) (defBody s_law_edits_of) (defScope s_law_edits_of) .none kV21 dc21 pm21 an21 cd21 ct21), sl21⟩) (e21 : PySem.W.codeIn K cd21 "_law_edits_of" = true) (k21 : PySem.W.keepIn K (.ref f21) = true)
    {f22 : Addr} {od22 an22 : Option Addr} {sl22 : Array (Option Value)} {oc22 kV22 dc22 pm22 cd22 ct22 : Value} (a22 : PySem.W.nsIn K mainGlobals "_law_right" = some (some (.ref f22))) (l22 : K.lookup f22 = some ⟨oc22, od22, .func (PySem.W.fnOf "_law_right" "_law_right" (defArgs s_law_rightB) (defBody s_law_rightB) (defScope s_law_rightB) .none kV22 dc22 pm22 an22 cd22 ct22), sl22⟩) (e22 : PySem.W.codeIn K cd22 "_law_right" = true) (k22 : PySem.W.keepIn K (.ref f22) = true)
    {f23 : Addr} {od23 an23 : Option Addr} {sl23 : Array (Option Value)} {oc23 kV23 dc23 pm23 cd23 ct23 : Value} (a23 : PySem.W.nsIn K mainGlobals "_law_place" = some (some (.ref f23))) (l23 : K.lookup f23 = some ⟨oc23, od23, .func (PySem.W.fnOf "_law_place" "_law_place" (defArgs s_law_place) (defBody s_law_place) (defScope s_law_place) .none kV23 dc23 pm23 an23 cd23 ct23), sl23⟩) (e23 : PySem.W.codeIn K cd23 "_law_place" = true) (k23 : PySem.W.keepIn K (.ref f23) = true)
    {f24 : Addr} {od24 an24 : Option Addr} {sl24 : Array (Option Value)} {oc24 kV24 dc24 pm24 cd24 ct24 : Value} (a24 : PySem.W.nsIn K mainGlobals "described" = some (some (.ref f24))) (l24 : K.lookup f24 = some ⟨oc24, od24, .func (PySem.W.fnOf "described" "described" (defArgs s_described) (defBody s_described) (defScope s_described) .none kV24 dc24 pm24 an24 cd24 ct24), sl24⟩) (e24 : PySem.W.codeIn K cd24 "described" = true) (k24 : PySem.W.keepIn K (.ref f24) = true)
    {f25 : Addr} {od25 an25 : Option Addr} {sl25 : Array (Option Value)} {oc25 kV25 dc25 pm25 cd25 ct25 : Value} (a25 : PySem.W.findIn K (.ref C_Editor) "_become" = some (some (.ref f25))) (l25 : K.lookup f25 = some ⟨oc25, od25, .func (PySem.W.fnOf "_become" "Editor._become" (defArgs s_Editor__become) (defBody s_Editor__become) (defScope s_Editor__become) .none kV25 dc25 pm25 an25 cd25 ct25), sl25⟩) (e25 : PySem.W.codeIn K cd25 "Editor._become" = true) (k25 : PySem.W.keepIn K (.ref f25) = true)
    (i25 : PySem.W.isFn K (.ref f25) = true)
    {f26 : Addr} {od26 an26 : Option Addr} {sl26 : Array (Option Value)} {oc26 kV26 dc26 pm26 cd26 ct26 : Value} (a26 : PySem.W.nsIn K mainGlobals "check_count" = some (some (.ref f26))) (l26 : K.lookup f26 = some ⟨oc26, od26, .func (PySem.W.fnOf "check_count" "check_count" (defArgs s_check_count) (defBody s_check_count) (defScope s_check_count) .none kV26 dc26 pm26 an26 cd26 ct26), sl26⟩) (e26 : PySem.W.codeIn K cd26 "check_count" = true) (k26 : PySem.W.keepIn K (.ref f26) = true)
    {f27 : Addr} {od27 an27 : Option Addr} {sl27 : Array (Option Value)} {oc27 kV27 dc27 pm27 cd27 ct27 : Value} (a27 : PySem.W.nsIn K mainGlobals "piece_part" = some (some (.ref f27))) (l27 : K.lookup f27 = some ⟨oc27, od27, .func (PySem.W.fnOf "piece_part" "piece_part" (defArgs s_piece_part) (defBody s_piece_part) (defScope s_piece_part) .none kV27 dc27 pm27 an27 cd27 ct27), sl27⟩) (e27 : PySem.W.codeIn K cd27 "piece_part" = true) (k27 : PySem.W.keepIn K (.ref f27) = true)
    {f28 : Addr} {od28 an28 : Option Addr} {sl28 : Array (Option Value)} {oc28 kV28 dc28 pm28 cd28 ct28 : Value} (a28 : PySem.W.nsIn K mainGlobals "pieces_part" = some (some (.ref f28))) (l28 : K.lookup f28 = some ⟨oc28, od28, .func (PySem.W.fnOf "pieces_part" "pieces_part" (defArgs s_pieces_part) (defBody s_pieces_part) (defScope s_pieces_part) .none kV28 dc28 pm28 an28 cd28 ct28), sl28⟩) (e28 : PySem.W.codeIn K cd28 "pieces_part" = true) (k28 : PySem.W.keepIn K (.ref f28) = true)
    {f29 : Addr} {od29 an29 : Option Addr} {sl29 : Array (Option Value)} {oc29 kV29 dc29 pm29 cd29 ct29 : Value} (a29 : PySem.W.findIn K (.ref C_Editor) "replace_range" = some (some (.ref f29))) (l29 : K.lookup f29 = some ⟨oc29, od29, .func (PySem.W.fnOf "replace_range" "Editor.replace_range" (defArgs s_Editor_replace_range) (defBody s_Editor_replace_range) (defScope s_Editor_replace_range) .none kV29 dc29 pm29 an29 cd29 ct29), sl29⟩) (e29 : PySem.W.codeIn K cd29 "Editor.replace_range" = true) (k29 : PySem.W.keepIn K (.ref f29) = true)
    (i29 : PySem.W.isFn K (.ref f29) = true)
    {f30 : Addr} {od30 an30 : Option Addr} {sl30 : Array (Option Value)} {oc30 kV30 dc30 pm30 cd30 ct30 : Value} (a30 : PySem.W.nsIn K mainGlobals "_law_replace" = some (some (.ref f30))) (l30 : K.lookup f30 = some ⟨oc30, od30, .func (PySem.W.fnOf "_law_replace" "_law_replace" (defArgs s_law_replaceB) (defBody s_law_replaceB) (defScope s_law_replaceB) .none kV30 dc30 pm30 an30 cd30 ct30), sl30⟩) (e30 : PySem.W.codeIn K cd30 "_law_replace" = true) (k30 : PySem.W.keepIn K (.ref f30) = true)
    {f31 : Addr} {od31 an31 : Option Addr} {sl31 : Array (Option Value)} {oc31 kV31 dc31 pm31 cd31 ct31 : Value} (a31 : PySem.W.nsIn K mainGlobals "law" = some (some (.ref f31))) (l31 : K.lookup f31 = some ⟨oc31, od31, .func (PySem.W.fnOf "law" "law" (defArgs s_law) (defBody s_law) (defScope s_law) .none kV31 dc31 pm31 an31 cd31 ct31), sl31⟩) (e31 : PySem.W.codeIn K cd31 "law" = true) (k31 : PySem.W.keepIn K (.ref f31) = true)
    (z_int : PySem.W.nsIn K mainGlobals "int" = some none)
    (z_abs : PySem.W.nsIn K mainGlobals "abs" = some none)
    (z_list : PySem.W.nsIn K mainGlobals "list" = some none)
    (z_len : PySem.W.nsIn K mainGlobals "len" = some none)
    (z_max : PySem.W.nsIn K mainGlobals "max" = some none)
    (z_range : PySem.W.nsIn K mainGlobals "range" = some none)
    (z_tuple : PySem.W.nsIn K mainGlobals "tuple" = some none)
    (nf_Editor__base : PySem.W.findIn K (.ref C_Editor) "_base" = some none)
    (nf_Editor__contents : PySem.W.findIn K (.ref C_Editor) "_contents" = some none)
    (nf_Editor__pieces : PySem.W.findIn K (.ref C_Editor) "_pieces" = some none)
    (nf_Editor__undoable : PySem.W.findIn K (.ref C_Editor) "_undoable" = some none)
    (nf_Editor__redoable : PySem.W.findIn K (.ref C_Editor) "_redoable" = some none)
    (z_isinstance : PySem.W.nsIn K mainGlobals "isinstance" = some none)
    (z_str : PySem.W.nsIn K mainGlobals "str" = some none)
    (z_bool : PySem.W.nsIn K mainGlobals "bool" = some none)
    (z_iter : PySem.W.nsIn K mainGlobals "iter" = some none)
    {u_MOST_ELEMENTS : Tok} (z_MOST_ELEMENTS : PySem.W.nsIn K mainGlobals "MOST_ELEMENTS" = some (some (.int 2000 u_MOST_ELEMENTS)))
    (z_min : PySem.W.nsIn K mainGlobals "min" = some none)
    (z_ValueError : PySem.W.nsIn K mainGlobals "ValueError" = some none)
    (z_third : PySem.W.nsIn K cStatics "thirdparty.any" = some none)
    (z_super : PySem.W.nsIn K mainGlobals "super" = some none)
    (z_top : (P.main.scope.names.lookup ("super" : Str)).isSome = false)
    {C_TooManyElements : Addr} (c1_TooManyElements : PySem.W.nsIn K mainGlobals "TooManyElements" = some (some (.ref C_TooManyElements)))
    {B_TooManyElements_ShapeError : Addr} {nm_TooManyElements q_TooManyElements : Str} {N_TooManyElements : Addr} {bs_TooManyElements sub_TooManyElements : List Value} {sn_TooManyElements : List Str} {ab_TooManyElements : Bool} {col_TooManyElements : Option Bool} {dd_TooManyElements : Option Addr} {m0_TooManyElements m1_TooManyElements m2_TooManyElements m3_TooManyElements m5_TooManyElements : Option Value}
    (xL_TooManyElements : K.lookup C_TooManyElements = some (excClassObj nm_TooManyElements q_TooManyElements C_TooManyElements N_TooManyElements bs_TooManyElements [.ref B_TooManyElements_ShapeError, .type "ValueError", .type "Exception", .type "BaseException", .type "object"] true sn_TooManyElements sub_TooManyElements ab_TooManyElements col_TooManyElements dd_TooManyElements m0_TooManyElements m1_TooManyElements m2_TooManyElements m3_TooManyElements m5_TooManyElements "ValueError.__new__"))
    (sa_TooManyElements : PySem.W.findIn K (.ref C_TooManyElements) "__setattr__" = some (some (.builtin "object.__setattr__")))
    (nb_TooManyElements : PySem.W.findIn K (.ref C_TooManyElements) "count" = some none)
    {I_TooManyElements : Addr}
    (a1_TooManyElements : PySem.W.findIn K (.ref C_TooManyElements) "__init__" = some (some (.ref I_TooManyElements)))
    (t1_TooManyElements : PySem.W.typeIn K (.ref I_TooManyElements) = some (.type "function"))
    (su_TooManyElements : PySem.W.ks_superIn K C_TooManyElements C_TooManyElements "__init__" = some (some (.builtin "ValueError.__init__")))
    (ve_TooManyElements : PySem.W.subIn K (.ref C_TooManyElements) (.type "ValueError") = some true)
    (sf_TooManyElements : PySem.W.mroIn K C_TooManyElements (.ref C_TooManyElements) = some true)
    {oc_TooManyElements dc_TooManyElements pm_TooManyElements ct_TooManyElements cl_TooManyElements cc2_TooManyElements : Value} {od_TooManyElements an_TooManyElements cld_TooManyElements cdd_TooManyElements : Option Addr} {cda_TooManyElements cc_TooManyElements : Addr} {osl_TooManyElements csl_TooManyElements ccs_TooManyElements : Array (Option Value)} {vs_TooManyElements : Array Value} {fl_TooManyElements : Str} {tf_TooManyElements : Tok}
    (l1_TooManyElements : K.lookup I_TooManyElements = some ⟨oc_TooManyElements, od_TooManyElements, .func (PySem.W.ksFn "__init__" "TooManyElements.__init__" (PySem.SupX.iA "count" ⟨14, 17, 14, 21⟩ ⟨14, 23, 14, 28⟩) (PySem.SupX.iB "count" "too many elements" ⟨15, 8, 15, 13⟩ ⟨15, 8, 15, 15⟩ ⟨15, 8, 15, 24⟩ ⟨15, 25, 15, 44⟩ ⟨15, 8, 15, 45⟩ ⟨15, 8, 15, 45⟩ ⟨16, 8, 16, 12⟩ ⟨16, 8, 16, 18⟩ ⟨16, 21, 16, 26⟩ ⟨16, 8, 16, 26⟩) (PySem.SupX.iS "count") .none .none dc_TooManyElements pm_TooManyElements an_TooManyElements (.ref cda_TooManyElements) ct_TooManyElements cc_TooManyElements), osl_TooManyElements⟩)
    (e1_TooManyElements : PySem.W.codeIn K (.ref cda_TooManyElements) "TooManyElements.__init__" = true)
    (ce_TooManyElements : K.lookup cc_TooManyElements = some ⟨cl_TooManyElements, cld_TooManyElements, .cell (some (.ref C_TooManyElements)), csl_TooManyElements⟩)
    (co_TooManyElements : K.lookup cda_TooManyElements = some ⟨cc2_TooManyElements, cdd_TooManyElements, .fields vs_TooManyElements, ccs_TooManyElements⟩)
    (v2_TooManyElements : vs_TooManyElements[2]? = some (.str fl_TooManyElements tf_TooManyElements))
    (fi_TooManyElements : ((P.main.file : Str) == fl_TooManyElements) = true)
    (ga_TooManyElements : PySem.W.findIn K (.ref C_TooManyElements) "__getattribute__" = some (some (.builtin "BaseException.__getattribute__")))
    (gg_TooManyElements : PySem.W.findIn K (.ref C_TooManyElements) "__getattr__" = some none)
    (hC_TooManyElements : PySem.W.hasDictIn K C_TooManyElements = true)
    (kC_TooManyElements : PySem.W.keepIn K (.ref C_TooManyElements) = true)
    (eC_TooManyElements : PySem.W.subIn K (.ref C_TooManyElements) (.type "BaseException") = some true)
    (tC_TooManyElements : PySem.W.typeIn K (.ref C_TooManyElements) = some (.type "type"))
    (iC_TooManyElements : PySem.W.isClsIn K C_TooManyElements = true)
    (hk_TooManyElements : PySem.W.findIn K (.ref C_TooManyElements) "__class__" = some (some (.builtin "object.__class__")))
    (hs_TooManyElements : PySem.W.specialIn K (.builtin "object.__class__") "__get__" = some (some (.builtin "getset_descriptor.__get__")))
    (ht_TooManyElements : PySem.W.takesIn K (.builtin "object.__class__") = some true)
    (hm_TooManyElements : PySem.W.mroIn K C_TooManyElements (.type "object") = some true)
    (sC_TooManyElements : PySem.W.subIn K (.ref C_TooManyElements) (.ref C_TooManyElements) = some true)
    {C_IndexOutOfRange : Addr} (c1_IndexOutOfRange : PySem.W.nsIn K mainGlobals "IndexOutOfRange" = some (some (.ref C_IndexOutOfRange)))
    {B_IndexOutOfRange_ShapeError : Addr} {nm_IndexOutOfRange q_IndexOutOfRange : Str} {N_IndexOutOfRange : Addr} {bs_IndexOutOfRange sub_IndexOutOfRange : List Value} {sn_IndexOutOfRange : List Str} {ab_IndexOutOfRange : Bool} {col_IndexOutOfRange : Option Bool} {dd_IndexOutOfRange : Option Addr} {m0_IndexOutOfRange m1_IndexOutOfRange m2_IndexOutOfRange m3_IndexOutOfRange m5_IndexOutOfRange : Option Value}
    (xL_IndexOutOfRange : K.lookup C_IndexOutOfRange = some (excClassObj nm_IndexOutOfRange q_IndexOutOfRange C_IndexOutOfRange N_IndexOutOfRange bs_IndexOutOfRange [.ref B_IndexOutOfRange_ShapeError, .type "ValueError", .type "Exception", .type "BaseException", .type "object"] true sn_IndexOutOfRange sub_IndexOutOfRange ab_IndexOutOfRange col_IndexOutOfRange dd_IndexOutOfRange m0_IndexOutOfRange m1_IndexOutOfRange m2_IndexOutOfRange m3_IndexOutOfRange m5_IndexOutOfRange "ValueError.__new__"))
    (sa_IndexOutOfRange : PySem.W.findIn K (.ref C_IndexOutOfRange) "__setattr__" = some (some (.builtin "object.__setattr__")))
    (nb_IndexOutOfRange : PySem.W.findIn K (.ref C_IndexOutOfRange) "place" = some none)
    {I_IndexOutOfRange : Addr}
    (a1_IndexOutOfRange : PySem.W.findIn K (.ref C_IndexOutOfRange) "__init__" = some (some (.ref I_IndexOutOfRange)))
    (t1_IndexOutOfRange : PySem.W.typeIn K (.ref I_IndexOutOfRange) = some (.type "function"))
    (su_IndexOutOfRange : PySem.W.ks_superIn K C_IndexOutOfRange C_IndexOutOfRange "__init__" = some (some (.builtin "ValueError.__init__")))
    (ve_IndexOutOfRange : PySem.W.subIn K (.ref C_IndexOutOfRange) (.type "ValueError") = some true)
    (sf_IndexOutOfRange : PySem.W.mroIn K C_IndexOutOfRange (.ref C_IndexOutOfRange) = some true)
    {oc_IndexOutOfRange dc_IndexOutOfRange pm_IndexOutOfRange ct_IndexOutOfRange cl_IndexOutOfRange cc2_IndexOutOfRange : Value} {od_IndexOutOfRange an_IndexOutOfRange cld_IndexOutOfRange cdd_IndexOutOfRange : Option Addr} {cda_IndexOutOfRange cc_IndexOutOfRange : Addr} {osl_IndexOutOfRange csl_IndexOutOfRange ccs_IndexOutOfRange : Array (Option Value)} {vs_IndexOutOfRange : Array Value} {fl_IndexOutOfRange : Str} {tf_IndexOutOfRange : Tok}
    (l1_IndexOutOfRange : K.lookup I_IndexOutOfRange = some ⟨oc_IndexOutOfRange, od_IndexOutOfRange, .func (PySem.W.ksFn "__init__" "IndexOutOfRange.__init__" (PySem.SupX.iA "place" ⟨9, 17, 9, 21⟩ ⟨9, 23, 9, 28⟩) (PySem.SupX.iB "place" "index out of range" ⟨10, 8, 10, 13⟩ ⟨10, 8, 10, 15⟩ ⟨10, 8, 10, 24⟩ ⟨10, 25, 10, 45⟩ ⟨10, 8, 10, 46⟩ ⟨10, 8, 10, 46⟩ ⟨11, 8, 11, 12⟩ ⟨11, 8, 11, 18⟩ ⟨11, 21, 11, 26⟩ ⟨11, 8, 11, 26⟩) (PySem.SupX.iS "place") .none .none dc_IndexOutOfRange pm_IndexOutOfRange an_IndexOutOfRange (.ref cda_IndexOutOfRange) ct_IndexOutOfRange cc_IndexOutOfRange), osl_IndexOutOfRange⟩)
    (e1_IndexOutOfRange : PySem.W.codeIn K (.ref cda_IndexOutOfRange) "IndexOutOfRange.__init__" = true)
    (ce_IndexOutOfRange : K.lookup cc_IndexOutOfRange = some ⟨cl_IndexOutOfRange, cld_IndexOutOfRange, .cell (some (.ref C_IndexOutOfRange)), csl_IndexOutOfRange⟩)
    (co_IndexOutOfRange : K.lookup cda_IndexOutOfRange = some ⟨cc2_IndexOutOfRange, cdd_IndexOutOfRange, .fields vs_IndexOutOfRange, ccs_IndexOutOfRange⟩)
    (v2_IndexOutOfRange : vs_IndexOutOfRange[2]? = some (.str fl_IndexOutOfRange tf_IndexOutOfRange))
    (fi_IndexOutOfRange : ((P.main.file : Str) == fl_IndexOutOfRange) = true)
    (ga_IndexOutOfRange : PySem.W.findIn K (.ref C_IndexOutOfRange) "__getattribute__" = some (some (.builtin "BaseException.__getattribute__")))
    (gg_IndexOutOfRange : PySem.W.findIn K (.ref C_IndexOutOfRange) "__getattr__" = some none)
    (hC_IndexOutOfRange : PySem.W.hasDictIn K C_IndexOutOfRange = true)
    (kC_IndexOutOfRange : PySem.W.keepIn K (.ref C_IndexOutOfRange) = true)
    (eC_IndexOutOfRange : PySem.W.subIn K (.ref C_IndexOutOfRange) (.type "BaseException") = some true)
    (tC_IndexOutOfRange : PySem.W.typeIn K (.ref C_IndexOutOfRange) = some (.type "type"))
    (iC_IndexOutOfRange : PySem.W.isClsIn K C_IndexOutOfRange = true)
    (hk_IndexOutOfRange : PySem.W.findIn K (.ref C_IndexOutOfRange) "__class__" = some (some (.builtin "object.__class__")))
    (hs_IndexOutOfRange : PySem.W.specialIn K (.builtin "object.__class__") "__get__" = some (some (.builtin "getset_descriptor.__get__")))
    (ht_IndexOutOfRange : PySem.W.takesIn K (.builtin "object.__class__") = some true)
    (hm_IndexOutOfRange : PySem.W.mroIn K C_IndexOutOfRange (.type "object") = some true)
    (sC_IndexOutOfRange : PySem.W.subIn K (.ref C_IndexOutOfRange) (.ref C_IndexOutOfRange) = some true)
    {C_ShapeError : Addr} (c1_ShapeError : PySem.W.nsIn K mainGlobals "ShapeError" = some (some (.ref C_ShapeError)))
    (kk_IndexOutOfRange_ShapeError : PySem.W.kitOne K (.ref C_IndexOutOfRange) (.ref C_ShapeError) = some true)
    (kk_IndexOutOfRange_ValueError : PySem.W.kitOne K (.ref C_IndexOutOfRange) (.type "ValueError") = some true)
    (kk_IndexOutOfRange_TooManyElements : PySem.W.kitOne K (.ref C_IndexOutOfRange) (.ref C_TooManyElements) = some false)
    (kk_TooManyElements_ShapeError : PySem.W.kitOne K (.ref C_TooManyElements) (.ref C_ShapeError) = some true)
    (kk_TooManyElements_ValueError : PySem.W.kitOne K (.ref C_TooManyElements) (.type "ValueError") = some true)
    (kk_TooManyElements_IndexOutOfRange : PySem.W.kitOne K (.ref C_TooManyElements) (.ref C_IndexOutOfRange) = some false)
    (ee_TooManyElements_IndexOutOfRange : PySem.W.subIn K (.ref C_TooManyElements) (.ref C_IndexOutOfRange) = some false) :
    ∃ fd : FuncData, (∀ (s : Shared) (v : Value), BindsTo s fd ⟨[v], []⟩ [("_law_script", v)]) ∧ ∀ base : Heap, K.In base → base.Ns mainGlobals mg → FnOk P w K mg base (L2.CX P w) 42 fa fd ["_law_script"] (spM K w mg m_law) := by
  have F1 := fun_mk (st := s_law_tape) l1 e1 k1
  have b1 := F1.binds (ps := ["_law_script"]) fun _ _ _ _ _ _ us hl => match us, hl with | [_], _ => rfl
  have G_law_tape : GF K mg "_law_tape" s_law_tape ["_law_script"] := ⟨_, _, PySem.W.mg_of X G a1, F1, b1⟩
  have F2 := fun_mk (st := s_law_draw) l2 e2 k2
  have b2 := F2.binds (ps := ["_law_tape_here", "_law_many"]) fun _ _ _ _ _ _ us hl => match us, hl with | [_, _], _ => rfl
  have G_law_draw : GF K mg "_law_draw" s_law_draw ["_law_tape_here", "_law_many"] := ⟨_, _, PySem.W.mg_of X G a2, F2, b2⟩
  have F3 := fun_mk (st := s_law_scalarB) l3 e3 k3
  have b3 := F3.binds (ps := ["_law_tape_here"]) fun _ _ _ _ _ _ us hl => match us, hl with | [_], _ => rfl
  have G_law_scalarB : GF K mg "_law_scalar" s_law_scalarB ["_law_tape_here"] := ⟨_, _, PySem.W.mg_of X G a3, F3, b3⟩
  have F4 := fun_mk (st := s_law_elementB) l4 e4 k4
  have b4 := F4.binds (ps := ["_law_tape_here"]) fun _ _ _ _ _ _ us hl => match us, hl with | [_], _ => rfl
  have G_law_elementB : GF K mg "_law_element" s_law_elementB ["_law_tape_here"] := ⟨_, _, PySem.W.mg_of X G a4, F4, b4⟩
  have F5 := fun_mk (st := s_law_pool) l5 e5 k5
  have b5 := F5.binds (ps := ["_law_tape_here"]) fun _ _ _ _ _ _ us hl => match us, hl with | [_], _ => rfl
  have G_law_pool : GF K mg "_law_pool" s_law_pool ["_law_tape_here"] := ⟨_, _, PySem.W.mg_of X G a5, F5, b5⟩
  have F6 := fun_mk (st := s_law_contents) l6 e6 k6
  have b6 := F6.binds (ps := ["_law_tape_here", "_law_pool_here", "_law_most"]) fun _ _ _ _ _ _ us hl => match us, hl with | [_, _, _], _ => rfl
  have G_law_contents : GF K mg "_law_contents" s_law_contents ["_law_tape_here", "_law_pool_here", "_law_most"] := ⟨_, _, PySem.W.mg_of X G a6, F6, b6⟩
  have F7 := fun_mk (st := s_can_join) l7 e7 k7
  have b7 := F7.binds (ps := ["piece", "after"]) fun _ _ _ _ _ _ us hl => match us, hl with | [_, _], _ => rfl
  have G_can_join : GF K mg "can_join" s_can_join ["piece", "after"] := ⟨_, _, PySem.W.mg_of X G a7, F7, b7⟩
  have F8 := fun_mk (st := s_joined_piece) l8 e8 k8
  have b8 := F8.binds (ps := ["piece", "after"]) fun _ _ _ _ _ _ us hl => match us, hl with | [_, _], _ => rfl
  have G_joined_piece : GF K mg "joined_piece" s_joined_piece ["piece", "after"] := ⟨_, _, PySem.W.mg_of X G a8, F8, b8⟩
  have F9 := fun_mk (st := s_length_of) l9 e9 k9
  have b9 := F9.binds (ps := ["piece"]) fun _ _ _ _ _ _ us hl => match us, hl with | [_], _ => rfl
  have G_length_of : GF K mg "length_of" s_length_of ["piece"] := ⟨_, _, PySem.W.mg_of X G a9, F9, b9⟩
  have F10 := fun_mk (st := s_tidied) l10 e10 k10
  have b10 := F10.binds (ps := ["pieces"]) fun _ _ _ _ _ _ us hl => match us, hl with | [_], _ => rfl
  have G_tidied : GF K mg "tidied" s_tidied ["pieces"] := ⟨_, _, PySem.W.mg_of X G a10, F10, b10⟩
  have F11 := fun_mk (st := s_Editor___init__) l11 e11 k11
  have b11 := F11.binds (ps := ["self", "contents"]) fun _ _ _ _ _ _ us hl => match us, hl with | [_, _], _ => rfl
  have G_Editor___init__ : GI K mg "Editor" "Editor.__init__" s_Editor___init__ ["self", "contents"] := ⟨_, _, _, PySem.W.mg_of X G c1_Editor, ⟨mk_Editor, a11, i11, kp_Editor⟩, F11, b11⟩
  have F12 := fun_mk (st := s_law_of_origins) l12 e12 k12
  have b12 := F12.binds (ps := ["_law_base", "_law_origins"]) fun _ _ _ _ _ _ us hl => match us, hl with | [_, _], _ => rfl
  have G_law_of_origins : GF K mg "_law_of_origins" s_law_of_origins ["_law_base", "_law_origins"] := ⟨_, _, PySem.W.mg_of X G a12, F12, b12⟩
  have F13 := fun_mk (st := s_law_pieces) l13 e13 k13
  have b13 := F13.binds (ps := ["_law_origins"]) fun _ _ _ _ _ _ us hl => match us, hl with | [_], _ => rfl
  have G_law_pieces : GF K mg "_law_pieces" s_law_pieces ["_law_origins"] := ⟨_, _, PySem.W.mg_of X G a13, F13, b13⟩
  have F14 := fun_mk (st := s_law_alikeB) l14 e14 k14
  have b14 := F14.binds (ps := ["_law_told", "_law_due"]) fun _ _ _ _ _ _ us hl => match us, hl with | [_, _], _ => rfl
  have G_law_alikeB : GF K mg "_law_alike" s_law_alikeB ["_law_told", "_law_due"] := ⟨_, _, PySem.W.mg_of X G a14, F14, b14⟩
  have F15 := fun_mk (st := s_Editor___len__) l15 e15 k15
  have b15 := F15.binds (ps := ["self"]) fun _ _ _ _ _ _ us hl => match us, hl with | [_], _ => rfl
  have G_Editor___len__ : GM K mg "Editor" "__len__" "Editor.__len__" s_Editor___len__ ["self"] := ⟨_, _, _, PySem.W.mg_of X G c1_Editor, ⟨pg_Editor, hd_Editor, po_Editor, sa_Editor⟩, ⟨a15, i15, k15⟩, F15, b15⟩
  have F16 := fun_mk (st := s_Editor_pieces) l16 e16 k16
  have b16 := F16.binds (ps := ["self"]) fun _ _ _ _ _ _ us hl => match us, hl with | [_], _ => rfl
  have G_Editor_pieces : GP K mg "Editor" "pieces" "Editor.pieces" s_Editor_pieces ["self"] := ⟨_, _, _, _, PySem.W.mg_of X G c1_Editor, ⟨pg_Editor, hd_Editor, po_Editor, sa_Editor⟩, ⟨a16, pg16, pt16, ⟨_, pr16⟩⟩, F16, b16⟩
  have F17 := fun_mk (st := s_Editor_contents) l17 e17 k17
  have b17 := F17.binds (ps := ["self"]) fun _ _ _ _ _ _ us hl => match us, hl with | [_], _ => rfl
  have G_Editor_contents : GP K mg "Editor" "contents" "Editor.contents" s_Editor_contents ["self"] := ⟨_, _, _, _, PySem.W.mg_of X G c1_Editor, ⟨pg_Editor, hd_Editor, po_Editor, sa_Editor⟩, ⟨a17, pg17, pt17, ⟨_, pr17⟩⟩, F17, b17⟩
  have F18 := fun_mk (st := s_edits_of) l18 e18 k18
  have b18 := F18.binds (ps := ["pieces", "length"]) fun _ _ _ _ _ _ us hl => match us, hl with | [_, _], _ => rfl
  have G_edits_of : GF K mg "edits_of" s_edits_of ["pieces", "length"] := ⟨_, _, PySem.W.mg_of X G a18, F18, b18⟩
  have F19 := fun_mk (st := s_Editor_edits) l19 e19 k19
  have b19 := F19.binds (ps := ["self"]) fun _ _ _ _ _ _ us hl => match us, hl with | [_], _ => rfl
  have G_Editor_edits : GP K mg "Editor" "edits" "Editor.edits" s_Editor_edits ["self"] := ⟨_, _, _, _, PySem.W.mg_of X G c1_Editor, ⟨pg_Editor, hd_Editor, po_Editor, sa_Editor⟩, ⟨a19, pg19, pt19, ⟨_, pr19⟩⟩, F19, b19⟩
  have F20 := fun_mk (st := s_Editor___iter__) l20 e20 k20
  have b20 := F20.binds (ps := ["self"]) fun _ _ _ _ _ _ us hl => match us, hl with | [_], _ => rfl
  have G_Editor___iter__ : GM K mg "Editor" "__iter__" "Editor.__iter__" s_Editor___iter__ ["self"] := ⟨_, _, _, PySem.W.mg_of X G c1_Editor, ⟨pg_Editor, hd_Editor, po_Editor, sa_Editor⟩, ⟨a20, i20, k20⟩, F20, b20⟩
  have F21 := fun_mk (st := s_law_edits_of) l21 e21 k21
  have b21 := F21.binds (ps := ["_law_base", "_law_pieces_here"]) fun _ _ _ _ _ _ us hl => match us, hl with | [_, _], _ => rfl
  have G_law_edits_of : GF K mg "_law_edits_of" s_law_edits_of ["_law_base", "_law_pieces_here"] := ⟨_, _, PySem.W.mg_of X G a21, F21, b21⟩
  have F22 := fun_mk (st := s_law_rightB) l22 e22 k22
  have b22 := F22.binds (ps := ["_law_editor", "_law_base", "_law_origins"]) fun _ _ _ _ _ _ us hl => match us, hl with | [_, _, _], _ => rfl
  have G_law_rightB : GF K mg "_law_right" s_law_rightB ["_law_editor", "_law_base", "_law_origins"] := ⟨_, _, PySem.W.mg_of X G a22, F22, b22⟩
  have F23 := fun_mk (st := s_law_place) l23 e23 k23
  have b23 := F23.binds (ps := ["_law_tape_here", "_law_size"]) fun _ _ _ _ _ _ us hl => match us, hl with | [_, _], _ => rfl
  have G_law_place : GF K mg "_law_place" s_law_place ["_law_tape_here", "_law_size"] := ⟨_, _, PySem.W.mg_of X G a23, F23, b23⟩
  have F24 := fun_mk (st := s_described) l24 e24 k24
  have b24 := F24.binds (ps := ["pieces", "base"]) fun _ _ _ _ _ _ us hl => match us, hl with | [_, _], _ => rfl
  have G_described : GF K mg "described" s_described ["pieces", "base"] := ⟨_, _, PySem.W.mg_of X G a24, F24, b24⟩
  have F25 := fun_mk (st := s_Editor__become) l25 e25 k25
  have b25 := F25.binds (ps := ["self", "pieces"]) fun _ _ _ _ _ _ us hl => match us, hl with | [_, _], _ => rfl
  have G_Editor__become : GM K mg "Editor" "_become" "Editor._become" s_Editor__become ["self", "pieces"] := ⟨_, _, _, PySem.W.mg_of X G c1_Editor, ⟨pg_Editor, hd_Editor, po_Editor, sa_Editor⟩, ⟨a25, i25, k25⟩, F25, b25⟩
  have F26 := fun_mk (st := s_check_count) l26 e26 k26
  have b26 := F26.binds (ps := ["count"]) fun _ _ _ _ _ _ us hl => match us, hl with | [_], _ => rfl
  have G_check_count : GF K mg "check_count" s_check_count ["count"] := ⟨_, _, PySem.W.mg_of X G a26, F26, b26⟩
  have F27 := fun_mk (st := s_piece_part) l27 e27 k27
  have b27 := F27.binds (ps := ["piece", "start", "end"]) fun _ _ _ _ _ _ us hl => match us, hl with | [_, _, _], _ => rfl
  have G_piece_part : GF K mg "piece_part" s_piece_part ["piece", "start", "end"] := ⟨_, _, PySem.W.mg_of X G a27, F27, b27⟩
  have F28 := fun_mk (st := s_pieces_part) l28 e28 k28
  have b28 := F28.binds (ps := ["pieces", "start", "end"]) fun _ _ _ _ _ _ us hl => match us, hl with | [_, _, _], _ => rfl
  have G_pieces_part : GF K mg "pieces_part" s_pieces_part ["pieces", "start", "end"] := ⟨_, _, PySem.W.mg_of X G a28, F28, b28⟩
  have F29 := fun_mk (st := s_Editor_replace_range) l29 e29 k29
  have b29 := F29.binds (ps := ["self", "start", "end", "inserted"]) fun _ _ _ _ _ _ us hl => match us, hl with | [_, _, _, _], _ => rfl
  have G_Editor_replace_range : GM K mg "Editor" "replace_range" "Editor.replace_range" s_Editor_replace_range ["self", "start", "end", "inserted"] := ⟨_, _, _, PySem.W.mg_of X G c1_Editor, ⟨pg_Editor, hd_Editor, po_Editor, sa_Editor⟩, ⟨a29, i29, k29⟩, F29, b29⟩
  have F30 := fun_mk (st := s_law_replaceB) l30 e30 k30
  have b30 := F30.binds (ps := ["_law_editor", "_law_start", "_law_end", "_law_inserted"]) fun _ _ _ _ _ _ us hl => match us, hl with | [_, _, _, _], _ => rfl
  have G_law_replaceB : GF K mg "_law_replace" s_law_replaceB ["_law_editor", "_law_start", "_law_end", "_law_inserted"] := ⟨_, _, PySem.W.mg_of X G a30, F30, b30⟩
  have F31 := fun_mk (st := s_law) l31 e31 k31
  have b31 := F31.binds (ps := ["_law_script"]) fun _ _ _ _ _ _ us hl => match us, hl with | [_], _ => rfl
  have G_law : GF K mg "law" s_law ["_law_script"] := ⟨_, _, PySem.W.mg_of X G a31, F31, b31⟩
  have n_int : mg "int" = none := PySem.W.mg_none_of X G z_int
  have n_abs : mg "abs" = none := PySem.W.mg_none_of X G z_abs
  have n_list : mg "list" = none := PySem.W.mg_none_of X G z_list
  have n_len : mg "len" = none := PySem.W.mg_none_of X G z_len
  have n_max : mg "max" = none := PySem.W.mg_none_of X G z_max
  have n_range : mg "range" = none := PySem.W.mg_none_of X G z_range
  have n_tuple : mg "tuple" = none := PySem.W.mg_none_of X G z_tuple
  have F_Editor__base : FldF K mg "Editor" "_base" := ⟨_, PySem.W.mg_of X G c1_Editor, ⟨pg_Editor, hd_Editor, po_Editor, sa_Editor⟩, nf_Editor__base⟩
  have F_Editor__contents : FldF K mg "Editor" "_contents" := ⟨_, PySem.W.mg_of X G c1_Editor, ⟨pg_Editor, hd_Editor, po_Editor, sa_Editor⟩, nf_Editor__contents⟩
  have F_Editor__pieces : FldF K mg "Editor" "_pieces" := ⟨_, PySem.W.mg_of X G c1_Editor, ⟨pg_Editor, hd_Editor, po_Editor, sa_Editor⟩, nf_Editor__pieces⟩
  have F_Editor__undoable : FldF K mg "Editor" "_undoable" := ⟨_, PySem.W.mg_of X G c1_Editor, ⟨pg_Editor, hd_Editor, po_Editor, sa_Editor⟩, nf_Editor__undoable⟩
  have F_Editor__redoable : FldF K mg "Editor" "_redoable" := ⟨_, PySem.W.mg_of X G c1_Editor, ⟨pg_Editor, hd_Editor, po_Editor, sa_Editor⟩, nf_Editor__redoable⟩
  have n_isinstance : mg "isinstance" = none := PySem.W.mg_none_of X G z_isinstance
  have n_str : mg "str" = none := PySem.W.mg_none_of X G z_str
  have n_bool : mg "bool" = none := PySem.W.mg_none_of X G z_bool
  have n_iter : mg "iter" = none := PySem.W.mg_none_of X G z_iter
  have g_MOST_ELEMENTS : ∃ u, mg "MOST_ELEMENTS" = some (.int 2000 u) := ⟨_, PySem.W.mg_of X G z_MOST_ELEMENTS⟩
  have S_TooManyElements : PySem.SupX.SupTxt P K mg "TooManyElements" "count" "too many elements" C_TooManyElements I_TooManyElements := { fok := by first | exact Or.inl rfl | exact Or.inr rfl, gC := PySem.W.mg_of X G c1_TooManyElements, cls := ⟨_, _, _, _, _, _, _, _, _, _, _, _, _, _, _, xL_TooManyElements, by first | rfl | decide +kernel⟩, sa := sa_TooManyElements, ga := ga_TooManyElements, gg := gg_TooManyElements, noN := nb_TooManyElements, iC := a1_TooManyElements, tC := t1_TooManyElements, kC := kC_TooManyElements, exC := eC_TooManyElements, tyC := tC_TooManyElements, hdC := hC_TooManyElements, sup := su_TooManyElements, veC := ve_TooManyElements, slf := sf_TooManyElements, third := z_third, nosup := PySem.W.mg_none_of X G z_super, top := z_top, fn := ⟨_, _, _, _, _, _, _, _, _, _, _, _, _, _, _, _, _, _, _, _, _, _, l1_TooManyElements, e1_TooManyElements, fun env => ⟨_, rfl⟩, ⟨_, _, _, ce_TooManyElements⟩, _, _, _, _, _, _, co_TooManyElements, v2_TooManyElements, fi_TooManyElements⟩ }
  have n_min : mg "min" = none := PySem.W.mg_none_of X G z_min
  have S_IndexOutOfRange : PySem.SupX.SupTxt P K mg "IndexOutOfRange" "place" "index out of range" C_IndexOutOfRange I_IndexOutOfRange := { fok := by first | exact Or.inl rfl | exact Or.inr rfl, gC := PySem.W.mg_of X G c1_IndexOutOfRange, cls := ⟨_, _, _, _, _, _, _, _, _, _, _, _, _, _, _, xL_IndexOutOfRange, by first | rfl | decide +kernel⟩, sa := sa_IndexOutOfRange, ga := ga_IndexOutOfRange, gg := gg_IndexOutOfRange, noN := nb_IndexOutOfRange, iC := a1_IndexOutOfRange, tC := t1_IndexOutOfRange, kC := kC_IndexOutOfRange, exC := eC_IndexOutOfRange, tyC := tC_IndexOutOfRange, hdC := hC_IndexOutOfRange, sup := su_IndexOutOfRange, veC := ve_IndexOutOfRange, slf := sf_IndexOutOfRange, third := z_third, nosup := PySem.W.mg_none_of X G z_super, top := z_top, fn := ⟨_, _, _, _, _, _, _, _, _, _, _, _, _, _, _, _, _, _, _, _, _, _, l1_IndexOutOfRange, e1_IndexOutOfRange, fun env => ⟨_, rfl⟩, ⟨_, _, _, ce_IndexOutOfRange⟩, _, _, _, _, _, _, co_IndexOutOfRange, v2_IndexOutOfRange, fi_IndexOutOfRange⟩ }
  have X_IndexOutOfRange : ClsX K C_IndexOutOfRange ∧ PySem.W.exmOne K (.ref C_IndexOutOfRange) (.ref C_IndexOutOfRange) = some true := ⟨⟨iC_IndexOutOfRange, ga_IndexOutOfRange, gg_IndexOutOfRange, eC_IndexOutOfRange, hC_IndexOutOfRange, hk_IndexOutOfRange, hs_IndexOutOfRange, ht_IndexOutOfRange, hm_IndexOutOfRange⟩, PySem.W.exm_ref eC_IndexOutOfRange hC_IndexOutOfRange tC_IndexOutOfRange sC_IndexOutOfRange⟩
  have K_IndexOutOfRange_ShapeError := kk_IndexOutOfRange_ShapeError
  have gc_ShapeError : mg "ShapeError" = some (.ref C_ShapeError) := PySem.W.mg_of X G c1_ShapeError
  have K_IndexOutOfRange_ValueError := kk_IndexOutOfRange_ValueError
  have n_ValueError : mg "ValueError" = none := PySem.W.mg_none_of X G z_ValueError
  have K_IndexOutOfRange_TooManyElements := kk_IndexOutOfRange_TooManyElements
  have gc_TooManyElements : mg "TooManyElements" = some (.ref C_TooManyElements) := PySem.W.mg_of X G c1_TooManyElements
  have X_TooManyElements : ClsX K C_TooManyElements ∧ PySem.W.exmOne K (.ref C_TooManyElements) (.ref C_TooManyElements) = some true := ⟨⟨iC_TooManyElements, ga_TooManyElements, gg_TooManyElements, eC_TooManyElements, hC_TooManyElements, hk_TooManyElements, hs_TooManyElements, ht_TooManyElements, hm_TooManyElements⟩, PySem.W.exm_ref eC_TooManyElements hC_TooManyElements tC_TooManyElements sC_TooManyElements⟩
  have K_TooManyElements_ShapeError := kk_TooManyElements_ShapeError
  have K_TooManyElements_ValueError := kk_TooManyElements_ValueError
  have K_TooManyElements_IndexOutOfRange := kk_TooManyElements_IndexOutOfRange
  have gc_IndexOutOfRange : mg "IndexOutOfRange" = some (.ref C_IndexOutOfRange) := PySem.W.mg_of X G c1_IndexOutOfRange
  have E_TooManyElements_IndexOutOfRange := PySem.W.exm_ref eC_IndexOutOfRange hC_IndexOutOfRange tC_IndexOutOfRange ee_TooManyElements_IndexOutOfRange
  have e := hfa.symm.trans (PySem.W.mg_of X G a31)
  cases e
  refine ⟨PySem.W.fnOf "law" "law" (defArgs s_law) (defBody s_law) (defScope s_law) .none kV31 dc31 pm31 an31 cd31 ct31, fun s v => .of_eq rfl, fun base _ _ => ?_⟩
  have C_law_tape : Cal P w K mg base "_law_tape" 1 m_law_tape := c_law_tape G_law_tape n_int n_abs n_list
  have C_law_draw : Cal P w K mg base "_law_draw" 1 m_law_draw := c_law_draw G_law_draw n_len n_int n_abs n_max
  have C_law_scalarB : Cal P w K mg base "_law_scalar" 2 m_law_scalarB := c_law_scalarB G_law_scalarB C_law_draw n_range
  have C_law_elementB : Cal P w K mg base "_law_element" 3 m_law_elementB := c_law_elementB G_law_elementB C_law_draw C_law_scalarB
  have C_law_pool : Cal P w K mg base "_law_pool" 4 m_law_pool := c_law_pool G_law_pool C_law_draw C_law_elementB n_range
  have C_law_contents : Cal P w K mg base "_law_contents" 2 m_law_contents := c_law_contents G_law_contents C_law_draw n_range n_tuple n_int n_len
  have C_can_join : Cal P w K mg base "can_join" 1 m_can_join := c_can_join G_can_join
  have C_joined_piece : Cal P w K mg base "joined_piece" 1 m_joined_piece := c_joined_piece G_joined_piece
  have C_length_of : Cal P w K mg base "length_of" 1 m_length_of := c_length_of G_length_of n_len
  have C_tidied : Cal P w K mg base "tidied" 2 m_tidied := c_tidied G_tidied C_can_join C_joined_piece C_length_of n_tuple
  have C_Editor___init__ : CalI P w K mg base "Editor" 3 m_Editor___init__ := c_Editor___init__ G_Editor___init__ C_tidied F_Editor__base F_Editor__contents n_len F_Editor__pieces F_Editor__undoable F_Editor__redoable
  have C_law_of_origins : Cal P w K mg base "_law_of_origins" 1 m_law_of_origins := c_law_of_origins G_law_of_origins n_isinstance n_int n_tuple
  have C_law_pieces : Cal P w K mg base "_law_pieces" 1 m_law_pieces := c_law_pieces G_law_pieces n_len n_isinstance n_int n_tuple
  have C_law_alikeB : Cal P w K mg base "_law_alike" 40 (m_law_alikeB 40) := (c_law_alikeB G_law_alikeB n_isinstance n_tuple n_len n_range n_str n_int n_bool 40)
  have C_Editor___len__ : CalM P w K mg base "Editor" "__len__" 1 m_Editor___len__ := c_Editor___len__ G_Editor___len__ F_Editor__contents n_len
  have C_Editor_pieces : CalP P w K mg base "Editor" "pieces" 1 m_Editor_pieces := c_Editor_pieces G_Editor_pieces F_Editor__pieces
  have C_Editor_contents : CalP P w K mg base "Editor" "contents" 1 m_Editor_contents := c_Editor_contents G_Editor_contents F_Editor__contents
  have C_edits_of : Cal P w K mg base "edits_of" 1 m_edits_of := c_edits_of G_edits_of n_tuple
  have C_Editor_edits : CalP P w K mg base "Editor" "edits" 2 m_Editor_edits := c_Editor_edits G_Editor_edits C_edits_of F_Editor__base n_len F_Editor__pieces
  have C_Editor___iter__ : CalIt P w K mg base "Editor" "_contents" 1  := c_Editor___iter__ G_Editor___iter__ F_Editor__contents n_iter
  have C_law_edits_of : Cal P w K mg base "_law_edits_of" 1 m_law_edits_of := c_law_edits_of G_law_edits_of n_len n_tuple
  have C_law_rightB : Cal P w K mg base "_law_right" 41 m_law_rightB := c_law_rightB G_law_rightB C_law_of_origins C_law_pieces C_law_edits_of C_Editor_edits C_Editor_contents C_Editor_pieces C_law_alikeB C_Editor___iter__ C_Editor___len__ n_list n_tuple n_len
  have C_law_place : Cal P w K mg base "_law_place" 2 m_law_place := c_law_place G_law_place C_law_draw
  have C_described : Cal P w K mg base "described" 1 m_described := c_described G_described n_tuple
  have C_Editor__become : CalM P w K mg base "Editor" "_become" 2 m_Editor__become := c_Editor__become G_Editor__become C_described F_Editor__pieces F_Editor__base F_Editor__contents
  have C_check_count : Cal P w K mg base "check_count" 1 m_check_count := c_check_count G_check_count g_MOST_ELEMENTS S_TooManyElements
  have C_piece_part : Cal P w K mg base "piece_part" 1 m_piece_part := c_piece_part G_piece_part
  have C_pieces_part : Cal P w K mg base "pieces_part" 2 m_pieces_part := c_pieces_part G_pieces_part C_length_of C_piece_part n_max n_min
  have C_Editor_replace_range : CalM P w K mg base "Editor" "replace_range" 3 m_Editor_replace_range := c_Editor_replace_range G_Editor_replace_range C_check_count C_pieces_part C_Editor__become C_tidied F_Editor__contents n_len S_IndexOutOfRange F_Editor__pieces F_Editor__undoable F_Editor__redoable
  have C_law_replaceB : Cal P w K mg base "_law_replace" 4 m_law_replaceB := c_law_replaceB G_law_replaceB C_Editor_replace_range X_IndexOutOfRange S_IndexOutOfRange K_IndexOutOfRange_ShapeError n_isinstance gc_ShapeError K_IndexOutOfRange_ValueError n_ValueError K_IndexOutOfRange_TooManyElements gc_TooManyElements X_TooManyElements S_TooManyElements K_TooManyElements_ShapeError K_TooManyElements_ValueError K_TooManyElements_IndexOutOfRange gc_IndexOutOfRange E_TooManyElements_IndexOutOfRange
  exact fn_ok F31 sc_law (c_law_body C_law_tape C_law_pool C_law_contents C_law_draw C_Editor___init__ C_law_rightB C_law_place C_law_replaceB C_law_alikeB n_tuple n_range n_len n_list n_int n_min)
end Law
open PySem PySem.W PyProof.Rows
theorem PySem.Challenge.cw_sameshape_k71_replacing_in_an_editor_holds : PySem.Challenge.rw_sameshape_k71_replacing_in_an_editor.Holds := by
  w_on; o_law; k_head; (case hw => w_witness2)
  k_fill
  refine ML.law_end (l := PySem.Challenge.rw_sameshape_k71_replacing_in_an_editor) (k := 42) (x := "_law_script") (m := Law.m_law) rfl rfl ⟨rfl, by decide, by decide⟩ (fun w h Y => PySem.W.kIn_of Y) Law.law_true ?F
  case F =>
    intro w mg fa h KX G hmg
    refine' Law.all_mk KX G hmg ?a1 ?l1 ?e1 ?k1 ?a2 ?l2 ?e2 ?k2 ?a3 ?l3 ?e3 ?k3 ?a4 ?l4 ?e4 ?k4 ?a5 ?l5 ?e5 ?k5 ?a6 ?l6 ?e6 ?k6 ?a7 ?l7 ?e7 ?k7 ?a8 ?l8 ?e8 ?k8 ?a9 ?l9 ?e9 ?k9 ?a10 ?l10 ?e10 ?k10 ?c1_Editor ?pg_Editor ?hd_Editor ?po_Editor ?sa_Editor ?mk_Editor ?kp_Editor ?a11 ?l11 ?e11 ?k11 ?i11 ?a12 ?l12 ?e12 ?k12 ?a13 ?l13 ?e13 ?k13 ?a14 ?l14 ?e14 ?k14 ?a15 ?l15 ?e15 ?k15 ?i15 ?a16 ?pg16 ?pt16 ?pr16 ?l16 ?e16 ?k16 ?a17 ?pg17 ?pt17 ?pr17 ?l17 ?e17 ?k17 ?a18 ?l18 ?e18 ?k18 ?a19 ?pg19 ?pt19 ?pr19 ?l19 ?e19 ?k19 ?a20 ?l20 ?e20 ?k20 ?i20 ?a21 ?l21 ?e21 ?k21 ?a22 ?l22 ?e22 ?k22 ?a23 ?l23 ?e23 ?k23 ?a24 ?l24 ?e24 ?k24 ?a25 ?l25 ?e25 ?k25 ?i25 ?a26 ?l26 ?e26 ?k26 ?a27 ?l27 ?e27 ?k27 ?a28 ?l28 ?e28 ?k28 ?a29 ?l29 ?e29 ?k29 ?i29 ?a30 ?l30 ?e30 ?k30 ?a31 ?l31 ?e31 ?k31 ?z_int ?z_abs ?z_list ?z_len ?z_max ?z_range ?z_tuple ?nf_Editor__base ?nf_Editor__contents ?nf_Editor__pieces ?nf_Editor__undoable ?nf_Editor__redoable ?z_isinstance ?z_str ?z_bool ?z_iter ?z_MOST_ELEMENTS ?z_min ?z_ValueError ?z_third ?z_super ?z_top ?c1_TooManyElements ?xL_TooManyElements ?sa_TooManyElements ?nb_TooManyElements ?a1_TooManyElements ?t1_TooManyElements ?su_TooManyElements ?ve_TooManyElements ?sf_TooManyElements ?l1_TooManyElements ?e1_TooManyElements ?ce_TooManyElements ?co_TooManyElements ?v2_TooManyElements ?fi_TooManyElements ?ga_TooManyElements ?gg_TooManyElements ?hC_TooManyElements ?kC_TooManyElements ?eC_TooManyElements ?tC_TooManyElements ?iC_TooManyElements ?hk_TooManyElements ?hs_TooManyElements ?ht_TooManyElements ?hm_TooManyElements ?sC_TooManyElements ?c1_IndexOutOfRange ?xL_IndexOutOfRange ?sa_IndexOutOfRange ?nb_IndexOutOfRange ?a1_IndexOutOfRange ?t1_IndexOutOfRange ?su_IndexOutOfRange ?ve_IndexOutOfRange ?sf_IndexOutOfRange ?l1_IndexOutOfRange ?e1_IndexOutOfRange ?ce_IndexOutOfRange ?co_IndexOutOfRange ?v2_IndexOutOfRange ?fi_IndexOutOfRange ?ga_IndexOutOfRange ?gg_IndexOutOfRange ?hC_IndexOutOfRange ?kC_IndexOutOfRange ?eC_IndexOutOfRange ?tC_IndexOutOfRange ?iC_IndexOutOfRange ?hk_IndexOutOfRange ?hs_IndexOutOfRange ?ht_IndexOutOfRange ?hm_IndexOutOfRange ?sC_IndexOutOfRange ?c1_ShapeError ?kk_IndexOutOfRange_ShapeError ?kk_IndexOutOfRange_ValueError ?kk_IndexOutOfRange_TooManyElements ?kk_TooManyElements_ShapeError ?kk_TooManyElements_ValueError ?kk_TooManyElements_IndexOutOfRange ?ee_TooManyElements_IndexOutOfRange
    (case a1 => k_is); (case l1 => k_is); (case e1 => k_is); (case k1 => k_is); (case a2 => k_is); (case l2 => k_is); (case e2 => k_is); (case k2 => k_is); (case a3 => k_is); (case l3 => k_is); (case e3 => k_is); (case k3 => k_is); (case a4 => k_is); (case l4 => k_is); (case e4 => k_is); (case k4 => k_is); (case a5 => k_is); (case l5 => k_is); (case e5 => k_is); (case k5 => k_is); (case a6 => k_is); (case l6 => k_is); (case e6 => k_is); (case k6 => k_is); (case a7 => k_is); (case l7 => k_is); (case e7 => k_is); (case k7 => k_is); (case a8 => k_is); (case l8 => k_is); (case e8 => k_is); (case k8 => k_is); (case a9 => k_is); (case l9 => k_is); (case e9 => k_is); (case k9 => k_is); (case a10 => k_is); (case l10 => k_is); (case e10 => k_is); (case k10 => k_is); (case c1_Editor => k_is); (case pg_Editor => k_is); (case hd_Editor => k_is); (case po_Editor => k_is); (case sa_Editor => k_is); (case mk_Editor => k_is); (case kp_Editor => k_is); (case a11 => k_is); (case l11 => k_is); (case e11 => k_is); (case k11 => k_is); (case i11 => k_is); (case a12 => k_is); (case l12 => k_is); (case e12 => k_is); (case k12 => k_is); (case a13 => k_is); (case l13 => k_is); (case e13 => k_is); (case k13 => k_is); (case a14 => k_is); (case l14 => k_is); (case e14 => k_is); (case k14 => k_is); (case a15 => k_is); (case l15 => k_is); (case e15 => k_is); (case k15 => k_is); (case i15 => k_is); (case a16 => k_is); (case pg16 => k_is); (case pt16 => k_is); (case pr16 => k_is); (case l16 => k_is); (case e16 => k_is); (case k16 => k_is); (case a17 => k_is); (case pg17 => k_is); (case pt17 => k_is); (case pr17 => k_is); (case l17 => k_is); (case e17 => k_is); (case k17 => k_is); (case a18 => k_is); (case l18 => k_is); (case e18 => k_is); (case k18 => k_is); (case a19 => k_is); (case pg19 => k_is); (case pt19 => k_is); (case pr19 => k_is); (case l19 => k_is); (case e19 => k_is); (case k19 => k_is); (case a20 => k_is); (case l20 => k_is); (case e20 => k_is); (case k20 => k_is); (case i20 => k_is); (case a21 => k_is); (case l21 => k_is); (case e21 => k_is); (case k21 => k_is); (case a22 => k_is); (case l22 => k_is); (case e22 => k_is); (case k22 => k_is); (case a23 => k_is); (case l23 => k_is); (case e23 => k_is); (case k23 => k_is); (case a24 => k_is); (case l24 => k_is); (case e24 => k_is); (case k24 => k_is); (case a25 => k_is); (case l25 => k_is); (case e25 => k_is); (case k25 => k_is); (case i25 => k_is); (case a26 => k_is); (case l26 => k_is); (case e26 => k_is); (case k26 => k_is); (case a27 => k_is); (case l27 => k_is); (case e27 => k_is); (case k27 => k_is); (case a28 => k_is); (case l28 => k_is); (case e28 => k_is); (case k28 => k_is); (case a29 => k_is); (case l29 => k_is); (case e29 => k_is); (case k29 => k_is); (case i29 => k_is); (case a30 => k_is); (case l30 => k_is); (case e30 => k_is); (case k30 => k_is); (case a31 => k_is); (case l31 => k_is); (case e31 => k_is); (case k31 => k_is); (case z_int => k_is); (case z_abs => k_is); (case z_list => k_is); (case z_len => k_is); (case z_max => k_is); (case z_range => k_is); (case z_tuple => k_is); (case nf_Editor__base => k_is); (case nf_Editor__contents => k_is); (case nf_Editor__pieces => k_is); (case nf_Editor__undoable => k_is); (case nf_Editor__redoable => k_is); (case z_isinstance => k_is); (case z_str => k_is); (case z_bool => k_is); (case z_iter => k_is); (case z_MOST_ELEMENTS => k_is); (case z_min => k_is); (case z_ValueError => k_is); (case z_third => k_is); (case z_super => k_is); (case z_top => first | rfl | decide +kernel); (case c1_TooManyElements => k_is); (case xL_TooManyElements => k_is); (case sa_TooManyElements => k_is); (case nb_TooManyElements => k_is); (case a1_TooManyElements => k_is); (case t1_TooManyElements => k_is); (case su_TooManyElements => ks_is); (case ve_TooManyElements => k_is); (case sf_TooManyElements => k_is); (case l1_TooManyElements => k_is); (case e1_TooManyElements => k_is); (case ce_TooManyElements => k_is); (case co_TooManyElements => k_is); (case v2_TooManyElements => rfl); (case fi_TooManyElements => first | rfl | decide +kernel); (case ga_TooManyElements => k_is); (case gg_TooManyElements => k_is); (case hC_TooManyElements => k_is); (case kC_TooManyElements => k_is); (case eC_TooManyElements => k_is); (case tC_TooManyElements => k_is); (case iC_TooManyElements => k_is); (case hk_TooManyElements => k_is); (case hs_TooManyElements => k_is); (case ht_TooManyElements => k_is); (case hm_TooManyElements => k_is); (case sC_TooManyElements => first | rfl | k_is); (case c1_IndexOutOfRange => k_is); (case xL_IndexOutOfRange => k_is); (case sa_IndexOutOfRange => k_is); (case nb_IndexOutOfRange => k_is); (case a1_IndexOutOfRange => k_is); (case t1_IndexOutOfRange => k_is); (case su_IndexOutOfRange => ks_is); (case ve_IndexOutOfRange => k_is); (case sf_IndexOutOfRange => k_is); (case l1_IndexOutOfRange => k_is); (case e1_IndexOutOfRange => k_is); (case ce_IndexOutOfRange => k_is); (case co_IndexOutOfRange => k_is); (case v2_IndexOutOfRange => rfl); (case fi_IndexOutOfRange => first | rfl | decide +kernel); (case ga_IndexOutOfRange => k_is); (case gg_IndexOutOfRange => k_is); (case hC_IndexOutOfRange => k_is); (case kC_IndexOutOfRange => k_is); (case eC_IndexOutOfRange => k_is); (case tC_IndexOutOfRange => k_is); (case iC_IndexOutOfRange => k_is); (case hk_IndexOutOfRange => k_is); (case hs_IndexOutOfRange => k_is); (case ht_IndexOutOfRange => k_is); (case hm_IndexOutOfRange => k_is); (case sC_IndexOutOfRange => first | rfl | k_is); (case c1_ShapeError => k_is); (case kk_IndexOutOfRange_ShapeError => first | k_is | rfl); (case kk_IndexOutOfRange_ValueError => first | k_is | rfl); (case kk_IndexOutOfRange_TooManyElements => first | k_is | rfl); (case kk_TooManyElements_ShapeError => first | k_is | rfl); (case kk_TooManyElements_ValueError => first | k_is | rfl); (case kk_TooManyElements_IndexOutOfRange => first | k_is | rfl); (case ee_TooManyElements_IndexOutOfRange => first | k_is | rfl)
