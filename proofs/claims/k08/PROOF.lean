import PyProof.Rows.All
import HandS.ForMost
import HandS.ForExc
import HandS.Flow
import KE.KDictKeyed
import KE.KDictWalk
import KE.SortData
import KE.DataCmp
import PyProof.Rows.InDataRows
import HandS.TupAny
import HandS.Iter
import HandS.Zip
import HandS.Comp
import HandS.IsInst
import HandS.ExcIs
import HandS.ExcOwn
import HandS.TryOnly
import HandS.TupMul
import HandS.Style
import KE.GoesMore
import KE.KDictDisplayH
import HandS.TupSets
import KE.KTupSum
import KE.DataMinMax
import KE.KDictSum
import PyProof.Transfer
import PySem.Challenge.RW_tilefloor_k08_whole_roads
set_option Elab.async false
set_option linter.all false
set_option maxRecDepth 100000
/-! DLa: data values, the abstract store, the simulation, what an outcome means. -/
namespace DL
open PySem PySem.Spec PyProof.Rows L2

/-- a value: pure data; a mutable object of the store; a def; the script -/
inductive D where
  | p (d : PyData) | r (i : Nat) | f (i : Nat) | s (ns : List Int)
instance : Inhabited D := ⟨.p .none⟩
/-- a mutable object -/
inductive AO where
  | dead | lst (ds : List D) | dct (kvs : List (PyData × D))
abbrev AH := List AO
/-- an outcome -/
inductive R (α : Type) where
  | ok (a : α) (h : AH) | ex (c : Nat) (h : AH) | bad
def R.bind {α β : Type} (x : R α) (k : α → AH → R β) : R β :=
  match x with
  | .ok a h => k a h
  | .ex c h => .ex c h
  | .bad => .bad
@[simp] theorem R.bind_ok {α β : Type} (a : α) (h : AH) (k : α → AH → R β) : (R.ok a h).bind k = k a h := rfl
@[simp] theorem R.bind_ex {α β : Type} (c : Nat) (h : AH) (k : α → AH → R β) : (R.ex c h).bind k = .ex c h := rfl
@[simp] theorem R.bind_bad {α β : Type} (k : α → AH → R β) : (R.bad : R α).bind k = .bad := rfl

/-! ### keys -/
mutual
def nk : PyData → NestedKey
  | .none => .none
  | .bool b => .num (if b then 1 else 0)
  | .int i => .num i
  | .str x => .text x
  | .list _ => .none
  | .tuple xs => .tup (nks xs)
  | .dict _ => .none
def nks : List PyData → List NestedKey
  | [] => []
  | x :: xs => nk x :: nks xs
end
mutual
/-- ints, texts, None, tuples of such -/
def keyable : PyData → Bool
  | .none => true
  | .bool _ => false
  | .int _ => true
  | .str _ => true
  | .list _ => false
  | .tuple xs => keyables xs
  | .dict _ => false
def keyables : List PyData → Bool
  | [] => true
  | x :: xs => keyable x && keyables xs
end
def isTup : PyData → Bool
  | .tuple _ => true
  | _ => false
/-- may be a dict's key here -/
def keyOk (d : PyData) : Bool := isTup d && keyable d && decide ((nk d).depth ≤ 8)

/-! ### what stands where -/
/-- what a def's number means, what a class's number means -/
structure Tw where
  P : Program
  w : World
/-- G: lists that a comprehension is making: no value reads them -/
structure Tb where
  B : Tw
  K : PySem.W.Frag
  ct : Nat → Addr
  ft : Nat → Addr
  sa : Addr
  G : List Addr
/-- the dict's own object -/
def DRaw (B : Tw) (H : Hp) (a : Addr) (xs : List (NestedKey × Addr × V)) : Prop :=
  ∃ (o : Obj) (es : Array DictEntry) (ep : Nat) (ys : List (NestedKey × Addr × Value)), H a = some (.ext fun h => h.get? a = some o) ∧ o.ExactDict ∧ o.data = .dict es ep ∧
    es.toList = ys.map (entryOfKey (nestedKind B.P B.w)) ∧ (ys.map (·.1)).Nodup ∧ (a == sysModules) = false ∧ xs.length ≤ sizeLine ∧
    Paired (fun (x : NestedKey × Addr × V) (y : NestedKey × Addr × Value) => x.1 = y.1 ∧ x.2.1 = y.2.1 ∧ RelV x.2.2 y.2.2) xs ys
mutual
/-- pure data: L, what is not pure -/
inductive Pd (B : Tw) (L : Addr → Prop) (H : Hp) : V → PyData → Prop
  | non : Pd B L H .non .none
  | bl (b : Bool) : Pd B L H (.bl b) (.bool b)
  | int (i : Int) : Pd B L H (.int i) (.int i)
  | str (x : Str) : Pd B L H (.str x) (.str x)
  | lst {a : Addr} {xs : List V} {ds : List PyData} : ¬ L a → H a = some (.lst xs) → PdA B L H xs ds → Pd B L H (.ref a) (.list ds)
  | tup {a : Addr} {xs : List V} {ds : List PyData} : ¬ L a → H a = some (.tup xs) → PdA B L H xs ds → Pd B L H (.ref a) (.tuple ds)
  | dct {a : Addr} {xs : List (NestedKey × Addr × V)} {kvs : List (PyData × PyData)} : ¬ L a → DRaw B H a xs → PdK B L H xs kvs → Pd B L H (.ref a) (.dict kvs)
inductive PdA (B : Tw) (L : Addr → Prop) (H : Hp) : List V → List PyData → Prop
  | nil : PdA B L H [] []
  | cons {v : V} {vs : List V} {d : PyData} {ds : List PyData} : Pd B L H v d → PdA B L H vs ds → PdA B L H (v :: vs) (d :: ds)
inductive PdK (B : Tw) (L : Addr → Prop) (H : Hp) : List (NestedKey × Addr × V) → List (PyData × PyData) → Prop
  | nil : PdK B L H [] []
  | cons {x : NestedKey × Addr × V} {xs : List (NestedKey × Addr × V)} {k v : PyData} {kvs : List (PyData × PyData)} : x.1 = nk k → keyOk k = true → Pd B L H (.ref x.2.1) k → Pd B L H x.2.2 v → PdK B L H xs kvs →
      PdK B L H (x :: xs) ((k, v) :: kvs)
end
/-- a is a mutable object of the store -/
def Live (m : List Addr) (ah : AH) (a : Addr) : Prop := ∃ i : Nat, m[i]? = some a ∧ ah[i]? ≠ some AO.dead
/-- a list of the module's own -/
def KSq (K : PySem.W.Frag) (a : Addr) (xs : List V) : Prop :=
  ∃ (o : Obj) (its : Array Value) (n : Nat), K.lookup a = some o ∧ o.cls = .type "list" ∧ o.dict = none ∧ o.data = .seq its n ∧ its.size ≤ sizeLine ∧ Vals xs its.toList
def LV (T : Tb) (m : List Addr) (ah : AH) (a : Addr) : Prop := Live m ah a ∨ a ∈ T.G
def RD (T : Tb) (m : List Addr) (ah : AH) (H : Hp) (v : V) : D → Prop
  | .p d => Pd T.B (LV T m ah) H v d
  | .r i => ∃ a, m[i]? = some a ∧ v = .ref a
  | .f i => v = .ref (T.ft i)
  | .s ns => v = .ref T.sa ∧ ((¬ LV T m ah T.sa ∧ Rd H T.sa (.lst (ns.map V.int))) ∨ KSq T.K T.sa (ns.map V.int))
/-- an entry of a dict -/
def RKv (T : Tb) (m : List Addr) (ah : AH) (H : Hp) (x : NestedKey × Addr × V) (kv : PyData × D) : Prop :=
  x.1 = nk kv.1 ∧ keyOk kv.1 = true ∧ Pd T.B (LV T m ah) H (.ref x.2.1) kv.1 ∧ RD T m ah H x.2.2 kv.2
def ORel (T : Tb) (m : List Addr) (ah : AH) (H : Hp) (a : Addr) : AO → Prop
  | .dead => True
  | .lst ds => ∃ vs, H a = some (.lst vs) ∧ Paired (RD T m ah H) vs ds
  | .dct kvs => ∃ xs, DRaw T.B H a xs ∧ Paired (RKv T m ah H) xs kvs
structure Sim (T : Tb) (m : List Addr) (ah : AH) (H : Hp) : Prop where
  len : m.length = ah.length
  nd : m.Nodup
  trk : ∀ (i : Nat) (a : Addr), m[i]? = some a → H a ≠ none
  gs : ∀ a ∈ T.G, H a ≠ none ∧ a ∉ m
  at_ : ∀ (i : Nat) (a : Addr) (o : AO), m[i]? = some a → ah[i]? = some o → ORel T m ah H a o
/-- what stays -/
structure Ext (m : List Addr) (ah : AH) (H : Hp) (m' : List Addr) (ah' : AH) (H' : Hp) : Prop where
  pre : ∃ t, m' = m ++ t ∧ ∀ a ∈ t, H a = none
  dead : ∀ (i : Nat), ah[i]? = some AO.dead → ah'[i]? = some AO.dead
  keep : ∀ (a : Addr) (o : HO), H a = some o → ¬ Live m ah a → H' a = some o

section
variable {T : Tb} {m m' m1 : List Addr} {ah ah' ah1 : AH} {H H' H1 : Hp}
theorem Ext.refl : Ext m ah H m ah H := ⟨⟨[], by simp, by simp⟩, fun _ h => h, fun _ _ h _ => h⟩
theorem Ext.at_ (E : Ext m ah H m' ah' H') {i : Nat} {a : Addr} (h : m[i]? = some a) : m'[i]? = some a := by
  obtain ⟨t, rfl, _⟩ := E.pre
  rw [List.getElem?_append_left (List.getElem?_eq_some_iff.mp h).1]
  exact h
/-- what was tracked and not live is not live -/
theorem Ext.notLive (E : Ext m ah H m' ah' H') (hl : m.length = ah.length) {a : Addr} (ht : H a ≠ none) (n : ¬ Live m ah a) : ¬ Live m' ah' a := by
  rintro ⟨i, h1, h2⟩
  obtain ⟨t, rfl, hf⟩ := E.pre
  by_cases hi : i < m.length
  · rw [List.getElem?_append_left hi] at h1
    refine n ⟨i, h1, fun z => h2 (E.dead i z)⟩
  · rw [List.getElem?_append_right (by omega)] at h1
    exact ht (hf a (List.mem_of_getElem? h1))
theorem Rd.trk {a : Addr} {u : HO} (r : Rd H a u) : H a ≠ none := by
  rcases r with h | ⟨o, h⟩ <;> rw [h] <;> simp
theorem Rd.ext (E : Ext m ah H m' ah' H') {a : Addr} {u : HO} (n : ¬ Live m ah a) (r : Rd H a u) : Rd H' a u := by
  rcases r with h | ⟨o, h⟩
  · exact .inl (E.keep a _ h n)
  · exact .inr ⟨o, E.keep a _ h n⟩
theorem DRaw.trk {B : Tw} {a : Addr} {xs : List (NestedKey × Addr × V)} (r : DRaw B H a xs) : H a ≠ none := by
  obtain ⟨_, _, _, _, h, _⟩ := r
  rw [h]; simp
theorem DRaw.of_eq {B : Tw} {a : Addr} {xs : List (NestedKey × Addr × V)} (r : DRaw B H a xs) (k : ∀ o, H a = some o → H' a = some o) : DRaw B H' a xs := by
  obtain ⟨o, es, ep, ys, h, q⟩ := r
  exact ⟨o, es, ep, ys, k _ h, q⟩
theorem Ext.notLV (E : Ext m ah H m' ah' H') (hl : m.length = ah.length) {a : Addr} (ht : H a ≠ none) (n : ¬ LV T m ah a) : ¬ LV T m' ah' a := fun h => h.elim (fun q => E.notLive hl ht (fun z => n (.inl z)) q) fun q => n (.inr q)
theorem Ext.kept (E : Ext m ah H m' ah' H') {a : Addr} {o : HO} (h : H a = some o) (n : ¬ LV T m ah a) : H' a = some o := E.keep a o h fun z => n (.inl z)
mutual
theorem Pd.mono {B : Tw} {L L' : Addr → Prop} (hk : ∀ a o, H a = some o → ¬ L a → H' a = some o) (hL : ∀ a, H a ≠ none → ¬ L a → ¬ L' a) : ∀ (d : PyData) (v : V), Pd B L H v d → Pd B L' H' v d
  | .none, _, h => by cases h; exact .non
  | .bool _, _, h => by cases h; exact .bl _
  | .int _, _, h => by cases h; exact .int _
  | .str _, _, h => by cases h; exact .str _
  | .list ds, _, h => by
    cases h with
    | lst n r a => exact .lst (hL _ (by rw [r]; simp) n) (hk _ _ r n) (PdA.mono hk hL ds _ a)
  | .tuple ds, _, h => by
    cases h with
    | tup n r a => exact .tup (hL _ (by rw [r]; simp) n) (hk _ _ r n) (PdA.mono hk hL ds _ a)
  | .dict kvs, _, h => by
    cases h with
    | dct n r a => exact .dct (hL _ (DRaw.trk r) n) (DRaw.of_eq r fun o q => hk _ _ q n) (PdK.mono hk hL kvs _ a)
theorem PdA.mono {B : Tw} {L L' : Addr → Prop} (hk : ∀ a o, H a = some o → ¬ L a → H' a = some o) (hL : ∀ a, H a ≠ none → ¬ L a → ¬ L' a) : ∀ (ds : List PyData) (vs : List V), PdA B L H vs ds → PdA B L' H' vs ds
  | [], _, h => by cases h; exact .nil
  | d :: ds, _, h => by
    cases h with
    | cons h1 h2 => exact .cons (Pd.mono hk hL d _ h1) (PdA.mono hk hL ds _ h2)
theorem PdK.mono {B : Tw} {L L' : Addr → Prop} (hk : ∀ a o, H a = some o → ¬ L a → H' a = some o) (hL : ∀ a, H a ≠ none → ¬ L a → ¬ L' a) : ∀ (kvs : List (PyData × PyData)) (xs : List (NestedKey × Addr × V)), PdK B L H xs kvs → PdK B L' H' xs kvs
  | [], _, h => by cases h; exact .nil
  | (k, v) :: kvs, _, h => by
    cases h with
    | cons h1 h2 h3 h4 h5 => exact .cons h1 h2 (Pd.mono hk hL k _ h3) (Pd.mono hk hL v _ h4) (PdK.mono hk hL kvs _ h5)
end
theorem Pd.ext (E : Ext m ah H m' ah' H') (hl : m.length = ah.length) (d : PyData) (v : V) (h : Pd T.B (LV T m ah) H v d) : Pd T.B (LV T m' ah') H' v d := Pd.mono (fun _ _ q n => E.kept q n) (fun _ q n => E.notLV hl q n) d v h
theorem PdA.ext (E : Ext m ah H m' ah' H') (hl : m.length = ah.length) (d : List PyData) (v : List V) (h : PdA T.B (LV T m ah) H v d) : PdA T.B (LV T m' ah') H' v d := PdA.mono (fun _ _ q n => E.kept q n) (fun _ q n => E.notLV hl q n) d v h
theorem PdK.ext (E : Ext m ah H m' ah' H') (hl : m.length = ah.length) (d : List (PyData × PyData)) (v : List (NestedKey × Addr × V)) (h : PdK T.B (LV T m ah) H v d) : PdK T.B (LV T m' ah') H' v d := PdK.mono (fun _ _ q n => E.kept q n) (fun _ q n => E.notLV hl q n) d v h
theorem RD.ext (E : Ext m ah H m' ah' H') (hl : m.length = ah.length) {v : V} {d : D} (h : RD T m ah H v d) : RD T m' ah' H' v d := by
  cases d with
  | p d => exact Pd.ext E hl d v h
  | r i => obtain ⟨a, h1, h2⟩ := h; exact ⟨a, E.at_ h1, h2⟩
  | f i => exact h
  | s ns =>
    obtain ⟨h1, h2⟩ := h
    refine ⟨h1, ?_⟩
    rcases h2 with ⟨n, r⟩ | r
    · exact .inl ⟨E.notLV hl (Rd.trk r) n, Rd.ext E (fun z => n (.inl z)) r⟩
    · exact .inr r
theorem RKv.ext (E : Ext m ah H m' ah' H') (hl : m.length = ah.length) {x : NestedKey × Addr × V} {kv : PyData × D} (h : RKv T m ah H x kv) : RKv T m' ah' H' x kv :=
  ⟨h.1, h.2.1, Pd.ext E hl _ _ h.2.2.1, RD.ext E hl h.2.2.2⟩
theorem Paired.mapR {α β : Type} {F G : α → β → Prop} {l₁ : List α} {l₂ : List β} (h : Paired F l₁ l₂) (f : ∀ a b, F a b → G a b) : Paired G l₁ l₂ := L2.Paired.mapP h f
theorem Ext.trans (E1 : Ext m ah H m1 ah1 H1) (E2 : Ext m1 ah1 H1 m' ah' H') (hl : m.length = ah.length) (S1 : Sim T m1 ah1 H1) : Ext m ah H m' ah' H' := by
  obtain ⟨t1, rfl, f1⟩ := E1.pre
  obtain ⟨t2, rfl, f2⟩ := E2.pre
  refine ⟨⟨t1 ++ t2, by simp, fun a ha => ?_⟩, fun i h => E2.dead i (E1.dead i h), fun a o h n => E2.keep a o (E1.keep a o h n) (E1.notLive hl (by rw [h]; simp) n)⟩
  rcases List.mem_append.mp ha with q | q
  · exact f1 a q
  · cases e : H a with
    | none => rfl
    | some o =>
      have hn := f2 a q
      by_cases hL : Live m ah a
      · obtain ⟨i, hi, hd⟩ := hL
        exact absurd hn (S1.trk i a (E1.at_ hi))
      · rw [E1.keep a o e hL] at hn; cases hn
/-- the heap alone has grown -/
theorem Ext.grow (k : ∀ a o, H a = some o → H' a = some o) : Ext m ah H m ah H' := ⟨⟨[], by simp, by simp⟩, fun _ h => h, fun a o h _ => k a o h⟩
theorem ORel.same (E : Ext m ah H m' ah' H') (hl : m.length = ah.length) {a : Addr} {o : AO} (k : ∀ u, H a = some u → H' a = some u) (h : ORel T m ah H a o) : ORel T m' ah' H' a o := by
  cases o with
  | dead => trivial
  | lst ds =>
    obtain ⟨vs, h1, h2⟩ := h
    exact ⟨vs, k _ h1, Paired.mapR h2 fun _ _ q => RD.ext E hl q⟩
  | dct kvs =>
    obtain ⟨xs, h1, h2⟩ := h
    exact ⟨xs, h1.of_eq k, Paired.mapR h2 fun _ _ q => RKv.ext E hl q⟩
theorem Sim.grow (S : Sim T m ah H) (k : ∀ a o, H a = some o → H' a = some o) : Sim T m ah H' :=
  ⟨S.len, S.nd, fun i a h => by
    have q := S.trk i a h
    cases e : H a with
    | none => exact absurd e q
    | some o => rw [k a o e]; simp, fun a ha => ⟨by
    have q := (S.gs a ha).1
    cases e : H a with
    | none => exact absurd e q
    | some o => rw [k a o e]; simp, (S.gs a ha).2⟩, fun i a o h1 h2 => (S.at_ i a o h1 h2).same (Ext.grow k) S.len fun u q => k a u q⟩
/-- the places of the store are apart -/
theorem Sim.inj (S : Sim T m ah H) {i j : Nat} {a : Addr} (h1 : m[i]? = some a) (h2 : m[j]? = some a) : i = j :=
  (List.getElem?_inj (List.getElem?_eq_some_iff.mp h1).1 S.nd).mp (h1.trans h2.symm)
/-- a new object of the store -/
theorem grow_upd {p : Addr} {o : HO} (hp : H p = none) : ∀ a u, H a = some u → upd H p o a = some u := fun a u h => by
  rw [upd_ne (ne_of_none h hp)]; exact h
theorem Sim.fresh (S : Sim T m ah H) {p : Addr} (hp : H p = none) : p ∉ m := fun h => by
  obtain ⟨i, hi⟩ := List.getElem?_of_mem h
  exact S.trk i p hi hp
theorem Ext.new (S : Sim T m ah H) {p : Addr} {o : HO} {x : AO} (hp : H p = none) : Ext m ah H (m ++ [p]) (ah ++ [x]) (upd H p o) :=
  ⟨⟨[p], rfl, fun a ha => by have e : a = p := by simpa using ha
                             rw [e]; exact hp⟩, fun i h => by
    rw [List.getElem?_append_left (List.getElem?_eq_some_iff.mp h).1]; exact h, fun a u h _ => grow_upd hp a u h⟩
theorem Sim.new (S : Sim T m ah H) {p : Addr} {o : HO} {x : AO} (hp : H p = none) (h : ORel T (m ++ [p]) (ah ++ [x]) (upd H p o) p x) : Sim T (m ++ [p]) (ah ++ [x]) (upd H p o) := by
  have E := Ext.new (o := o) (x := x) S hp
  refine ⟨by simp [S.len], ?_, fun i a e => ?_, fun i a => ?_, fun i a u e1 e2 => ?_⟩
  · rw [List.nodup_append]
    refine ⟨S.nd, by simp, fun a ha b hb => ?_⟩
    have e : b = p := by simpa using hb
    rw [e]
    rintro rfl
    exact S.fresh hp ha
  · by_cases hi : i < m.length
    · rw [List.getElem?_append_left hi] at e
      have q := S.trk i a e
      cases z : H a with
      | none => exact absurd z q
      | some u => rw [grow_upd hp a u z]; simp
    · rw [List.getElem?_append_right (by omega)] at e
      have e' : a = p := by
        have := List.mem_of_getElem? e
        simpa using this
      rw [e', upd_same]; simp
  · have q := (S.gs i a).1
    refine ⟨?_, fun z => ?_⟩
    · cases z : H i with
      | none => exact absurd z q
      | some u => rw [grow_upd hp i u z]; simp
    · rcases List.mem_append.mp z with z | z
      · exact (S.gs i a).2 z
      · have e : i = p := by simpa using z
        rw [e] at q
        exact q hp
  · by_cases hi : i < m.length
    · rw [List.getElem?_append_left hi] at e1
      rw [List.getElem?_append_left (by rw [← S.len]; exact hi)] at e2
      exact (S.at_ i a u e1 e2).same E S.len fun z q => grow_upd hp a z q
    · have hj : i = m.length := by
        have := (List.getElem?_eq_some_iff.mp e1).1
        simp at this
        omega
      subst hj
      rw [List.getElem?_append_right (Nat.le_refl _)] at e1
      rw [S.len, List.getElem?_append_right (Nat.le_refl _)] at e2
      simp at e1 e2
      subst e1; subst e2
      exact h
/-- an object of the store is written -/
theorem Ext.write (S : Sim T m ah H) {i : Nat} {a : Addr} {o : HO} {x y : AO} (h1 : m[i]? = some a) (h2 : ah[i]? = some x) (hx : x ≠ .dead) : Ext m ah H m (ah.set i y) (upd H a o) :=
  ⟨⟨[], by simp, by simp⟩, fun j h => by
    by_cases e : i = j
    · subst e; rw [h2] at h; exact absurd (Option.some.inj h) hx
    · rw [List.getElem?_set_ne e]; exact h, fun b u h n => by
    have ne : b ≠ a := by
      rintro rfl
      exact n ⟨i, h1, by rw [h2]; intro z; exact hx (Option.some.inj z)⟩
    rw [upd_ne ne]; exact h⟩
theorem Sim.write (S : Sim T m ah H) {i : Nat} {a : Addr} {o : HO} {x y : AO} (h1 : m[i]? = some a) (h2 : ah[i]? = some x) (hx : x ≠ .dead) (h : ORel T m (ah.set i y) (upd H a o) a y) : Sim T m (ah.set i y) (upd H a o) := by
  have E := Ext.write (o := o) (y := y) S h1 h2 hx
  refine ⟨by simp [S.len], S.nd, fun j b e => ?_, fun b hb => ⟨?_, (S.gs b hb).2⟩, fun j b u e1 e2 => ?_⟩
  · by_cases eb : b = a
    · rw [eb, upd_same]; simp
    · rw [upd_ne eb]; exact S.trk j b e
  · by_cases eb : b = a
    · rw [eb, upd_same]; simp
    · rw [upd_ne eb]; exact (S.gs b hb).1
  · by_cases e : i = j
    · subst e
      rw [h1] at e1; cases e1
      rw [List.getElem?_set_self (List.getElem?_eq_some_iff.mp h2).1] at e2
      cases e2
      exact h
    · rw [List.getElem?_set_ne e] at e2
      have ne : b ≠ a := by
        rintro rfl
        exact e (S.inj h1 e1)
      exact (S.at_ j b u e1 e2).same E S.len fun z q => by rw [upd_ne ne]; exact q
/-- an object of the store is given up: from now on it is pure -/
theorem Ext.kill (S : Sim T m ah H) {i : Nat} : Ext m ah H m (ah.set i .dead) H :=
  ⟨⟨[], by simp, by simp⟩, fun j h => by
    by_cases e : i = j
    · subst e; rw [List.getElem?_set_self (List.getElem?_eq_some_iff.mp h).1]
    · rw [List.getElem?_set_ne e]; exact h, fun _ _ h _ => h⟩
theorem Sim.kill (S : Sim T m ah H) (i : Nat) : Sim T m (ah.set i .dead) H := by
  have E := Ext.kill S (i := i)
  refine ⟨by simp [S.len], S.nd, S.trk, S.gs, fun j b u e1 e2 => ?_⟩
  by_cases e : i = j
  · subst e
    by_cases hi : i < ah.length
    · rw [List.getElem?_set_self hi] at e2; cases e2; trivial
    · rw [List.getElem?_eq_none (by simpa using hi)] at e2; cases e2
  · rw [List.getElem?_set_ne e] at e2
    exact (S.at_ j b u e1 e2).same E S.len fun z q => q
theorem not_live_kill (S : Sim T m ah H) {i : Nat} {a : Addr} (h : m[i]? = some a) : ¬ LV T m (ah.set i .dead) a := by
  rintro (⟨j, h1, h2⟩ | hg)
  case inr => exact (S.gs a hg).2 (List.mem_of_getElem? h)
  have e := S.inj h h1
  subst e
  refine h2 ?_
  rw [List.getElem?_set_self]
  rw [← S.len]
  exact (List.getElem?_eq_some_iff.mp h).1
end

/-! ### slots -/
abbrev DS := List (Option D)
def EnvR (T : Tb) (m : List Addr) (ah : AH) (H : Hp) (σ : L2.St) (σd : DS) : Prop := σ.length = σd.length ∧ ∀ (i : Nat) (d : D), σd[i]? = some (some d) → ∃ v, σ[i]? = some (some v) ∧ RD T m ah H v d
section
variable {T : Tb} {m m' : List Addr} {ah ah' : AH} {H H' : Hp} {σ : L2.St} {σd : DS}
theorem EnvR.ext (E : Ext m ah H m' ah' H') (hl : m.length = ah.length) (h : EnvR T m ah H σ σd) : EnvR T m' ah' H' σ σd :=
  ⟨h.1, fun i d e => let ⟨v, h1, h2⟩ := h.2 i d e; ⟨v, h1, RD.ext E hl h2⟩⟩
theorem EnvR.set (h : EnvR T m ah H σ σd) {v : V} {d : D} (i : Nat) (r : RD T m ah H v d) : EnvR T m ah H (σ.set i (some v)) (σd.set i (some d)) := by
  refine ⟨by simp [h.1], fun j e q => ?_⟩
  by_cases hj : i = j
  · subst hj
    by_cases hi : i < σd.length
    · rw [List.getElem?_set_self hi] at q
      cases q
      exact ⟨v, List.getElem?_set_self (by rw [h.1]; exact hi), r⟩
    · rw [List.getElem?_eq_none (by simpa using hi)] at q; cases q
  · rw [List.getElem?_set_ne hj] at q
    obtain ⟨u, h1, h2⟩ := h.2 j e q
    exact ⟨u, by rw [List.getElem?_set_ne hj]; exact h1, h2⟩
/-- forgetting slots -/
def dwipe (σ : DS) : List Nat → DS
  | [] => σ
  | v :: vs => (dwipe σ vs).set v none
theorem EnvR.wipe (h : EnvR T m ah H σ σd) : ∀ vs : List Nat, EnvR T m ah H (L2.wipe σ vs) (dwipe σd vs)
  | [] => h
  | v :: vs => by
    have ih := EnvR.wipe h vs
    unfold L2.wipe dwipe
    refine ⟨by simp [ih.1], fun j e q => ?_⟩
    by_cases hj : v = j
    · subst hj
      by_cases hi : v < (dwipe σd vs).length
      · rw [List.getElem?_set_self hi] at q; cases q
      · rw [List.getElem?_eq_none (by simpa using hi)] at q; cases q
    · rw [List.getElem?_set_ne hj] at q
      obtain ⟨u, h1, h2⟩ := ih.2 j e q
      exact ⟨u, by rw [List.getElem?_set_ne hj]; exact h1, h2⟩
end

/-! ### what an outcome asks -/
/-- x's outcome, from the state (m, ah, H) on: W, of an exception; P, of a value -/
def Ok {α : Type} (T : Tb) (W : WX) (σ : L2.St) (m : List Addr) (ah : AH) (H : Hp) (x : R α) (P : List Addr → AH → Hp → α → Prop) : Prop :=
  match x with
  | .ok a ah' => ∀ m' H', Ext m ah H m' ah' H' → Sim T m' ah' H' → P m' ah' H' a
  | .ex c ah' => ∀ m' H', Ext m ah H m' ah' H' → Sim T m' ah' H' → W (.ref (T.ct c)) none σ H'
  | .bad => False
section
variable {T : Tb} {W : WX} {m : List Addr} {ah : AH} {H : Hp} {σ : L2.St} {α β : Type}
theorem Ok.bind {x : R α} {k : α → AH → R β} {P : List Addr → AH → Hp → β → Prop} (hl : m.length = ah.length) (h : Ok T W σ m ah H (x.bind k) P) :
    Ok T W σ m ah H x fun m1 ah1 H1 a => Ok T W σ m1 ah1 H1 (k a ah1) P := by
  cases x with
  | bad => exact h
  | ex c ah' => exact h
  | ok a ah' =>
    intro m1 H1 E1 S1
    have h' : Ok T W σ m ah H (k a ah') P := h
    cases e : k a ah' with
    | bad => rw [e] at h'; exact h'
    | ok b ah2 =>
      rw [e] at h'
      exact fun m2 H2 E2 S2 => h' m2 H2 (E1.trans E2 hl S1) S2
    | ex c ah2 =>
      rw [e] at h'
      exact fun m2 H2 E2 S2 => h' m2 H2 (E1.trans E2 hl S1) S2
theorem Ok.mono {x : R α} {P Q : List Addr → AH → Hp → α → Prop} (h : Ok T W σ m ah H x P) (hPQ : ∀ m' ah' H' a, Ext m ah H m' ah' H' → Sim T m' ah' H' → P m' ah' H' a → Q m' ah' H' a) : Ok T W σ m ah H x Q := by
  cases x with
  | bad => exact h
  | ex c ah' => exact h
  | ok a ah' => exact fun m' H' E S => hPQ m' ah' H' a E S (h m' H' E S)
/-- the outcome here -/
theorem Ok.here {a : α} {P : List Addr → AH → Hp → α → Prop} (S : Sim T m ah H) (h : Ok T W σ m ah H (.ok a ah) P) : P m ah H a := h m H Ext.refl S
end
/-- expressions, argument lists, tests as functions of the slots and the store -/
abbrev EF := DS → AH → R D
abbrev AF := DS → AH → R (List D)
abbrev TF := DS → AH → R Bool
def tD (T : Tb) (W : WX) (f : EF) : TE := fun σ H Q => ∃ m ah σd, Sim T m ah H ∧ EnvR T m ah H σ σd ∧ Ok T W σ m ah H (f σd ah) fun m' ah' H' d => ∀ v, RD T m' ah' H' v d → Q v H'
def tA (T : Tb) (W : WX) (f : AF) : TA := fun σ H Q => ∃ m ah σd, Sim T m ah H ∧ EnvR T m ah H σ σd ∧ Ok T W σ m ah H (f σd ah) fun m' ah' H' ds => ∀ vs, Paired (RD T m' ah' H') vs ds → Q vs H'
def tT (T : Tb) (W : WX) (f : TF) : TT := fun σ H Q => ∃ m ah σd, Sim T m ah H ∧ EnvR T m ah H σ σd ∧ Ok T W σ m ah H (f σd ah) fun _ _ H' b => Q b H'
/-- the rules' conclusions -/
structure DE (X : Cx) (T : Tb) (W : WX) (e : Expr) (f : EF) : Prop where
  h : PE X e (tD T W f)
structure DA (X : Cx) (T : Tb) (W : WX) (es : List Expr) (f : AF) : Prop where
  h : PA X es (tA T W f)
structure DT (X : Cx) (T : Tb) (W : WX) (e : Expr) (f : TF) : Prop where
  h : PT X e (tT T W f)
theorem _root_.L2.PE.imp {X : Cx} {e : Expr} {t t' : TE} (h : PE X e t) (i : ∀ σ H Q, t' σ H Q → t σ H Q) : PE X e t' := ⟨fun pins s σ H Q I q => h.run pins s σ H Q I (i σ H Q q)⟩
theorem _root_.L2.PA.imp {X : Cx} {e : List Expr} {t t' : TA} (h : PA X e t) (i : ∀ σ H Q, t' σ H Q → t σ H Q) : PA X e t' := ⟨fun pos pins s σ H Q I q => h.run pos pins s σ H Q I (i σ H Q q)⟩
theorem _root_.L2.PT.imp {X : Cx} {e : Expr} {t t' : TT} (h : PT X e t) (i : ∀ σ H Q, t' σ H Q → t σ H Q) : PT X e t' := ⟨fun pins s σ H Q I q => h.run pins s σ H Q I (i σ H Q q)⟩
/-- two in a row -/
theorem two {T : Tb} {W : WX} {fa fb : EF} {g : D → D → AH → R D} {σ : L2.St} {H : Hp} {Q : VK} {r : R2} (h : tD T W (fun σ ah => (fa σ ah).bind fun d ah1 => (fb σ ah1).bind fun e ah2 => g d e ah2) σ H Q)
    (step : ∀ m ah H d e x y, Sim T m ah H → RD T m ah H x d → RD T m ah H y e → (Ok T W σ m ah H (g d e ah) fun m' ah' H' d => ∀ v, RD T m' ah' H' v d → Q v H') → r x y H Q) : tOp r (tD T W fa) (tD T W fb) σ H Q := by
  obtain ⟨m, ah, σd, S, En, h⟩ := h
  refine ⟨m, ah, σd, S, En, (Ok.bind S.len h).mono fun m1 ah1 H1 d E1 S1 h1 x rx => ?_⟩
  refine ⟨m1, ah1, σd, S1, En.ext E1 S.len, (Ok.bind S1.len h1).mono fun m2 ah2 H2 e E2 S2 h2 y ry => ?_⟩
  exact step m2 ah2 H2 d e x y S2 (RD.ext E2 S1.len rx) ry h2
theorem one {T : Tb} {W : WX} {fa : EF} {g : D → AH → R D} {σ : L2.St} {H : Hp} {Q : VK} {r : V → Hp → VK → Prop} (h : tD T W (fun σ ah => (fa σ ah).bind fun d ah1 => g d ah1) σ H Q)
    (step : ∀ m ah H d x, Sim T m ah H → RD T m ah H x d → (Ok T W σ m ah H (g d ah) fun m' ah' H' d => ∀ v, RD T m' ah' H' v d → Q v H') → r x H Q) : tUn r (tD T W fa) σ H Q := by
  obtain ⟨m, ah, σd, S, En, h⟩ := h
  exact ⟨m, ah, σd, S, En, (Ok.bind S.len h).mono fun m1 ah1 H1 d E1 S1 h1 x rx => step m1 ah1 H1 d x S1 rx h1⟩
theorem many {T : Tb} {W : WX} {fa : AF} {g : List D → AH → R D} {σ : L2.St} {H : Hp} {Q : VK} {r : List V → Hp → VK → Prop} (h : tD T W (fun σ ah => (fa σ ah).bind fun d ah1 => g d ah1) σ H Q)
    (step : ∀ m ah H ds xs, Sim T m ah H → Paired (RD T m ah H) xs ds → (Ok T W σ m ah H (g ds ah) fun m' ah' H' d => ∀ v, RD T m' ah' H' v d → Q v H') → r xs H Q) : tCB r (tA T W fa) σ H Q := by
  obtain ⟨m, ah, σd, S, En, h⟩ := h
  exact ⟨m, ah, σd, S, En, (Ok.bind S.len h).mono fun m1 ah1 H1 d E1 S1 h1 x rx => step m1 ah1 H1 d x S1 rx h1⟩
end DL

set_option Elab.async false
set_option linter.all false
set_option maxRecDepth 100000
/-! DLb: operations on values. -/
namespace DL
open PySem PySem.Spec PyProof.Rows L2

/-- the context is that of the table; there is room -/
structure TX (X : Cx) (T : Tb) : Prop where
  P : T.B.P = X.prog
  w : T.B.w = X.w
  K : T.K = X.K
  calm : X.calm = true
  un : X.A.units + 200 < cLine
abbrev OkV (T : Tb) (W : WX) (σ : L2.St) (m : List Addr) (ah : AH) (H : Hp) (x : R D) (Q : VK) : Prop := Ok T W σ m ah H x fun m' ah' H' d => ∀ v, RD T m' ah' H' v d → Q v H'
section
variable {T : Tb} {W : WX} {σ : L2.St} {m : List Addr} {ah : AH} {H : Hp} {Q : VK}
theorem OkV.p {d : PyData} {v : V} (S : Sim T m ah H) (h : OkV T W σ m ah H (.ok (.p d) ah) Q) (r : Pd T.B (LV T m ah) H v d) : Q v H := h m H Ext.refl S v r
theorem OkV.int {i : Int} (S : Sim T m ah H) (h : OkV T W σ m ah H (.ok (.p (.int i)) ah) Q) : Q (.int i) H := h.p S (.int i)
theorem OkV.bl {b : Bool} (S : Sim T m ah H) (h : OkV T W σ m ah H (.ok (.p (.bool b)) ah) Q) : Q (.bl b) H := h.p S (.bl b)
theorem OkV.str {x : Str} (S : Sim T m ah H) (h : OkV T W σ m ah H (.ok (.p (.str x)) ah) Q) : Q (.str x) H := h.p S (.str x)
theorem OkV.non (S : Sim T m ah H) (h : OkV T W σ m ah H (.ok (.p .none) ah) Q) : Q .non H := h.p S .non
theorem OkV.d {d : D} {v : V} (S : Sim T m ah H) (h : OkV T W σ m ah H (.ok d ah) Q) (r : RD T m ah H v d) : Q v H := h m H Ext.refl S v r
theorem notLive_fresh (S : Sim T m ah H) {p : Addr} (hp : H p = none) : ¬ LV T m ah p := fun h => h.elim (fun ⟨i, h, _⟩ => S.fresh hp (List.mem_of_getElem? h)) fun h => (S.gs p h).1 hp
theorem OkV.tup {ds : List PyData} {vs : List V} {p : Addr} (S : Sim T m ah H) (h : OkV T W σ m ah H (.ok (.p (.tuple ds)) ah) Q) (a : PdA T.B (LV T m ah) H vs ds) (hp : H p = none) : Q (.ref p) (upd H p (.tup vs)) :=
  h m _ (Ext.grow (grow_upd hp)) (S.grow (grow_upd hp)) _ (.tup (notLive_fresh S hp) upd_same (PdA.ext (Ext.grow (grow_upd hp)) S.len ds vs a))
theorem OkV.lst {ds : List PyData} {vs : List V} {p : Addr} (S : Sim T m ah H) (h : OkV T W σ m ah H (.ok (.p (.list ds)) ah) Q) (a : PdA T.B (LV T m ah) H vs ds) (hp : H p = none) : Q (.ref p) (upd H p (.lst vs)) :=
  h m _ (Ext.grow (grow_upd hp)) (S.grow (grow_upd hp)) _ (.lst (notLive_fresh S hp) upd_same (PdA.ext (Ext.grow (grow_upd hp)) S.len ds vs a))
/-- a new mutable list -/
theorem OkV.newL {ds : List D} {vs : List V} {p : Addr} (S : Sim T m ah H) (h : OkV T W σ m ah H (.ok (.r ah.length) (ah ++ [.lst ds])) Q) (a : Paired (RD T m ah H) vs ds) (hp : H p = none) : Q (.ref p) (upd H p (.lst vs)) := by
  refine h (m ++ [p]) _ (Ext.new S hp) (S.new hp ⟨vs, upd_same, Paired.mapR a fun _ _ q => RD.ext (Ext.new S hp) S.len q⟩) _ ⟨p, ?_, rfl⟩
  rw [← S.len, List.getElem?_append_right (Nat.le_refl _)]
  simp
end

/-! ### data of a value -/
def pures : List D → Option (List PyData)
  | [] => some []
  | .p d :: r => (pures r).map (d :: ·)
  | _ :: _ => none
theorem pures_pd {T : Tb} {m : List Addr} {ah : AH} {H : Hp} : ∀ {vs : List V} {ds : List D} {xs : List PyData}, Paired (RD T m ah H) vs ds → pures ds = some xs → PdA T.B (LV T m ah) H vs xs
  | _, [], _, .nil, e => by cases e; exact .nil
  | _, .p d :: r, _, .cons h t, e => by
    unfold pures at e
    cases q : pures r with
    | none => rw [q] at e; cases e
    | some ys => rw [q] at e; cases e; exact .cons h (pures_pd t q)
  | _, .r _ :: _, _, _, e => by cases e
  | _, .f _ :: _, _, _, e => by cases e
  | _, .s _ :: _, _, _, e => by cases e
@[simp] theorem pures_map (xs : List PyData) : pures (xs.map .p) = some xs := by
  induction xs with
  | nil => rfl
  | cons x r ih => simp [pures, ih]
theorem pd_pures {T : Tb} {m : List Addr} {ah : AH} {H : Hp} : ∀ {vs : List V} {xs : List PyData}, PdA T.B (LV T m ah) H vs xs → Paired (RD T m ah H) vs (xs.map .p)
  | _, [], .nil => .nil
  | _, _ :: _, .cons h t => .cons h (pd_pures t)
/-- the value as data -/
def dataOf (ah : AH) : D → Option PyData
  | .p d => some d
  | .r i => match ah[i]? with
    | some (.lst ds) => (pures ds).map .list
    | _ => none
  | .s ns => some (.list (ns.map .int))
  | .f _ => none
mutual
theorem Pd.dp {T : Tb} {L : Addr → Prop} {H : Hp} : ∀ (d : PyData) (v : V), Pd T.B L H v d → d.canLay0 = true → Dp T.K H v d
  | .none, _, h, _ => by cases h; exact .non
  | .bool _, _, h, _ => by cases h; exact .bl _
  | .int _, _, h, _ => by cases h; exact .int _
  | .str _, _, h, _ => by cases h; exact .str _
  | .list ds, _, h, c => by
    cases h with
    | lst n r a => exact .lst (SqL.of r) (PdA.dp ds _ a (by simpa [PyData.canLay0] using c))
  | .tuple ds, _, h, c => by
    cases h with
    | tup n r a => exact .tup (SqT.of r) (PdA.dp ds _ a (by simpa [PyData.canLay0] using c))
  | .dict _, _, _, c => by simp [PyData.canLay0] at c
theorem PdA.dp {T : Tb} {L : Addr → Prop} {H : Hp} : ∀ (ds : List PyData) (vs : List V), PdA T.B L H vs ds → PyData.canLayAll0 ds = true → DpAll T.K H vs ds
  | [], _, h, _ => by cases h; exact .nil
  | d :: ds, _, h, c => by
    cases h with
    | cons h1 h2 =>
      simp only [PyData.canLayAll0, Bool.and_eq_true] at c
      exact .cons (Pd.dp d _ h1 c.1) (PdA.dp ds _ h2 c.2)
end
theorem dpAll_ints {K : PySem.W.Frag} {H : Hp} : ∀ ns : List Int, DpAll K H (ns.map V.int) (ns.map .int)
  | [] => .nil
  | n :: r => .cons (.int n) (dpAll_ints r)
theorem shaped_lay {d : PyData} (h : SeqAt.shaped d = true) : d.canLay0 = true ∧ d.depth ≤ 64 := by
  unfold SeqAt.shaped at h
  rw [Bool.and_eq_true, decide_eq_true_eq] at h
  exact h
theorem data_dp {T : Tb} {m : List Addr} {ah : AH} {H : Hp} (S : Sim T m ah H) {v : V} {d : D} {a : PyData} (r : RD T m ah H v d) (e : dataOf ah d = some a) (c : a.canLay0 = true) : Dp T.K H v a := by
  cases d with
  | p x => cases e; exact Pd.dp _ _ r c
  | r i =>
    obtain ⟨b, h1, rfl⟩ := r
    unfold dataOf at e
    cases q : ah[i]? with
    | none => simp only [q] at e; cases e
    | some o =>
      simp only [q] at e
      cases o with
      | dead => cases e
      | dct _ => cases e
      | lst ds =>
        obtain ⟨xs, hx, rfl⟩ := Option.map_eq_some_iff.mp e
        obtain ⟨vs, g1, g2⟩ := S.at_ i b _ h1 q
        exact .lst (SqL.of g1) (PdA.dp xs _ (pures_pd g2 hx) (by simpa [PyData.canLay0] using c))
  | f i => cases e
  | s ns =>
    obtain ⟨rfl, h⟩ := r
    cases e
    refine .lst ?_ (dpAll_ints ns)
    rcases h with ⟨_, h⟩ | h
    · exact .inl h
    · exact .inr h

theorem dataOf_r {ah : AH} {i : Nat} {a : PyData} (h : dataOf ah (.r i) = some a) : ∃ ds xs, ah[i]? = some (.lst ds) ∧ pures ds = some xs ∧ a = .list xs := by
  unfold dataOf at h
  cases q : ah[i]? with
  | none => simp only [q] at h; cases h
  | some o =>
    simp only [q] at h
    cases o with
    | dead => cases h
    | dct _ => cases h
    | lst ds =>
      obtain ⟨xs, hx, rfl⟩ := Option.map_eq_some_iff.mp h
      exact ⟨ds, xs, rfl, hx, rfl⟩
theorem dataOf_str {ah : AH} {d : D} {x : Str} (h : dataOf ah d = some (.str x)) : d = .p (.str x) := by
  cases d with
  | p z => cases h; rfl
  | r i => obtain ⟨_, _, _, _, e⟩ := dataOf_r h; cases e
  | f _ => cases h
  | s _ => cases h

/-! ### two-place operations -/
abbrev G2 := D → D → AH → R D
structure OpD (X : Cx) (T : Tb) (W : WX) (f : Value → Value → Sem Value) (g : G2) : Prop where
  run : ∀ (pins : List (Addr × Obj)) (s : Shared) (σ : L2.St) (H : Hp) (x y : V) (v u : Value) (Q : VK) (m : List Addr) (ah : AH) (d e : D), Inv X pins σ H s → RelV x v → RelV y u → Sim T m ah H → RD T m ah H x d → RD T m ah H y e →
    OkV T W σ m ah H (g d e ah) Q → wpAny (model X.prog X.w) X.A (f v u) (EP X pins σ Q) X.xe s
def f2 (g : G2) (fa fb : EF) : EF := fun σ ah => (fa σ ah).bind fun d ah1 => (fb σ ah1).bind fun e ah2 => g d e ah2
section
variable {X : Cx} {T : Tb} {W : WX} {a b c : Expr} {fa fb fc : EF} {pos : Pos}
/-- two operands, then an operation -/
theorem pairD {g : G2} {f : Value → Value → Sem Value} (o : OpD X T W f g) (ha : DE X T W a fa) (hb : DE X T W b fb) {pins : List (Addr × Obj)} {s : Shared} {σ : L2.St} {H : Hp} {Q : VK} (I : Inv X pins σ H s) (h : tD T W (f2 g fa fb) σ H Q) :
    wpAny (model X.prog X.w) X.A (eval a X.env) (fun v s₁ => wpAny (model X.prog X.w) X.A (eval b X.env) (fun u s₂ => wpAny (model X.prog X.w) X.A (f v u) (EP X pins σ Q) X.xe s₂) X.xe s₁) X.xe s := by
  have h2 : tOp (fun x y H Q => ∃ m ah d e, Sim T m ah H ∧ RD T m ah H x d ∧ RD T m ah H y e ∧ OkV T W σ m ah H (g d e ah) Q) (tD T W fa) (tD T W fb) σ H Q := two h fun m ah H d e x y S r1 r2 q => ⟨m, ah, d, e, S, r1, r2, q⟩
  refine binT ha.h hb.h I h2 fun v u s2 x y H2 I2 rx ry q => ?_
  obtain ⟨m, ah, d, e, S, r1, r2, q⟩ := q
  exact o.run pins s2 σ H2 x y v u Q m ah d e I2 rx ry S r1 r2 q
theorem de_op {op : Operator} {g : G2} (o : OpD X T W (binaryOp op) g) (ha : DE X T W a fa) (hb : DE X T W b fb) : DE X T W (.BinOp a op b pos) (f2 g fa fb) :=
  ⟨⟨fun pins s σ H Q I h => wpAny_BinOp (pairD o ha hb I h)⟩⟩
theorem de_cmp {op : CmpOp} {g : G2} (o : OpD X T W (compareOp op) g) (ha : DE X T W a fa) (hb : DE X T W b fb) (hm : behindInMarks op b = false) : DE X T W (.Compare a [op] [b] pos) (f2 g fa fb) :=
  ⟨⟨fun pins s σ H Q I h => wpAny_Compare1 (pairD o ha hb I h) hm⟩⟩
/-- names and constants -/
def fVar (i : Nat) : EF := fun σ ah => match σ[i]? with
  | some (some d) => .ok d ah
  | _ => .bad
def fC (d : PyData) : EF := fun _ ah => .ok (.p d) ah
theorem de_var {i : Nat} {x : Str} (hN : X.N[i]? = some x) (hv : Vis X.env.scope x) (hd : (x == ("__debug__" : Str)) = false := by decide) (hcd : (x == ("__classdict__" : Str)) = false := by decide) : DE X T W (.Name x pos) (fVar i) := by
  refine ⟨(pe_var hN hv hd hcd).imp fun σ H Q h => ?_⟩
  obtain ⟨m, ah, σd, S, En, h⟩ := h
  unfold fVar at h
  split at h
  · rename_i d e
    obtain ⟨v, h1, h2⟩ := En.2 i d e
    exact ⟨v, h1, OkV.d S h h2⟩
  · exact False.elim h
theorem dv (i : Nat) {x : Str} (hN : X.N[i]? = some x := by rfl) (hv : Vis X.env.scope x := by first | exact .inl rfl | exact .inr (.inl rfl) | exact .inr (.inr rfl)) (hd : (x == ("__debug__" : Str)) = false := by decide) (hcd : (x == ("__classdict__" : Str)) = false := by decide) : DE X T W (.Name x pos) (fVar i) := de_var hN hv hd hcd
theorem de_c {v : V} {d : PyData} {e : Expr} (h : PE X e (tC v)) (r : ∀ (L : Addr → Prop) (H : Hp), Pd T.B L H v d) : DE X T W e (fC d) := by
  refine ⟨h.imp fun σ H Q h => ?_⟩
  obtain ⟨m, ah, σd, S, En, h⟩ := h
  exact OkV.p S h (r _ _)
theorem de_int {i j} : DE X T W (.Constant (.int i) j pos) (fC (.int i)) := de_c pe_int fun _ _ => .int i
theorem de_bl {b j} : DE X T W (.Constant (.bool b) j pos) (fC (.bool b)) := de_c pe_bl fun _ _ => .bl b
theorem de_non {j} : DE X T W (.Constant .none j pos) (fC .none) := de_c pe_non fun _ _ => .non
theorem de_str {x j} : DE X T W (.Constant (.str x) j pos) (fC (.str x)) := de_c pe_str fun _ _ => .str x
theorem de_gint {x : Str} {i : Int} {t : Tok} (hg : Gl X x) (hm : X.mg x = some (.int i t)) (hd : (x == ("__debug__" : Str)) = false := by decide) : DE X T W (.Name x pos) (fC (.int i)) :=
  de_c (pe_glob hg hm (v := .int i) ⟨t, rfl⟩ hd) fun _ _ => .int i
end

/-! ### which operation does what -/
section
variable {X : Cx} {T : Tb} {W : WX}
/-- ints -/
def gII (C : Int → Int → Bool) (k : Int → Int → PyData) : G2 := fun d e ah => match d, e with
  | .p (.int i), .p (.int j) => if C i j = true then .ok (.p (k i j)) ah else .bad
  | _, _ => .bad
theorem opD_ii {f : Value → Value → Sem Value} {C : Int → Int → Bool} {k : Int → Int → PyData} {kv : Int → Int → V} (hk : ∀ i j (L : Addr → Prop) (H : Hp), Pd T.B L H (kv i j) (k i j))
    (h : ∀ (pins : List (Addr × Obj)) (s : Shared) (σ : L2.St) (H : Hp) (i j : Int) (v u : Value) (Q : VK), Inv X pins σ H s → RelV (.int i) v → RelV (.int j) u → C i j = true → Q (kv i j) H → wpAny (model X.prog X.w) X.A (f v u) (EP X pins σ Q) X.xe s) :
    OpD X T W f (gII C k) := by
  refine ⟨fun pins s σ H x y v u Q m ah d e I rx ry S r1 r2 q => ?_⟩
  unfold gII at q
  split at q
  · rename_i i j
    cases r1
    cases r2
    by_cases c : C i j = true
    · rw [if_pos c] at q
      exact h pins s σ H i j v u Q I rx ry c (OkV.p S q (hk i j _ _))
    · rw [if_neg c] at q; exact False.elim q
  · exact False.elim q
def smallB (i : Int) : Bool := decide (-(2 ^ 64) < i ∧ i < 2 ^ 64)
def gMulI : G2 := gII (fun i j => smallB i || smallB j) fun i j => .int (i * j)
def gDiv : G2 := gII (fun _ j => decide (0 < j ∧ j < 1073741824)) fun i j => .int (i / j)
def gMod : G2 := gII (fun _ j => decide (0 < j)) fun i j => .int (i % j)
def gSub : G2 := gII (fun _ _ => true) fun i j => .int (i - j)
def gPow : G2 := gII (fun i j => decide (0 ≤ j ∧ j ≤ 1000000 ∧ i.natAbs < 2 ^ 64)) fun i j => .int (i ^ j.toNat)
theorem od_sub : OpD X T W (binaryOp .Sub) gSub := opD_ii (kv := fun i j => .int (i - j)) (fun _ _ _ _ => .int _) fun pins s σ H i j v u Q I rx ry _ q => op_sub pins s σ H _ _ v u Q I rx ry ⟨i, j, rfl, rfl, q⟩
theorem od_div : OpD X T W (binaryOp .FloorDiv) gDiv := opD_ii (kv := fun i j => .int (i / j)) (fun _ _ _ _ => .int _) fun pins s σ H i j v u Q I rx ry c q => op_fdiv pins s σ H _ _ v u Q I rx ry ⟨i, j, rfl, rfl, (by simpa [CDiv] using c), q⟩
theorem od_mod : OpD X T W (binaryOp .Mod) gMod := opD_ii (kv := fun i j => .int (i % j)) (fun _ _ _ _ => .int _) fun pins s σ H i j v u Q I rx ry c q => op_mod pins s σ H _ _ v u Q I rx ry ⟨i, j, rfl, rfl, of_decide_eq_true c, q⟩
theorem od_pow : OpD X T W (binaryOp .Pow) gPow := opD_ii (kv := fun i j => .int (i ^ j.toNat)) (fun _ _ _ _ => .int _) fun pins s σ H i j v u Q I rx ry c q => op_pow pins s σ H _ _ v u Q I rx ry ⟨i, j, rfl, rfl, (by simpa [CPow] using c), q⟩
theorem od_mulI : OpD X T W (binaryOp .Mult) gMulI := opD_ii (kv := fun i j => .int (i * j)) (fun _ _ _ _ => .int _) fun pins s σ H i j v u Q I rx ry c q => op_mul pins s σ H _ _ v u Q I rx ry ⟨i, j, rfl, rfl, by
  rw [Bool.or_eq_true] at c
  rcases c with c | c
  · exact .inl (of_decide_eq_true c)
  · exact .inr (of_decide_eq_true c), q⟩
/-- a + b -/
def gAdd : G2 := fun d e ah => match d, e with
  | .p (.int i), .p (.int j) => .ok (.p (.int (i + j))) ah
  | .p (.str x), .p (.str y) => if x.length + y.length ≤ 16777216 then .ok (.p (.str (x ++ y))) ah else .bad
  | .p (.list xs), .p (.list ys) => if xs.length + ys.length ≤ 16777216 then .ok (.p (.list (xs ++ ys))) ah else .bad
  | .p (.tuple xs), .p (.tuple ys) => if xs.length + ys.length ≤ 16777216 then .ok (.p (.tuple (xs ++ ys))) ah else .bad
  | _, _ => .bad
theorem PdA.len {B : Tw} {L : Addr → Prop} {H : Hp} : ∀ {vs : List V} {ds : List PyData}, PdA B L H vs ds → vs.length = ds.length
  | _, [], .nil => rfl
  | _, _ :: _, .cons _ t => by simp [PdA.len t]
theorem PdA.app {B : Tw} {L : Addr → Prop} {H : Hp} : ∀ {vs ws : List V} {ds es : List PyData}, PdA B L H vs ds → PdA B L H ws es → PdA B L H (vs ++ ws) (ds ++ es)
  | _, _, [], _, .nil, b => b
  | _, _, _ :: _, _, .cons h t, b => .cons h (PdA.app t b)
theorem od_add : OpD X T W (binaryOp .Add) gAdd := by
  refine ⟨fun pins s σ H x y v u Q m ah d e I rx ry S r1 r2 q => ?_⟩
  unfold gAdd at q
  split at q
  · cases r1; cases r2
    exact op_add pins s σ H _ _ v u Q I rx ry ⟨_, _, rfl, rfl, OkV.int S q⟩
  · rename_i x y
    cases r1; cases r2
    split at q
    · rename_i c
      exact op_add_str pins s σ H _ _ v u Q I rx ry ⟨_, _, rfl, rfl, by rw [sizeLine_eq]; exact c, OkV.str S q⟩
    · exact False.elim q
  · rename_i xs ys
    split at q
    · rename_i c
      cases r1 with
      | lst n1 h1 a1 =>
        cases r2 with
        | lst n2 h2 a2 =>
          refine op_cat pins s σ H _ _ v u Q I rx ry ⟨_, _, _, _, rfl, rfl, h1, h2, by rw [sizeLine_eq, a1.len, a2.len]; exact c, fun p hp => OkV.lst S q (a1.app a2) hp⟩
    · exact False.elim q
  · rename_i xs ys
    split at q
    · rename_i c
      cases r1 with
      | tup n1 h1 a1 =>
        cases r2 with
        | tup n2 h2 a2 =>
          refine op_catA pins s σ H _ _ v u Q I rx ry ⟨_, _, _, _, rfl, rfl, SqT.of h1, SqT.of h2, by rw [sizeLine_eq, a1.len, a2.len]; exact c, fun z => ?_, fun _ z => ?_, fun _ _ p hp => OkV.tup S q (a1.app a2) hp⟩
          · have e : xs = [] := by
              have := a1.len
              rw [z] at this
              exact List.eq_nil_of_length_eq_zero (by simpa using this.symm)
            subst e
            exact OkV.p S q (.tup n2 h2 a2)
          · have e : ys = [] := by
              have := a2.len
              rw [z] at this
              exact List.eq_nil_of_length_eq_zero (by simpa using this.symm)
            subst e
            rw [List.append_nil] at q
            exact OkV.p S q (.tup n1 h1 a1)
    · exact False.elim q
  · exact False.elim q
/-! ### == and the order, of data -/
def gEq : G2 := fun d e ah => match dataOf ah d, dataOf ah e with
  | some a, some b => if SeqAt.shaped a && SeqAt.shaped b then .ok (.p (.bool (PyData.eqv a b))) ah else .bad
  | _, _ => .bad
def gNe : G2 := fun d e ah => match dataOf ah d, dataOf ah e with
  | some a, some b => if SeqAt.shaped a && SeqAt.shaped b then .ok (.p (.bool (!PyData.eqv a b))) ah else .bad
  | _, _ => .bad
theorem data_reads (hT : TX X T) {pins : List (Addr × Obj)} {s : Shared} {σ : L2.St} {H : Hp} {x : V} {v : Value} {m : List Addr} {ah : AH} {d : D} {a : PyData} (I : Inv X pins σ H s) (rx : RelV x v) (S : Sim T m ah H) (r : RD T m ah H x d) (e : dataOf ah d = some a) (c : SeqAt.shaped a = true) : ∃ as, Reads s.heap v a as := by
  have z := data_dp S r e (shaped_lay c).1
  rw [hT.K] at z
  exact Dp.reads I a x v z rx
theorem od_eq (hT : TX X T) : OpD X T W (compareOp .Eq) gEq := by
  refine ⟨fun pins s σ H x y v u Q m ah d e I rx ry S r1 r2 q => ?_⟩
  unfold gEq at q
  split at q
  · rename_i a b e1 e2
    split at q
    · rename_i c
      rw [Bool.and_eq_true] at c
      obtain ⟨_, w1⟩ := data_reads hT I rx S r1 e1 c.1
      obtain ⟨_, w2⟩ := data_reads hT I ry S r2 e2 c.2
      exact SeqAt.compareEq_shaped w1 w2 c.1 c.2 (by have := hT.un; omega) ⟨.bl _, H, I, rfl, OkV.bl S q⟩
    · exact False.elim q
  · exact False.elim q
theorem od_ne (hT : TX X T) : OpD X T W (compareOp .NotEq) gNe := by
  refine ⟨fun pins s σ H x y v u Q m ah d e I rx ry S r1 r2 q => ?_⟩
  unfold gNe at q
  split at q
  · rename_i a b e1 e2
    split at q
    · rename_i c
      rw [Bool.and_eq_true] at c
      obtain ⟨_, w1⟩ := data_reads hT I rx S r1 e1 c.1
      obtain ⟨_, w2⟩ := data_reads hT I ry S r2 e2 c.2
      exact SeqAt.compareNe_shaped w1 w2 c.1 c.2 (by have := hT.un; omega) ⟨.bl _, H, I, rfl, OkV.bl S q⟩
    · exact False.elim q
  · exact False.elim q
def isNone : PyData → Bool
  | .none => true
  | _ => false
def cmpOk (a b : PyData) : Bool := SeqAt.shaped a && SeqAt.shaped b && PySem.W.alike a b && !isNone a
def gOrd (k : PyData → PyData → Bool) : G2 := fun d e ah => match dataOf ah d, dataOf ah e with
  | some a, some b => if cmpOk a b then .ok (.p (.bool (k a b))) ah else .bad
  | _, _ => .bad
theorem od_ord (hT : TX X T) {op : CmpOp} {k : PyData → PyData → Bool}
    (h : ∀ {E : Value → Shared → Prop} {s : Shared} {a b : Value} {da db : PyData} {as bs : List Addr} {Q : Value → Shared → Prop}, Reads s.heap a da as → Reads s.heap b db bs → PySem.W.alike da db = true → da ≠ .none → X.A.units + min da.depth db.depth < cLine → Q (.bool (k da db)) s → wpAny (model X.prog X.w) X.A (compareOp op a b) Q E s) :
    OpD X T W (compareOp op) (gOrd k) := by
  refine ⟨fun pins s σ H x y v u Q m ah d e I rx ry S r1 r2 q => ?_⟩
  unfold gOrd at q
  split at q
  · rename_i a b e1 e2
    split at q
    · rename_i c
      unfold cmpOk at c
      simp only [Bool.and_eq_true] at c
      obtain ⟨⟨⟨c1, c2⟩, c3⟩, c4⟩ := c
      obtain ⟨_, w1⟩ := data_reads hT I rx S r1 e1 c1
      obtain ⟨_, w2⟩ := data_reads hT I ry S r2 e2 c2
      refine h w1 w2 c3 (fun z => by rw [z] at c4; cases c4) ?_ ⟨.bl _, H, I, rfl, OkV.bl S q⟩
      have := hT.un
      have := (shaped_lay c1).2
      have := Nat.min_le_left a.depth b.depth
      omega
    · exact False.elim q
  · exact False.elim q
def gLt : G2 := gOrd PySem.W.dataLt
def gGt : G2 := gOrd fun a b => PySem.W.dataLt b a
def gLe : G2 := gOrd fun a b => !PySem.W.dataLt b a
def gGe : G2 := gOrd fun a b => !PySem.W.dataLt a b
theorem od_lt (hT : TX X T) : OpD X T W (compareOp .Lt) gLt := od_ord hT fun a b c d e f => PySem.W.lt_data a b c d e f
theorem od_gt (hT : TX X T) : OpD X T W (compareOp .Gt) gGt := od_ord hT fun a b c d e f => PySem.W.gt_data a b c d e f
theorem od_le (hT : TX X T) : OpD X T W (compareOp .LtE) gLe := od_ord hT fun a b c d e f => PySem.W.le_data a b c d e f
theorem od_ge (hT : TX X T) : OpD X T W (compareOp .GtE) gGe := od_ord hT fun a b c d e f => PySem.W.ge_data a b c d e f

/-! ### dicts, read -/
mutual
theorem Pd.nested {pins : List (Addr × Obj)} {s : Shared} {σ : L2.St} {H : Hp} {L : Addr → Prop} (I : Inv X pins σ H s) : ∀ (d : PyData) (v : V) (u : Value), Pd T.B L H v d → keyable d = true → RelV v u → NestedIs s.heap (nk d) u
  | .none, _, _, h, _, r => by cases h; cases r; exact .none
  | .bool _, _, _, _, c, _ => by simp [keyable] at c
  | .int _, _, _, h, _, r => by cases h; obtain ⟨t, rfl⟩ := r; exact .int _ _
  | .str _, _, _, h, _, r => by cases h; obtain ⟨t, rfl⟩ := r; exact .text _ _
  | .list _, _, _, _, c, _ => by simp [keyable] at c
  | .dict _, _, _, _, c, _ => by simp [keyable] at c
  | .tuple ds, _, _, h, c, r => by
    cases h with
    | tup n h1 a =>
      cases r
      obtain ⟨its, rv, ⟨o, ho, hc, n2, hd⟩, _⟩ := I.tuple (SqT.of h1)
      exact .tup ho hc hd (PdA.nested I ds _ its a (by simpa [keyable] using c) rv)
theorem PdA.nested {pins : List (Addr × Obj)} {s : Shared} {σ : L2.St} {H : Hp} {L : Addr → Prop} (I : Inv X pins σ H s) : ∀ (ds : List PyData) (vs : List V) (us : List Value), PdA T.B L H vs ds → keyables ds = true → Vals vs us → NestedAll s.heap (nks ds) us
  | [], _, _, h, _, r => by cases h; cases r; exact .nil
  | d :: ds, _, _, h, c, r => by
    cases h with
    | cons h1 h2 =>
      cases r with
      | cons r1 r2 =>
        simp only [keyables, Bool.and_eq_true] at c
        exact .cons (Pd.nested I d _ _ h1 c.1 r1) (PdA.nested I ds _ _ h2 c.2 r2)
end
theorem keyOk_is {pins : List (Addr × Obj)} {s : Shared} {σ : L2.St} {H : Hp} {L : Addr → Prop} {d : PyData} {v : V} (I : Inv X pins σ H s) (h : Pd T.B L H v d) (c : keyOk d = true) : ∃ a, v = .ref a ∧ (nestedKind X.prog X.w).is s.heap (nk d) a := by
  unfold keyOk at c
  simp only [Bool.and_eq_true, decide_eq_true_eq] at c
  obtain ⟨⟨c1, c2⟩, c3⟩ := c
  cases d with
  | tuple ds =>
    cases h with
    | tup n h1 a => exact ⟨_, rfl, Pd.nested I (.tuple ds) _ _ (.tup n h1 a) c2 rfl, c3⟩
  | _ => cases c1
def kfind {α : Type} (kvs : List (PyData × α)) (k : PyData) : Option α := (kvs.find? fun e => decide (nk e.1 = nk k)).map (·.2)
/-- what a dict's object shows: ys, its keys and values -/
theorem DRaw.keyed (hT : TX X T) {pins : List (Addr × Obj)} {s : Shared} {σ : L2.St} {H : Hp} {a : Addr} {xs : List (NestedKey × Addr × V)} (I : Inv X pins σ H s) (r : DRaw T.B H a xs) (hk : ∀ x ∈ xs, (nestedKind X.prog X.w).is s.heap x.1 x.2.1) :
    ∃ ys : List (NestedKey × Value), s.heap.DictKeyed (nestedKind X.prog X.w) a ys ∧ Paired (fun (x : NestedKey × Addr × V) (y : NestedKey × Value) => x.1 = y.1 ∧ RelV x.2.2 y.2) xs ys ∧ (a == sysModules) = false ∧ xs.length ≤ sizeLine := by
  obtain ⟨o, es, ep, ys, hH, hx, hd, he, hn, hs, hz, hp⟩ := r
  have ho : s.heap.get? a = some o := (I.hok a _ hH).1
  rw [hT.P, hT.w] at he
  have all : ∀ (xs : List (NestedKey × Addr × V)) (ys : List (NestedKey × Addr × Value)), Paired (fun (x : NestedKey × Addr × V) (y : NestedKey × Addr × Value) => x.1 = y.1 ∧ x.2.1 = y.2.1 ∧ RelV x.2.2 y.2.2) xs ys →
      (∀ x ∈ xs, (nestedKind X.prog X.w).is s.heap x.1 x.2.1) → (∀ y ∈ ys, (nestedKind X.prog X.w).is s.heap y.1 y.2.1) ∧ Paired (fun (x : NestedKey × Addr × V) (y : NestedKey × Value) => x.1 = y.1 ∧ RelV x.2.2 y.2) xs (pairsH ys) := by
    intro xs ys p
    induction p with
    | nil => exact fun _ => ⟨by simp, .nil⟩
    | cons h t ih =>
      intro q
      obtain ⟨g1, g2⟩ := ih fun x hx => q x (List.mem_cons_of_mem _ hx)
      refine ⟨fun y hy => ?_, .cons ⟨h.1, h.2.2⟩ g2⟩
      rcases List.mem_cons.mp hy with rfl | hy
      · rw [← h.1, ← h.2.1]
        exact q _ List.mem_cons_self
      · exact g1 y hy
  obtain ⟨g1, g2⟩ := all xs ys hp hk
  exact ⟨pairsH ys, ⟨ys, ⟨o, es, ep, ho, hx, hd, he, g1, hn⟩, rfl⟩, g2, hs, hz⟩
theorem find_keyed {α : Type} {F : NestedKey × Addr × V → PyData × α → Prop} {G : V → α → Prop} (hF : ∀ x kv, F x kv → x.1 = nk kv.1 ∧ G x.2.2 kv.2) (k : PyData) : ∀ {xs : List (NestedKey × Addr × V)} {kvs : List (PyData × α)} {ys : List (NestedKey × Value)},
    Paired F xs kvs → Paired (fun (x : NestedKey × Addr × V) (y : NestedKey × Value) => x.1 = y.1 ∧ RelV x.2.2 y.2) xs ys → (kfind kvs k = none ∧ valueAt ys (nk k) = none) ∨ ∃ d v u, kfind kvs k = some d ∧ valueAt ys (nk k) = some u ∧ RelV v u ∧ G v d
  | _, _, _, .nil, .nil => .inl ⟨rfl, rfl⟩
  | x :: xs, kv :: kvs, y :: ys, .cons h t, .cons h' t' => by
    obtain ⟨e1, g⟩ := hF _ _ h
    have ey : y.1 = nk kv.1 := h'.1.symm.trans e1
    by_cases c : nk kv.1 = nk k
    · refine .inr ⟨kv.2, x.2.2, y.2, ?_, ?_, h'.2, g⟩
      · simp [kfind, c]
      · simp [valueAt, ey, c]
    · have e1 : kfind (kv :: kvs) k = kfind kvs k := by simp [kfind, c]
      have e2 : valueAt (y :: ys) (nk k) = valueAt ys (nk k) := by simp [valueAt, ey, c]
      rw [e1, e2]
      exact find_keyed hF k t t'
theorem PdK.paired {L : Addr → Prop} {H : Hp} : ∀ {xs : List (NestedKey × Addr × V)} {kvs : List (PyData × PyData)}, PdK T.B L H xs kvs → Paired (fun x kv => x.1 = nk kv.1 ∧ keyOk kv.1 = true ∧ Pd T.B L H (.ref x.2.1) kv.1 ∧ Pd T.B L H x.2.2 kv.2) xs kvs
  | _, [], .nil => .nil
  | _, _ :: _, .cons h1 h2 h3 h4 t => .cons ⟨h1, h2, h3, h4⟩ (PdK.paired t)
theorem PdK.of {L : Addr → Prop} {H : Hp} : ∀ {xs : List (NestedKey × Addr × V)} {kvs : List (PyData × PyData)}, Paired (fun x kv => x.1 = nk kv.1 ∧ keyOk kv.1 = true ∧ Pd T.B L H (.ref x.2.1) kv.1 ∧ Pd T.B L H x.2.2 kv.2) xs kvs → PdK T.B L H xs kvs
  | _, [], .nil => .nil
  | _, _ :: _, .cons h t => .cons h.1 h.2.1 h.2.2.1 h.2.2.2 (PdK.of t)
/-- a dict's pairs -/
def dctOf (ah : AH) : D → Option (List (PyData × D))
  | .p (.dict kvs) => some (kvs.map fun e => (e.1, .p e.2))
  | .r i => match ah[i]? with
    | some (.dct kvs) => some kvs
    | _ => none
  | _ => none
theorem dct_raw {m : List Addr} {ah : AH} {H : Hp} (S : Sim T m ah H) {v : V} {d : D} {kvs : List (PyData × D)} (r : RD T m ah H v d) (e : dctOf ah d = some kvs) : ∃ a xs, v = .ref a ∧ DRaw T.B H a xs ∧ Paired (RKv T m ah H) xs kvs := by
  cases d with
  | p x =>
    cases x with
    | dict l =>
      cases e
      cases r with
      | dct n h1 h2 =>
        refine ⟨_, _, rfl, h1, ?_⟩
        have p := PdK.paired h2
        clear h1 h2
        induction p with
        | nil => exact .nil
        | cons h t ih => exact .cons h ih
    | _ => cases e
  | r i =>
    obtain ⟨b, h1, rfl⟩ := r
    unfold dctOf at e
    cases q : ah[i]? with
    | none => simp only [q] at e; cases e
    | some o =>
      simp only [q] at e
      cases o with
      | dead => cases e
      | lst _ => cases e
      | dct l =>
        cases e
        obtain ⟨xs, g1, g2⟩ := S.at_ i b _ h1 q
        exact ⟨b, xs, rfl, g1, g2⟩
  | f i => cases e
  | s ns => cases e
theorem keys_is {m : List Addr} {ah : AH} {pins : List (Addr × Obj)} {s : Shared} {σ : L2.St} {H : Hp} (I : Inv X pins σ H s) {xs : List (NestedKey × Addr × V)} {kvs : List (PyData × D)} (p : Paired (RKv T m ah H) xs kvs) : ∀ x ∈ xs, (nestedKind X.prog X.w).is s.heap x.1 x.2.1 := by
  induction p with
  | nil => simp
  | cons h t ih =>
    intro x hx
    rcases List.mem_cons.mp hx with rfl | hx
    · obtain ⟨a, e1, e2⟩ := keyOk_is I h.2.2.1 h.2.1
      cases e1
      rw [h.1]
      exact e2
    · exact ih x hx
theorem keyRoom (hT : TX X T) : (nestedKind X.prog X.w).room X.A.in1 := by
  show X.A.units + 1 + 8 < cLine
  have := hT.un
  omega
/-- x in c -/
def inStr (x y : Str) : Bool := !(Builtin.Str.occurrences y x 0 y.length 1).isEmpty
def inOf (ah : AH) (d e : D) : Option Bool :=
  match dctOf ah e with
  | some kvs => match d with
    | .p k => if keyOk k then some (kfind kvs k).isSome else none
    | _ => none
  | none => match dataOf ah d, dataOf ah e with
    | some a, some (.list xs) => if SeqAt.shaped a && SeqAt.shaped (.list xs) then some (xs.any fun y => PyData.eqv y a) else none
    | some a, some (.tuple xs) => if SeqAt.shaped a && SeqAt.shaped (.tuple xs) then some (xs.any fun y => PyData.eqv y a) else none
    | some (.str x), some (.str y) => some (inStr x y)
    | _, _ => none
def gIn : G2 := fun d e ah => match inOf ah d e with
  | some b => .ok (.p (.bool b)) ah
  | none => .bad
def gNotIn : G2 := fun d e ah => match inOf ah d e with
  | some b => .ok (.p (.bool (!b))) ah
  | none => .bad
theorem inOf_ok (hT : TX X T) {pins : List (Addr × Obj)} {s : Shared} {σ : L2.St} {H : Hp} {x y : V} {v u : Value} {m : List Addr} {ah : AH} {d e : D} {b : Bool} (I : Inv X pins σ H s) (rx : RelV x v) (ry : RelV y u) (S : Sim T m ah H) (r1 : RD T m ah H x d) (r2 : RD T m ah H y e) (h : inOf ah d e = some b)
    (Q : Bool → VK) (q : Q b (.bl b) H ∧ Q (!b) (.bl (!b)) H) : wpAny (model X.prog X.w) X.A (compareOp .In v u) (EP X pins σ fun z H => z = .bl b ∧ Q b z H) X.xe s ∧ wpAny (model X.prog X.w) X.A (compareOp .NotIn v u) (EP X pins σ fun z H => z = .bl (!b) ∧ Q (!b) z H) X.xe s := by
  have hu := hT.un
  unfold inOf at h
  split at h
  · rename_i kvs e1
    split at h
    · rename_i k
      split at h
      · rename_i c
        cases h
        obtain ⟨a, xs, rfl, h1, h2⟩ := dct_raw S r2 e1
        obtain ⟨ys, g1, g2, g3, _⟩ := DRaw.keyed hT I h1 (keys_is I h2)
        obtain ⟨ka, rfl, hk⟩ := keyOk_is I r1 c
        cases rx
        cases ry
        have ev : (valueAt ys (nk k)).isSome = (kfind kvs k).isSome := by
          rcases find_keyed (F := RKv T m ah H) (G := RD T m ah H) (fun x kv z => ⟨z.1, z.2.2.2⟩) k h2 g2 with ⟨z1, z2⟩ | ⟨d, v, u, z1, z2, _⟩
          · rw [z1, z2]
            rfl
          · rw [z1, z2]
            rfl
        refine ⟨in_keyed (keyRoom hT) hk g3 g1 ?_, notIn_keyed (keyRoom hT) hk g3 g1 ?_⟩
        · rw [ev]
          exact ⟨.bl _, H, I.tok _, rfl, rfl, q.1⟩
        · rw [ev]
          exact ⟨.bl _, H, I.tok _, rfl, rfl, q.2⟩
      · cases h
    · cases h
  · split at h
    · rename_i a xs e1 e2
      split at h
      · rename_i c
        cases h
        rw [Bool.and_eq_true] at c
        obtain ⟨_, w1⟩ := data_reads hT I rx S r1 e1 c.1
        obtain ⟨_, w2⟩ := data_reads hT I ry S r2 e2 c.2
        refine ⟨SeqAt.in_list_reads w2 w1 (SeqAt.canLay_of_shaped c.2) (SeqAt.canLay_of_shaped c.1) (room_in_shaped c.1 (by omega)) ⟨.bl _, H, I, rfl, rfl, q.1⟩, SeqAt.notIn_list_reads w2 w1 (SeqAt.canLay_of_shaped c.2) (SeqAt.canLay_of_shaped c.1) (room_in_shaped c.1 (by omega)) ⟨.bl _, H, I, rfl, rfl, q.2⟩⟩
      · cases h
    · rename_i a xs e1 e2
      split at h
      · rename_i c
        cases h
        rw [Bool.and_eq_true] at c
        obtain ⟨_, w1⟩ := data_reads hT I rx S r1 e1 c.1
        obtain ⟨_, w2⟩ := data_reads hT I ry S r2 e2 c.2
        refine ⟨SeqAt.in_tuple_reads w2 w1 (SeqAt.canLay_of_shaped c.2) (SeqAt.canLay_of_shaped c.1) (room_in_shaped c.1 (by omega)) ⟨.bl _, H, I, rfl, rfl, q.1⟩, SeqAt.notIn_tuple_reads w2 w1 (SeqAt.canLay_of_shaped c.2) (SeqAt.canLay_of_shaped c.1) (room_in_shaped c.1 (by omega)) ⟨.bl _, H, I, rfl, rfl, q.2⟩⟩
      · cases h
    · rename_i x' y' e1 e2
      cases h
      have p1 := dataOf_str e1
      have p2 := dataOf_str e2
      subst p1; subst p2
      cases r1; cases r2
      exact ⟨op_in_str pins s σ H _ _ v u _ I rx ry ⟨_, _, rfl, rfl, rfl, q.1⟩, L2.op_notIn_str pins s σ H _ _ v u _ I rx ry ⟨_, _, rfl, rfl, rfl, q.2⟩⟩
    · cases h
theorem od_in (hT : TX X T) : OpD X T W (compareOp .In) gIn := by
  refine ⟨fun pins s σ H x y v u Q m ah d e I rx ry S r1 r2 q => ?_⟩
  unfold gIn at q
  split at q
  · rename_i b e
    refine thn (inOf_ok hT I rx ry S r1 r2 e (fun c z H => c = b → Q z H) ⟨fun _ => OkV.bl S q, fun z => absurd z (by cases b <;> simp)⟩).1 fun w s' ⟨z, H', I', r', _, q'⟩ => ⟨z, H', I', r', q' rfl⟩
  · exact False.elim q
theorem od_notIn (hT : TX X T) : OpD X T W (compareOp .NotIn) gNotIn := by
  refine ⟨fun pins s σ H x y v u Q m ah d e I rx ry S r1 r2 q => ?_⟩
  unfold gNotIn at q
  split at q
  · rename_i b e
    refine thn (inOf_ok hT I rx ry S r1 r2 e (fun c z H => c = (!b) → Q z H) ⟨fun z => absurd z (by cases b <;> simp), fun _ => OkV.bl S q⟩).2 fun w s' ⟨z, H', I', r', _, q'⟩ => ⟨z, H', I', r', q' rfl⟩
  · exact False.elim q
/-- is None, is not None -/
def gIs : G2 := fun d e ah => match d, e with
  | .p x, .p .none => .ok (.p (.bool (isNone x))) ah
  | .r _, .p .none => .ok (.p (.bool false)) ah
  | _, _ => .bad
def gIsNot : G2 := fun d e ah => match d, e with
  | .p x, .p .none => .ok (.p (.bool (!isNone x))) ah
  | .r _, .p .none => .ok (.p (.bool true)) ah
  | _, _ => .bad
theorem pd_none {L : Addr → Prop} {H : Hp} {x : V} {d : PyData} (h : Pd T.B L H x d) : decide (x = .non) = isNone d := by
  cases h <;> rfl
theorem od_is : OpD X T W (compareOp .Is) gIs := by
  refine ⟨fun pins s σ H x y v u Q m ah d e I rx ry S r1 r2 q => ?_⟩
  unfold gIs at q
  split at q
  · cases r2
    refine op_isN pins s σ H _ _ v u Q I rx ry ⟨rfl, ?_⟩
    rw [pd_none r1]
    exact OkV.bl S q
  · cases r2
    obtain ⟨a, _, rfl⟩ := r1
    exact op_isN pins s σ H _ _ v u Q I rx ry ⟨rfl, OkV.bl S q⟩
  · exact False.elim q
theorem od_isNot : OpD X T W (compareOp .IsNot) gIsNot := by
  refine ⟨fun pins s σ H x y v u Q m ah d e I rx ry S r1 r2 q => ?_⟩
  unfold gIsNot at q
  split at q
  · cases r2
    refine op_notN pins s σ H _ _ v u Q I rx ry ⟨rfl, ?_⟩
    rw [pd_none r1]
    exact OkV.bl S q
  · cases r2
    obtain ⟨a, _, rfl⟩ := r1
    exact op_notN pins s σ H _ _ v u Q I rx ry ⟨rfl, OkV.bl S q⟩
  · exact False.elim q
end
end DL

set_option Elab.async false
set_option linter.all false
set_option maxRecDepth 100000
/-! DLc: items, slices, tests, displays. -/
namespace DL
open PySem PySem.Spec PyProof.Rows L2
section
variable {X : Cx} {T : Tb} {W : WX} {a b c e : Expr} {fa fb fc f : EF} {pos p2 : Pos}

/-! ### items -/
def itemsOf (ah : AH) : D → Option (List D)
  | .p (.list xs) => some (xs.map .p)
  | .p (.tuple xs) => some (xs.map .p)
  | .r i => match ah[i]? with
    | some (.lst ds) => some ds
    | _ => none
  | .s ns => some (ns.map fun i => .p (.int i))
  | _ => none
theorem rd_ints {T : Tb} {m : List Addr} {ah : AH} {H : Hp} : ∀ ns : List Int, Paired (RD T m ah H) (ns.map V.int) (ns.map fun i => .p (.int i))
  | [] => .nil
  | n :: r => .cons (Pd.int n) (rd_ints r)
theorem items_seq {m : List Addr} {ah : AH} {H : Hp} (S : Sim T m ah H) {v : V} {d : D} {ds : List D} (r : RD T m ah H v d) (e : itemsOf ah d = some ds) :
    ∃ a vs, v = .ref a ∧ Paired (RD T m ah H) vs ds ∧ (SqL T.K H a vs ∨ SqT T.K H a vs) := by
  cases d with
  | p x =>
    cases x with
    | list xs =>
      cases e
      cases r with
      | lst n h a => exact ⟨_, _, rfl, pd_pures a, .inl (SqL.of h)⟩
    | tuple xs =>
      cases e
      cases r with
      | tup n h a => exact ⟨_, _, rfl, pd_pures a, .inr (SqT.of h)⟩
    | _ => cases e
  | r i =>
    obtain ⟨b, h1, rfl⟩ := r
    unfold itemsOf at e
    cases q : ah[i]? with
    | none => simp only [q] at e; cases e
    | some o =>
      simp only [q] at e
      cases o with
      | dead => cases e
      | dct _ => cases e
      | lst l =>
        cases e
        obtain ⟨vs, g1, g2⟩ := S.at_ i b _ h1 q
        exact ⟨b, vs, rfl, g2, .inl (SqL.of g1)⟩
  | f i => cases e
  | s ns =>
    cases e
    obtain ⟨rfl, h⟩ := r
    refine ⟨_, _, rfl, rd_ints ns, .inl ?_⟩
    rcases h with ⟨_, h⟩ | h
    · exact .inl h
    · exact .inr h
theorem paired_get {α β : Type} {F : α → β → Prop} : ∀ {l : List α} {k : List β} {i : Nat} {y : β}, Paired F l k → k[i]? = some y → ∃ x, l[i]? = some x ∧ F x y
  | _, _, _, _, .nil, h => by simp at h
  | _, _, 0, _, .cons h t, e => by simp at e; subst e; exact ⟨_, rfl, h⟩
  | _, _, i + 1, y, .cons h t, e => by
    obtain ⟨x, h1, h2⟩ := paired_get (i := i) t (by simpa using e)
    exact ⟨x, by simpa using h1, h2⟩
theorem paired_len {α β : Type} {F : α → β → Prop} {l : List α} {k : List β} (h : Paired F l k) : l.length = k.length := Paired.length h
theorem atI_paired {α β : Type} {F : α → β → Prop} {l : List α} {k : List β} {i : Int} {y : β} (h : Paired F l k) (e : atI k i = some y) : ∃ x, atI l i = some x ∧ F x y := by
  unfold atI at *
  rw [paired_len h]
  cases q : ixN k.length i with
  | none => rw [q] at e; cases e
  | some j =>
    rw [q] at e
    exact paired_get h e
def gIx : G2 := fun d e ah => match e with
  | .p (.int i) => match d with
    | .p (.str z) => if z.length ≤ 16777216 then (match atI z.cps.toList i with
      | some c => .ok (.p (.str ⟨#[c]⟩)) ah
      | none => .bad) else .bad
    | d => match itemsOf ah d with
      | some ds => match atI ds i with
        | some x => .ok x ah
        | none => .bad
      | none => .bad
  | _ => .bad
structure IxD (X : Cx) (T : Tb) (W : WX) (g : G2) : Prop where
  run : ∀ (value slice : Expr) (pins : List (Addr × Obj)) (s : Shared) (σ : L2.St) (H : Hp) (x y : V) (v u : Value) (Q : VK) (m : List Addr) (ah : AH) (d e : D), Inv X pins σ H s → RelV x v → RelV y u → Sim T m ah H → RD T m ah H x d → RD T m ah H y e →
    OkV T W σ m ah H (g d e ah) Q → subscripted slice false v u = operate [v, u] (getItem v u) → wpAny (model X.prog X.w) X.A (subscriptTail value slice v u) (EP X pins σ Q) X.xe s
theorem id_ix (hT : TX X T) : IxD X T W gIx := by
  refine ⟨fun value slice pins s σ H x y v u Q m ah d e I rx ry S r1 r2 q hs => ?_⟩
  unfold gIx at q
  split at q
  · rename_i i
    cases r2
    split at q
    · cases r1
      split at q
      · rename_i z c
        split at q
        · rename_i c' e1
          exact ix_str value slice pins s σ H _ _ v u Q I rx ry ⟨_, _, _, rfl, rfl, by rw [sizeLine_eq]; exact c, e1, OkV.str S q⟩ hs
        · exact False.elim q
      · exact False.elim q
    · split at q
      · rename_i ds e1
        split at q
        · rename_i x' e2
          obtain ⟨a, vs, rfl, g1, g2⟩ := items_seq S r1 e1
          obtain ⟨w, h1, h2⟩ := atI_paired g1 e2
          rw [hT.K] at g2
          rcases g2 with g2 | g2
          · exact ix_list value slice pins s σ H _ _ v u Q I rx ry ⟨_, _, _, _, rfl, rfl, g2, h1, OkV.d S q h2⟩ hs
          · exact ix_tup value slice pins s σ H _ _ v u Q I rx ry ⟨_, _, _, _, rfl, rfl, g2, h1, OkV.d S q h2⟩ hs
        · exact False.elim q
      · exact False.elim q
  · exact False.elim q
theorem two' {g : G2} {σ : L2.St} {H : Hp} {Q : VK} (h : tD T W (f2 g fa fb) σ H Q) : tOp (fun x y H Q => ∃ m ah d e, Sim T m ah H ∧ RD T m ah H x d ∧ RD T m ah H y e ∧ OkV T W σ m ah H (g d e ah) Q) (tD T W fa) (tD T W fb) σ H Q :=
  two h fun m ah H d e x y S r1 r2 q => ⟨m, ah, d, e, S, r1, r2, q⟩
theorem de_ix (hT : TX X T) (ha : DE X T W a fa) (hb : DE X T W b fb) (hs : PlainIx b) : DE X T W (.Subscript a b pos) (f2 gIx fa fb) := by
  refine ⟨⟨fun pins s σ H Q I h => ?_⟩⟩
  refine Subscript_ (binT ha.h hb.h I (two' h) fun v u s2 x y H2 I2 rx ry q => ?_)
  obtain ⟨m, ah, d, e, S, r1, r2, q⟩ := q
  exact (id_ix hT).run a b pins s2 σ H2 x y v u Q m ah d e I2 rx ry S r1 r2 q (hs _ _)
/-- d[k], d a dict -/
def gDGet : G2 := fun d e ah => match dctOf ah d, e with
  | some kvs, .p k => if keyOk k then (match kfind kvs k with
    | some x => .ok x ah
    | none => .bad) else .bad
  | _, _ => .bad
theorem DRaw.obj {H : Hp} {a : Addr} {xs : List (NestedKey × Addr × V)} {pins : List (Addr × Obj)} {s : Shared} {σ : L2.St} (r : DRaw T.B H a xs) (I : Inv X pins σ H s) : ∃ o es ep, s.heap.get? a = some o ∧ o.ExactDict ∧ o.data = .dict es ep := by
  obtain ⟨o, es, ep, ys, hH, hx, hd, _⟩ := r
  exact ⟨o, es, ep, (I.hok a _ hH).1, hx, hd⟩
theorem DRaw.typeIs {H : Hp} {a : Addr} {xs : List (NestedKey × Addr × V)} {pins : List (Addr × Obj)} {s : Shared} {σ : L2.St} (r : DRaw T.B H a xs) (I : Inv X pins σ H s) : s.TypeIs (.ref a) "dict" := by
  obtain ⟨o, es, ep, h1, h2, _⟩ := r.obj I
  exact ⟨o, h1, h2.1⟩
theorem de_dget (hT : TX X T) (ha : DE X T W a fa) (hb : DE X T W b fb) (hs : NoSl b) : DE X T W (.Subscript a b pos) (f2 gDGet fa fb) := by
  refine ⟨⟨fun pins s σ H Q I h => ?_⟩⟩
  have h := two' h
  refine subD_of PySem.F.slot_dict_getitem.lookup hs (thn (ha.h.run pins s σ H _ I h) fun u s1 ⟨x, H1, I1, rx, q1⟩ => thn (hb.h.run pins s1 σ H1 _ I1 q1) fun iv s2 ⟨y, H2, I2, ry, q2⟩ => ?_)
  obtain ⟨m, ah, d, e, S, r1, r2, q⟩ := q2
  unfold gDGet at q
  split at q
  · rename_i kvs k e1
    split at q
    · rename_i c
      split at q
      · rename_i x' e2
        obtain ⟨a, xs, rfl, h1, h2⟩ := dct_raw S r1 e1
        obtain ⟨ys, g1, g2, g3, _⟩ := DRaw.keyed hT I2 h1 (keys_is I2 h2)
        obtain ⟨ka, rfl, hk⟩ := keyOk_is I2 r2 c
        cases rx
        cases ry
        rcases find_keyed (F := RKv T m ah H2) (G := RD T m ah H2) (fun x kv z => ⟨z.1, z.2.2.2⟩) k h2 g2 with ⟨z1, z2⟩ | ⟨d', v, u, z1, z2, z3, z4⟩
        · rw [z1] at e2; cases e2
        · rw [z1] at e2; cases e2
          exact ⟨h1.typeIs I2, getItem_keyed (keyRoom hT) hk g1 z2 ⟨v, H2, I2.tok _, z3, OkV.d S q z4⟩⟩
      · exact False.elim q
    · exact False.elim q
  · exact False.elim q

/-! ### slices -/
abbrev PF := DS → AH → R (Option Int)
def tP (T : Tb) (W : WX) (f : PF) : TO := fun σ H Q => ∃ m ah σd, Sim T m ah H ∧ EnvR T m ah H σ σd ∧ Ok T W σ m ah H (f σd ah) fun _ _ H' o => Q o H'
structure DPt (X : Cx) (T : Tb) (W : WX) (e : Option Expr) (f : PF) : Prop where
  h : PO X e (tP T W f)
def pNo : PF := fun _ ah => .ok none ah
def pSome (f : EF) : PF := fun σ ah => (f σ ah).bind fun d ah1 => match d with
  | .p (.int i) => .ok (some i) ah1
  | _ => .bad
theorem dp_none : DPt X T W none pNo := by
  refine ⟨⟨fun pins s σ H Q I h => ?_⟩⟩
  obtain ⟨m, ah, σd, S, En, h⟩ := h
  exact po_none.run pins s σ H Q I (h.here S)
theorem dp_some (h : DE X T W e f) : DPt X T W (some e) (pSome f) := by
  refine ⟨⟨fun pins s σ H Q I hh => ?_⟩⟩
  refine (po_some h.h).run pins s σ H Q I ?_
  obtain ⟨m, ah, σd, S, En, hh⟩ := hh
  refine ⟨m, ah, σd, S, En, (Ok.bind S.len hh).mono fun m1 ah1 H1 d E1 S1 h1 v r => ?_⟩
  split at h1
  · cases r
    exact ⟨_, rfl, h1.here S1⟩
  · exact False.elim h1
def cutG {α : Type} (xs : List α) (lo hi : Option Int) : List α := (xs.drop (HT.sIx xs.length 0 lo)).take (HT.sIx xs.length xs.length hi - HT.sIx xs.length 0 lo)
theorem PdA.take {L : Addr → Prop} {H : Hp} : ∀ {vs : List V} {ds : List PyData} (n : Nat), PdA T.B L H vs ds → PdA T.B L H (vs.take n) (ds.take n)
  | _, _, 0, _ => .nil
  | _, _, n + 1, .nil => .nil
  | _, _, n + 1, .cons h t => .cons h (PdA.take n t)
theorem PdA.drop {L : Addr → Prop} {H : Hp} : ∀ {vs : List V} {ds : List PyData} (n : Nat), PdA T.B L H vs ds → PdA T.B L H (vs.drop n) (ds.drop n)
  | _, _, 0, h => h
  | _, _, n + 1, .nil => .nil
  | _, _, n + 1, .cons _ t => PdA.drop n t
theorem PdA.cut {L : Addr → Prop} {H : Hp} {vs : List V} {ds : List PyData} (lo hi : Option Int) (a : PdA T.B L H vs ds) : PdA T.B L H (cutV vs lo hi) (cutG ds lo hi) := by
  unfold cutV cutG
  rw [a.len]
  exact (a.drop _).take _
def gSlice (d : D) (lo hi : Option Int) (ah : AH) : R D := match d with
  | .p (.list xs) => .ok (.p (.list (cutG xs lo hi))) ah
  | .p (.tuple xs) => .ok (.p (.tuple (cutG xs lo hi))) ah
  | .p (.str z) => if z.length ≤ 16777216 then .ok (.p (.str (cutS z lo hi))) ah else .bad
  | _ => .bad
def fSlice (fa : EF) (fl fh : PF) : EF := fun σ ah => (fa σ ah).bind fun d ah1 => (fl σ ah1).bind fun lo ah2 => (fh σ ah2).bind fun hi ah3 => gSlice d lo hi ah3
def rSlD (T : Tb) (W : WX) (σ : L2.St) : V → Option Int → Option Int → Hp → VK → Prop := fun x lo hi H Q => ∃ m ah d, Sim T m ah H ∧ RD T m ah H x d ∧ OkV T W σ m ah H (gSlice d lo hi ah) Q
theorem cut_whole {α : Type} {xs : List α} {lo hi : Option Int} (h : HT.sIx xs.length 0 lo = 0 ∧ HT.sIx xs.length xs.length hi = xs.length) : cutG xs lo hi = xs := by
  unfold cutG
  rw [h.1, h.2]
  simp
theorem sl_d (hT : TX X T) (σ0 : L2.St) : SlR X (rSlD T W σ0) := by
  intro pins s σ H x v vl vu lo hi sl Q I rx hs pl pu h
  obtain ⟨m, ah, d, S, r, q⟩ := h
  unfold gSlice at q
  split at q
  · cases r with
    | lst n h a =>
      exact sl_list pins s σ H _ v vl vu lo hi sl Q I rx hs pl pu ⟨_, _, rfl, SqL.of h, fun p hp => OkV.lst S q (a.cut lo hi) hp⟩
  · cases r with
    | tup n h a =>
      refine sl_tupA pins s σ H _ v vl vu lo hi sl Q I rx hs pl pu ⟨_, _, rfl, SqT.of h, fun z => ?_, fun _ p hp => OkV.tup S q (a.cut lo hi) hp⟩
      rw [a.len] at z
      rw [cut_whole z] at q
      exact OkV.p S q (.tup n h a)
  · split at q
    · rename_i c
      cases r
      exact sl_str pins s σ H _ v vl vu lo hi sl Q I rx hs pl pu ⟨_, rfl, by rw [sizeLine_eq]; exact c, OkV.str S q⟩
    · exact False.elim q
  · exact False.elim q
theorem de_slice {lo hi : Option Expr} {fl fh : PF} (hT : TX X T) (ha : DE X T W a fa) (hl : DPt X T W lo fl) (hh : DPt X T W hi fh) : DE X T W (.Subscript a (.Slice lo hi none p2) pos) (fSlice fa fl fh) := by
  refine ⟨⟨fun pins s σ H Q I h => ?_⟩⟩
  refine (pe_slice (sl_d (W := W) hT σ) ha.h hl.h hh.h).run pins s σ H Q I ?_
  obtain ⟨m, ah, σd, S, En, h⟩ := h
  refine ⟨m, ah, σd, S, En, (Ok.bind S.len h).mono fun m1 ah1 H1 d E1 S1 h1 x r => ?_⟩
  have En1 := En.ext E1 S.len
  refine ⟨m1, ah1, σd, S1, En1, (Ok.bind S1.len h1).mono fun m2 ah2 H2 lo E2 S2 h2 => ?_⟩
  refine ⟨m2, ah2, σd, S2, En1.ext E2 S1.len, (Ok.bind S2.len h2).mono fun m3 ah3 H3 hi E3 S3 h3 => ?_⟩
  exact ⟨m3, ah3, d, S3, RD.ext E3 S2.len (RD.ext E2 S1.len r), h3⟩

/-! ### tests -/
def tB (f : EF) : TF := fun σ ah => (f σ ah).bind fun d ah1 => match d with
  | .p (.bool b) => .ok b ah1
  | _ => .bad
theorem tB_tt {f : EF} {σ : L2.St} {H : Hp} {Q : Bool → Hp → Prop} (h : tT T W (tB f) σ H Q) : tD T W f σ H fun x H' => ∃ k, x = .bl k ∧ Q k H' := by
  obtain ⟨m, ah, σd, S, En, h⟩ := h
  refine ⟨m, ah, σd, S, En, (Ok.bind S.len h).mono fun m1 ah1 H1 d E1 S1 h1 v r => ?_⟩
  split at h1
  · cases r
    exact ⟨_, rfl, h1.here S1⟩
  · exact False.elim h1
/-- a bool, as a test -/
theorem dt_val (h : DE X T W e f) (he : ∀ whole, isTrue e X.env whole = (do let v ← whole; standAt e.pos; holding [v] (truthy v)) := by intro _; rfl) : DT X T W e (tB f) :=
  ⟨(pt_val h.h he).imp fun σ H Q q => tB_tt q⟩
theorem dt_cmp {op : CmpOp} {g : G2} (o : OpD X T W (compareOp op) g) (ha : DE X T W a fa) (hb : DE X T W b fb) (hm : behindInMarks op b = false) : DT X T W (.Compare a [op] [b] pos) (tB (f2 g fa fb)) := by
  refine ⟨⟨fun pins s σ H Q I h => ?_⟩⟩
  refine wpAny_isTrue_Compare1 (thn (pairD o ha hb I (tB_tt h)) fun v s1 h1 => thn h1 fun u s2 h2 => thn h2 fun c s3 ⟨x, H1, I1, r1, q1⟩ => ?_) hm
  obtain ⟨d, rfl, q⟩ := q1
  cases r1
  exact wpAny_truthy_bool ⟨H1, I1, q⟩
def fChain (g g' : G2) (fa fb fc : EF) : EF := fun σ ah => (fa σ ah).bind fun d ah1 => (fb σ ah1).bind fun e ah2 => (g d e ah2).bind fun z ah3 => match z with
  | .p (.bool true) => (fc σ ah3).bind fun x ah4 => g' e x ah4
  | .p (.bool false) => .ok (.p (.bool false)) ah3
  | _ => .bad
theorem chain_tt {g g' : G2} {σ : L2.St} {H : Hp} {Q : VK} (h : tD T W (fChain g g' fa fb fc) σ H Q) :
    tD T W fa σ H fun x H1 => tD T W fb σ H1 fun y H2 => ∃ m ah d e, Sim T m ah H2 ∧ RD T m ah H2 x d ∧ RD T m ah H2 y e ∧ OkV T W σ m ah H2 (g d e ah) fun z H3 => ∃ k, z = .bl k ∧
      (if k = true then tD T W fc σ H3 fun w' H4 => ∃ m ah d e, Sim T m ah H4 ∧ RD T m ah H4 y d ∧ RD T m ah H4 w' e ∧ OkV T W σ m ah H4 (g' d e ah) Q else Q (.bl false) H3) := by
  obtain ⟨m, ah, σd, S, En, h⟩ := h
  refine ⟨m, ah, σd, S, En, (Ok.bind S.len h).mono fun m1 ah1 H1 d E1 S1 h1 x rx => ?_⟩
  have En1 := En.ext E1 S.len
  refine ⟨m1, ah1, σd, S1, En1, (Ok.bind S1.len h1).mono fun m2 ah2 H2 e E2 S2 h2 y ry => ?_⟩
  have En2 := En1.ext E2 S1.len
  refine ⟨m2, ah2, d, e, S2, RD.ext E2 S1.len rx, ry, (Ok.bind S2.len h2).mono fun m3 ah3 H3 z E3 S3 h3 v rv => ?_⟩
  split at h3
  · cases rv
    refine ⟨true, rfl, ?_⟩
    rw [if_pos rfl]
    refine ⟨m3, ah3, σd, S3, En2.ext E3 S2.len, (Ok.bind S3.len h3).mono fun m4 ah4 H4 x' E4 S4 h4 w' rw' => ?_⟩
    exact ⟨m4, ah4, e, x', S4, RD.ext E4 S3.len (RD.ext E3 S2.len ry), rw', h4⟩
  · cases rv
    refine ⟨false, rfl, ?_⟩
    rw [if_neg Bool.false_ne_true]
    exact OkV.bl S3 h3
  · exact False.elim h3
theorem de_chain {op op' : CmpOp} {g g' : G2} (o : OpD X T W (compareOp op) g) (o' : OpD X T W (compareOp op') g') (ha : DE X T W a fa) (hb : DE X T W b fb) (hc : DE X T W c fc)
    (hm : lastMarks [op, op'] [b, c] = false := by with_unfolding_all rfl) : DE X T W (.Compare a [op, op'] [b, c] pos) (fChain g g' fa fb fc) := by
  refine ⟨⟨fun pins s σ H Q I h => ?_⟩⟩
  have h := chain_tt h
  refine Compare_chain (thn (ha.h.run pins s σ H _ I h) fun v s1 ⟨x, H1, I1, r1, q1⟩ => chain_link (thn (hb.h.run pins s1 σ H1 _ I1 q1) fun u s2 ⟨y, H2, I2, r2, m, ah, d, e, S, g1, g2, q2⟩ =>
    thn (o.run pins s2 σ H2 x y v u _ m ah d e I2 r1 r2 S g1 g2 q2) fun d' s3 ⟨z, H3, I3, r3, k, e', q3⟩ => ?_)) hm
  subst e'
  cases r3
  refine wpAny_truthy_bool ?_
  cases k with
  | false => exact ite_ff ⟨.bl false, H3, I3, rfl, q3⟩
  | true => exact ite_tt (chain_last (thn (hc.h.run pins s3 σ H3 _ I3 q3) fun w' s4 ⟨z', H4, I4, r4, m4, ah4, d4, e4, S4, k1, k2, q4⟩ => o'.run pins s4 σ H4 y z' u w' Q m4 ah4 d4 e4 I4 r2 r4 S4 k1 k2 q4))
theorem dt_chain {op op' : CmpOp} {g g' : G2} (o : OpD X T W (compareOp op) g) (o' : OpD X T W (compareOp op') g') (ha : DE X T W a fa) (hb : DE X T W b fb) (hc : DE X T W c fc)
    (hm : lastMarks [op, op'] [b, c] = false := by with_unfolding_all rfl) : DT X T W (.Compare a [op, op'] [b, c] pos) (tB (fChain g g' fa fb fc)) := by
  refine ⟨⟨fun pins s σ H Q I h => ?_⟩⟩
  have h := chain_tt (tB_tt h)
  refine isTrue_chain (thn (ha.h.run pins s σ H _ I h) fun v s1 ⟨x, H1, I1, r1, q1⟩ => test_link (thn (hb.h.run pins s1 σ H1 _ I1 q1) fun u s2 ⟨y, H2, I2, r2, m, ah, d, e, S, g1, g2, q2⟩ =>
    thn (o.run pins s2 σ H2 x y v u _ m ah d e I2 r1 r2 S g1 g2 q2) fun d' s3 ⟨z, H3, I3, r3, k, e', q3⟩ => ?_)) hm
  subst e'
  cases r3
  refine wpAny_truthy_bool ?_
  cases k with
  | false =>
    obtain ⟨k', e', q'⟩ := q3
    cases e'
    exact ite_ff ⟨H3, I3, q'⟩
  | true =>
    refine ite_tt (test_last (thn (hc.h.run pins s3 σ H3 _ I3 q3) fun w' s4 ⟨z', H4, I4, r4, m4, ah4, d4, e4, S4, k1, k2, q4⟩ => thn (o'.run pins s4 σ H4 y z' u w' _ m4 ah4 d4 e4 I4 r2 r4 S4 k1 k2 q4) fun d' s5 ⟨z2, H5, I5, r5, k2, e2, q5⟩ => ?_))
    subst e2
    cases r5
    exact wpAny_truthy_bool ⟨H5, I5, q5⟩
/-- truth -/
def truOf (ah : AH) : D → Option Bool
  | .p .none => some false
  | .p (.bool b) => some b
  | .p (.int i) => some (i != 0)
  | .p (.str z) => if z.length ≤ 16777216 then some ((z.length : Int) != 0) else none
  | d => (itemsOf ah d).map fun ds => !ds.isEmpty
def tTru (f : EF) : TF := fun σ ah => (f σ ah).bind fun d ah1 => match truOf ah1 d with
  | some b => .ok b ah1
  | none => .bad
theorem isEmpty_paired {α β : Type} {F : α → β → Prop} {l : List α} {k : List β} (h : Paired F l k) : l.isEmpty = k.isEmpty := by cases h <;> rfl
theorem dt_truth (hT : TX X T) (h : DE X T W e f) (he : ∀ whole, isTrue e X.env whole = (do let v ← whole; standAt e.pos; holding [v] (truthy v)) := by intro _; rfl) : DT X T W e (tTru f) := by
  refine ⟨(pt_truth h.h he).imp fun σ H Q q => ?_⟩
  obtain ⟨m, ah, σd, S, En, q⟩ := q
  refine ⟨m, ah, σd, S, En, (Ok.bind S.len q).mono fun m1 ah1 H1 d E1 S1 h1 v r => ?_⟩
  split at h1
  · rename_i b e1
    refine ⟨b, ?_, h1.here S1⟩
    unfold truOf at e1
    split at e1
    · cases r; cases e1; rfl
    · cases r; cases e1; rfl
    · cases r; cases e1; rfl
    · split at e1
      · rename_i c
        cases r; cases e1
        exact ⟨by rw [sizeLine_eq]; exact c, rfl⟩
      · cases e1
    · obtain ⟨ds, e2, rfl⟩ := Option.map_eq_some_iff.mp e1
      obtain ⟨a, vs, rfl, g1, g2⟩ := items_seq S1 r e2
      rw [hT.K] at g2
      rw [← isEmpty_paired g1]
      rcases g2 with g2 | g2
      · exact .inl ⟨vs, g2, rfl⟩
      · exact .inr (.inl ⟨vs, g2, rfl⟩)
  · exact False.elim h1
def tNotF (f : TF) : TF := fun σ ah => (f σ ah).bind fun b ah1 => .ok (!b) ah1
def tAndF (f g : TF) : TF := fun σ ah => (f σ ah).bind fun b ah1 => if b = true then g σ ah1 else .ok false ah1
def tOrF (f g : TF) : TF := fun σ ah => (f σ ah).bind fun b ah1 => if b = true then .ok true ah1 else g σ ah1
structure DW (X : Cx) (T : Tb) (W : WX) (e : Expr) (f : TF) : Prop where
  h : PW X e (tT T W f)
theorem _root_.L2.PW.imp {X : Cx} {e : Expr} {t t' : TT} (h : PW X e t) (i : ∀ σ H Q, t' σ H Q → t σ H Q) : PW X e t' := ⟨fun wh pins s σ H Q I q => h.run wh pins s σ H Q I (i σ H Q q)⟩
theorem DW.dt {g : TF} (h : DW X T W e g) : DT X T W e g := ⟨h.h.pt⟩
variable {ta tb : TF} {rest : List Expr}
theorem dt_not (h : DT X T W a ta) : DT X T W (.UnaryOp .Not a pos) (tNotF ta) := by
  refine ⟨(pt_not h.h).imp fun σ H Q q => ?_⟩
  obtain ⟨m, ah, σd, S, En, q⟩ := q
  exact ⟨m, ah, σd, S, En, (Ok.bind S.len q).mono fun m1 ah1 H1 d E1 S1 h1 => h1.here S1⟩
theorem dw_and1 (h : DT X T W a ta) : DW X T W (.BoolOp .And [a] pos) ta := ⟨pw_and1 h.h⟩
theorem dw_or1 (h : DT X T W a ta) : DW X T W (.BoolOp .Or [a] pos) ta := ⟨pw_or1 h.h⟩
theorem dw_and (h : DT X T W a ta) (k : DW X T W (.BoolOp .And (b :: rest) pos) tb) : DW X T W (.BoolOp .And (a :: b :: rest) pos) (tAndF ta tb) := by
  refine ⟨(pw_and h.h k.h).imp fun σ H Q q => ?_⟩
  obtain ⟨m, ah, σd, S, En, q⟩ := q
  refine ⟨m, ah, σd, S, En, (Ok.bind S.len q).mono fun m1 ah1 H1 d E1 S1 h1 => ?_⟩
  cases d with
  | true => rw [if_pos rfl] at h1 ⊢; exact ⟨m1, ah1, σd, S1, En.ext E1 S.len, h1⟩
  | false => rw [if_neg Bool.false_ne_true] at h1 ⊢; exact h1.here S1
theorem dw_or (h : DT X T W a ta) (k : DW X T W (.BoolOp .Or (b :: rest) pos) tb) : DW X T W (.BoolOp .Or (a :: b :: rest) pos) (tOrF ta tb) := by
  refine ⟨(pw_or h.h k.h).imp fun σ H Q q => ?_⟩
  obtain ⟨m, ah, σd, S, En, q⟩ := q
  refine ⟨m, ah, σd, S, En, (Ok.bind S.len q).mono fun m1 ah1 H1 d E1 S1 h1 => ?_⟩
  cases d with
  | true => rw [if_pos rfl] at h1 ⊢; exact h1.here S1
  | false => rw [if_neg Bool.false_ne_true] at h1 ⊢; exact ⟨m1, ah1, σd, S1, En.ext E1 S.len, h1⟩
/-- as values (bools) -/
def fAnd (f g : EF) : EF := fun σ ah => (f σ ah).bind fun d ah1 => match d with
  | .p (.bool true) => g σ ah1
  | .p (.bool false) => .ok (.p (.bool false)) ah1
  | _ => .bad
def fOr (f g : EF) : EF := fun σ ah => (f σ ah).bind fun d ah1 => match d with
  | .p (.bool false) => g σ ah1
  | .p (.bool true) => .ok (.p (.bool true)) ah1
  | _ => .bad
def fNot (f : EF) : EF := fun σ ah => (f σ ah).bind fun d ah1 => match d with
  | .p (.bool b) => .ok (.p (.bool (!b))) ah1
  | _ => .bad
theorem de_one {op} (h : DE X T W a fa) : DE X T W (.BoolOp op [a] pos) fa := ⟨pe_one h.h⟩
theorem de_and (h : DE X T W a fa) (k : DE X T W (.BoolOp .And (b :: rest) pos) fb) : DE X T W (.BoolOp .And (a :: b :: rest) pos) (fAnd fa fb) := by
  refine ⟨(pe_and h.h k.h).imp fun σ H Q q => ?_⟩
  obtain ⟨m, ah, σd, S, En, q⟩ := q
  refine ⟨m, ah, σd, S, En, (Ok.bind S.len q).mono fun m1 ah1 H1 d E1 S1 h1 v r => ?_⟩
  split at h1
  · cases r
    refine ⟨true, rfl, ?_⟩
    rw [if_pos rfl]
    exact ⟨m1, ah1, σd, S1, En.ext E1 S.len, h1⟩
  · cases r
    refine ⟨false, rfl, ?_⟩
    rw [if_neg Bool.false_ne_true]
    exact OkV.bl S1 h1
  · exact False.elim h1
theorem de_or (h : DE X T W a fa) (k : DE X T W (.BoolOp .Or (b :: rest) pos) fb) : DE X T W (.BoolOp .Or (a :: b :: rest) pos) (fOr fa fb) := by
  refine ⟨(pe_or h.h k.h).imp fun σ H Q q => ?_⟩
  obtain ⟨m, ah, σd, S, En, q⟩ := q
  refine ⟨m, ah, σd, S, En, (Ok.bind S.len q).mono fun m1 ah1 H1 d E1 S1 h1 v r => ?_⟩
  split at h1
  · cases r
    refine ⟨false, rfl, ?_⟩
    rw [if_neg Bool.false_ne_true]
    exact ⟨m1, ah1, σd, S1, En.ext E1 S.len, h1⟩
  · cases r
    refine ⟨true, rfl, ?_⟩
    rw [if_pos rfl]
    exact OkV.bl S1 h1
  · exact False.elim h1
theorem de_not (h : DE X T W a fa) : DE X T W (.UnaryOp .Not a pos) (fNot fa) := by
  refine ⟨(pe_not h.h).imp fun σ H Q q => ?_⟩
  obtain ⟨m, ah, σd, S, En, q⟩ := q
  refine ⟨m, ah, σd, S, En, (Ok.bind S.len q).mono fun m1 ah1 H1 d E1 S1 h1 v r => ?_⟩
  split at h1
  · cases r
    exact ⟨_, rfl, OkV.bl S1 h1⟩
  · exact False.elim h1
def fNeg (f : EF) : EF := fun σ ah => (f σ ah).bind fun d ah1 => match d with
  | .p (.int i) => .ok (.p (.int (-i))) ah1
  | _ => .bad
theorem de_neg (h : DE X T W a fa) : DE X T W (.UnaryOp .USub a pos) (fNeg fa) := by
  refine ⟨(pe_un un_neg h.h).imp fun σ H Q q => ?_⟩
  obtain ⟨m, ah, σd, S, En, q⟩ := q
  refine ⟨m, ah, σd, S, En, (Ok.bind S.len q).mono fun m1 ah1 H1 d E1 S1 h1 v r => ?_⟩
  split at h1
  · cases r
    exact ⟨_, rfl, OkV.int S1 h1⟩
  · exact False.elim h1

/-! ### argument lists, displays -/
variable {es : List Expr} {fs : AF}
def aNil : AF := fun _ ah => .ok [] ah
def aCons (f : EF) (g : AF) : AF := fun σ ah => (f σ ah).bind fun d ah1 => (g σ ah1).bind fun ds ah2 => .ok (d :: ds) ah2
theorem da_nil : DA X T W [] aNil := by
  refine ⟨pa_nil.imp fun σ H Q q => ?_⟩
  obtain ⟨m, ah, σd, S, En, q⟩ := q
  exact q.here S [] .nil
theorem paired_ext {m m' : List Addr} {ah ah' : AH} {H H' : Hp} (E : Ext m ah H m' ah' H') (hl : m.length = ah.length) {vs : List V} {ds : List D} (h : Paired (RD T m ah H) vs ds) : Paired (RD T m' ah' H') vs ds := Paired.mapR h fun _ _ q => RD.ext E hl q
theorem da_cons (h : DE X T W e f) (k : DA X T W es fs) (hs : starEach (e :: es) X.env = (false, eval e X.env) :: starEach es X.env := by rfl) : DA X T W (e :: es) (aCons f fs) := by
  refine ⟨(pa_cons h.h k.h hs).imp fun σ H Q q => ?_⟩
  obtain ⟨m, ah, σd, S, En, q⟩ := q
  refine ⟨m, ah, σd, S, En, (Ok.bind S.len q).mono fun m1 ah1 H1 d E1 S1 h1 v r => ?_⟩
  refine ⟨m1, ah1, σd, S1, En.ext E1 S.len, (Ok.bind S1.len h1).mono fun m2 ah2 H2 ds E2 S2 h2 vs rs => ?_⟩
  exact h2.here S2 (v :: vs) (.cons (RD.ext E2 S1.len r) rs)
/-- a new tuple, list of pure items; a new mutable list -/
def fTup (fs : AF) : EF := fun σ ah => (fs σ ah).bind fun ds ah1 => match pures ds with
  | some xs => if ds.length ≤ 1000 then .ok (.p (.tuple xs)) ah1 else .bad
  | none => .bad
def fLst (fs : AF) : EF := fun σ ah => (fs σ ah).bind fun ds ah1 => match pures ds with
  | some xs => if ds.length ≤ 1000 then .ok (.p (.list xs)) ah1 else .bad
  | none => .bad
def fLstM (fs : AF) : EF := fun σ ah => (fs σ ah).bind fun ds ah1 => if ds.length ≤ 1000 then .ok (.r ah1.length) (ah1 ++ [.lst ds]) else .bad
theorem line1000 {n : Nat} (h : n ≤ 1000) : n ≤ sizeLine := by rw [sizeLine_eq]; omega
theorem de_tup {x1} (h : DA X T W es fs) : DE X T W (.Tuple es x1 pos) (fTup fs) := by
  refine ⟨(pe_tup h.h).imp fun σ H Q q => ?_⟩
  obtain ⟨m, ah, σd, S, En, q⟩ := q
  refine ⟨m, ah, σd, S, En, (Ok.bind S.len q).mono fun m1 ah1 H1 ds E1 S1 h1 vs r => ?_⟩
  split at h1
  · rename_i xs e
    split at h1
    · rename_i c
      exact ⟨by rw [paired_len r]; exact line1000 c, fun p hp => OkV.tup S1 h1 (pures_pd r e) hp⟩
    · exact False.elim h1
  · exact False.elim h1
theorem de_lst (h : DA X T W es fs) : DE X T W (.List es pos) (fLst fs) := by
  refine ⟨(pe_lst h.h).imp fun σ H Q q => ?_⟩
  obtain ⟨m, ah, σd, S, En, q⟩ := q
  refine ⟨m, ah, σd, S, En, (Ok.bind S.len q).mono fun m1 ah1 H1 ds E1 S1 h1 vs r => ?_⟩
  split at h1
  · rename_i xs e
    split at h1
    · rename_i c
      exact ⟨by rw [paired_len r]; exact line1000 c, fun p hp => OkV.lst S1 h1 (pures_pd r e) hp⟩
    · exact False.elim h1
  · exact False.elim h1
theorem de_lstM (h : DA X T W es fs) : DE X T W (.List es pos) (fLstM fs) := by
  refine ⟨(pe_lst h.h).imp fun σ H Q q => ?_⟩
  obtain ⟨m, ah, σd, S, En, q⟩ := q
  refine ⟨m, ah, σd, S, En, (Ok.bind S.len q).mono fun m1 ah1 H1 ds E1 S1 h1 vs r => ?_⟩
  split at h1
  · rename_i c
    exact ⟨by rw [paired_len r]; exact line1000 c, fun p hp => OkV.newL S1 h1 r hp⟩
  · exact False.elim h1
end
end DL

set_option Elab.async false
set_option linter.all false
set_option maxRecDepth 100000
/-! DLd: statements, loops, comprehensions, defs. -/
namespace DL
open PySem PySem.Spec PyProof.Rows L2

/-- a statement's outcome -/
inductive O where
  | nx (σ : DS) (h : AH) | rt (d : D) (h : AH) | bk (σ : DS) (h : AH) | ct (σ : DS) (h : AH) | ex (c : Nat) (σ : DS) (h : AH) | bad
abbrev SF := DS → AH → O
/-- what an outcome asks -/
def Oo (T : Tb) (W : WX) (m : List Addr) (ah : AH) (H : Hp) (x : O) (Dn : Ends) : Prop :=
  match x with
  | .nx σd ah' => ∀ m' H' σ', Ext m ah H m' ah' H' → Sim T m' ah' H' → EnvR T m' ah' H' σ' σd → Dn.nx σ' H'
  | .rt d ah' => ∀ m' H' v, Ext m ah H m' ah' H' → Sim T m' ah' H' → RD T m' ah' H' v d → Dn.rt v H'
  | .bk σd ah' => ∀ m' H' σ', Ext m ah H m' ah' H' → Sim T m' ah' H' → EnvR T m' ah' H' σ' σd → Dn.bk σ' H'
  | .ct σd ah' => ∀ m' H' σ', Ext m ah H m' ah' H' → Sim T m' ah' H' → EnvR T m' ah' H' σ' σd → Dn.ct σ' H'
  | .ex c σd ah' => ∀ m' H' σ', Ext m ah H m' ah' H' → Sim T m' ah' H' → EnvR T m' ah' H' σ' σd → W (.ref (T.ct c)) none σ' H'
  | .bad => False
def tS (T : Tb) (W : WX) (f : SF) : TS := fun Dn σ H => ∃ m ah σd, Sim T m ah H ∧ EnvR T m ah H σ σd ∧ Oo T W m ah H (f σd ah) Dn
structure DSt (X : Cx) (T : Tb) (W : WX) (st : Stmt) (f : SF) : Prop where
  h : PS X st (tS T W f)
structure DSs (X : Cx) (T : Tb) (W : WX) (st : List Stmt) (f : SF) : Prop where
  h : PSs X st (tS T W f)
theorem _root_.L2.PS.imp {X : Cx} {e : Stmt} {t t' : TS} (h : PS X e t) (i : ∀ D σ H, t' D σ H → t D σ H) : PS X e t' := ⟨fun pins s σ H D I q => h.run pins s σ H D I (i D σ H q)⟩
theorem _root_.L2.PSs.imp {X : Cx} {e : List Stmt} {t t' : TS} (h : PSs X e t) (i : ∀ D σ H, t' D σ H → t D σ H) : PSs X e t' := ⟨fun pins s σ H D I q => h.run pins s σ H D I (i D σ H q)⟩
def O.seq (x : O) (k : DS → AH → O) : O :=
  match x with
  | .nx σ h => k σ h
  | .rt d h => .rt d h
  | .bk σ h => .bk σ h
  | .ct σ h => .ct σ h
  | .ex c σ h => .ex c σ h
  | .bad => .bad
@[simp] theorem O.seq_nx (σ : DS) (h : AH) (k : DS → AH → O) : (O.nx σ h).seq k = k σ h := rfl
@[simp] theorem O.seq_rt (d : D) (h : AH) (k : DS → AH → O) : (O.rt d h).seq k = .rt d h := rfl
@[simp] theorem O.seq_bk (σ : DS) (h : AH) (k : DS → AH → O) : (O.bk σ h).seq k = .bk σ h := rfl
@[simp] theorem O.seq_ct (σ : DS) (h : AH) (k : DS → AH → O) : (O.ct σ h).seq k = .ct σ h := rfl
@[simp] theorem O.seq_ex (c : Nat) (σ : DS) (h : AH) (k : DS → AH → O) : (O.ex c σ h).seq k = .ex c σ h := rfl
@[simp] theorem O.seq_bad (k : DS → AH → O) : O.bad.seq k = .bad := rfl
/-- from an expression's outcome to a statement's -/
def R.then {α : Type} (x : R α) (σ : DS) (k : α → AH → O) : O :=
  match x with
  | .ok a h => k a h
  | .ex c h => .ex c σ h
  | .bad => .bad
@[simp] theorem R.then_ok {α : Type} (a : α) (h : AH) (σ : DS) (k : α → AH → O) : (R.ok a h).then σ k = k a h := rfl
@[simp] theorem R.then_ex {α : Type} (c : Nat) (h : AH) (σ : DS) (k : α → AH → O) : (R.ex c h : R α).then σ k = .ex c σ h := rfl
@[simp] theorem R.then_bad {α : Type} (σ : DS) (k : α → AH → O) : (R.bad : R α).then σ k = .bad := rfl
section
variable {T : Tb} {W : WX} {m m1 : List Addr} {ah ah1 : AH} {H H1 : Hp} {Dn : Ends}
theorem Oo.back {x : O} (E : Ext m ah H m1 ah1 H1) (hl : m.length = ah.length) (S1 : Sim T m1 ah1 H1) (h : Oo T W m ah H x Dn) : Oo T W m1 ah1 H1 x Dn := by
  cases x with
  | nx σd ah' => exact fun m' H' σ' E' S' => h m' H' σ' (E.trans E' hl S1) S'
  | rt d ah' => exact fun m' H' v E' S' => h m' H' v (E.trans E' hl S1) S'
  | bk σd ah' => exact fun m' H' σ' E' S' => h m' H' σ' (E.trans E' hl S1) S'
  | ct σd ah' => exact fun m' H' σ' E' S' => h m' H' σ' (E.trans E' hl S1) S'
  | ex c σd ah' => exact fun m' H' σ' E' S' => h m' H' σ' (E.trans E' hl S1) S'
  | bad => exact h
theorem Oo.seq {x : O} {k : DS → AH → O} (hl : m.length = ah.length) (h : Oo T W m ah H (x.seq k) Dn) : Oo T W m ah H x { Dn with nx := tS T W k Dn } := by
  cases x with
  | nx σd ah' => exact fun m' H' σ' E S En => ⟨m', ah', σd, S, En, Oo.back E hl S h⟩
  | rt d ah' => exact h
  | bk σd ah' => exact h
  | ct σd ah' => exact h
  | ex c σd ah' => exact h
  | bad => exact h
theorem Oo.then {α : Type} {x : R α} {σ : L2.St} {σd : DS} {k : α → AH → O} (hl : m.length = ah.length) (En : EnvR T m ah H σ σd) (h : Oo T W m ah H (x.then σd k) Dn) : Ok T W σ m ah H x fun m1 ah1 H1 a => Oo T W m1 ah1 H1 (k a ah1) Dn := by
  cases x with
  | ok a ah' => exact fun m' H' E S => Oo.back E hl S h
  | ex c ah' => exact fun m' H' E S => h m' H' σ E S (En.ext E hl)
  | bad => exact h
end
section
variable {X : Cx} {T : Tb} {W : WX} {st : Stmt} {sts : List Stmt} {f g : SF} {e c : Expr} {fe : EF} {fc : TF} {pos : Pos}
def sSeq (f g : SF) : SF := fun σ ah => (f σ ah).seq g
def sNx : SF := fun σ ah => .nx σ ah
theorem ds_nil : DSs X T W [] sNx := by
  refine ⟨pss_nil.imp fun D σ H q => ?_⟩
  obtain ⟨m, ah, σd, S, En, q⟩ := q
  exact q m H σ Ext.refl S En
theorem ds_cons (h : DSt X T W st f) (k : DSs X T W sts g) : DSs X T W (st :: sts) (sSeq f g) := by
  refine ⟨(pss_cons h.h k.h).imp fun D σ H q => ?_⟩
  obtain ⟨m, ah, σd, S, En, q⟩ := q
  exact ⟨m, ah, σd, S, En, Oo.seq S.len q⟩
theorem ds_one (h : DSt X T W st f) : DSs X T W [st] f := ⟨pss_one h.h⟩
theorem ds_pass : DSt X T W (.Pass pos) sNx := by
  refine ⟨ps_pass.imp fun D σ H q => ?_⟩
  obtain ⟨m, ah, σd, S, En, q⟩ := q
  exact q m H σ Ext.refl S En
def sBk : SF := fun σ ah => .bk σ ah
def sCt : SF := fun σ ah => .ct σ ah
theorem ds_break : DSt X T W (.Break pos) sBk := by
  refine ⟨ps_break.imp fun D σ H q => ?_⟩
  obtain ⟨m, ah, σd, S, En, q⟩ := q
  exact q m H σ Ext.refl S En
theorem ds_continue : DSt X T W (.Continue pos) sCt := by
  refine ⟨ps_continue.imp fun D σ H q => ?_⟩
  obtain ⟨m, ah, σd, S, En, q⟩ := q
  exact q m H σ Ext.refl S En
def sRet (f : EF) : SF := fun σ ah => (f σ ah).then σ fun d ah1 => .rt d ah1
def sRetN : SF := fun _ ah => .rt (.p .none) ah
theorem ds_ret (h : DE X T W e fe) : DSt X T W (.Return (some e) pos) (sRet fe) := by
  refine ⟨(ps_ret h.h).imp fun D σ H q => ?_⟩
  obtain ⟨m, ah, σd, S, En, q⟩ := q
  exact ⟨m, ah, σd, S, En, (Oo.then S.len En q).mono fun m1 ah1 H1 d E1 S1 h1 v r => h1 m1 H1 v Ext.refl S1 r⟩
theorem ds_retN : DSt X T W (.Return none pos) sRetN := by
  refine ⟨ps_retN.imp fun D σ H q => ?_⟩
  obtain ⟨m, ah, σd, S, En, q⟩ := q
  exact q m H .non Ext.refl S .non
def sExpr (f : EF) : SF := fun σ ah => (f σ ah).then σ fun _ ah1 => .nx σ ah1
theorem ds_expr (h : DE X T W e fe) (hs : swapsWith e none pos.line X.env = pure false := by rfl) : DSt X T W (.Expr e pos) (sExpr fe) := by
  refine ⟨(ps_expr h.h hs).imp fun D σ H q => ?_⟩
  obtain ⟨m, ah, σd, S, En, q⟩ := q
  exact ⟨m, ah, σd, S, En, (Oo.then S.len En q).mono fun m1 ah1 H1 d E1 S1 h1 v r => h1 m1 H1 σ Ext.refl S1 (En.ext E1 S.len)⟩
/-- name = e -/
def sSet (i : Nat) (f : EF) : SF := fun σ ah => (f σ ah).then σ fun d ah1 => .nx (σ.set i (some d)) ah1
theorem ds_set {i : Nat} {x : Str} {pos' : Pos} (hN : X.N.Nodup) (hi : X.N[i]? = some x) (hx : Loc X.env.scope x) (h : DE X T W e fe) (hs : swapsWith e (some (.Name x pos')) pos.line X.env = pure false := by rfl) (hf : X.fn x = true ∨ X.env.scope.names.lookup x = some .local := by first | exact .inl rfl | exact .inr rfl | assumption) :
    DSt X T W (.Assign [.Name x pos'] e pos) (sSet i fe) := by
  refine ⟨(ps_set hN hi hx h.h hs hf).imp fun D σ H q => ?_⟩
  obtain ⟨m, ah, σd, S, En, q⟩ := q
  exact ⟨m, ah, σd, S, En, (Oo.then S.len En q).mono fun m1 ah1 H1 d E1 S1 h1 v r => h1 m1 H1 _ Ext.refl S1 ((En.ext E1 S.len).set i r)⟩
def sIf (c : TF) (f g : SF) : SF := fun σ ah => (c σ ah).then σ fun b ah1 => if b = true then f σ ah1 else g σ ah1
theorem ds_if {a b : List Stmt} (hc : DT X T W c fc) (ha : DSs X T W a f) (hb : DSs X T W b g) : DSt X T W (.If c a b pos) (sIf fc f g) := by
  refine ⟨(ps_if hc.h ha.h hb.h).imp fun D σ H q => ?_⟩
  obtain ⟨m, ah, σd, S, En, q⟩ := q
  refine ⟨m, ah, σd, S, En, (Oo.then S.len En q).mono fun m1 ah1 H1 d E1 S1 h1 => ?_⟩
  cases d with
  | true => rw [if_pos rfl] at h1 ⊢; exact ⟨m1, ah1, σd, S1, En.ext E1 S.len, h1⟩
  | false => rw [if_neg Bool.false_ne_true] at h1 ⊢; exact ⟨m1, ah1, σd, S1, En.ext E1 S.len, h1⟩

/-! ### targets -/
/-- what a target does with a value: the slots behind -/
abbrev GF := D → DS → AH → Option DS
def tG (T : Tb) (g : GF) : TG := fun v σ H Q => ∃ m ah σd d, Sim T m ah H ∧ EnvR T m ah H σ σd ∧ RD T m ah H v d ∧ ∃ σd', g d σd ah = some σd' ∧ ∀ σ', EnvR T m ah H σ' σd' → Q σ' H
structure DG (X : Cx) (T : Tb) (tg : Expr) (g : GF) : Prop where
  h : PG X tg (tG T g)
theorem _root_.L2.PG.imp {X : Cx} {e : Expr} {t t' : TG} (h : PG X e t) (i : ∀ v σ H Q, t' v σ H Q → t v σ H Q) : PG X e t' := ⟨fun pins s σ H v u Q I r q => h.run pins s σ H v u Q I r (i v σ H Q q)⟩
def gN (i : Nat) : GF := fun d σ _ => some (σ.set i (some d))
theorem dg_name {i : Nat} {x : Str} (hN : X.N.Nodup) (hi : X.N[i]? = some x) (hx : Loc X.env.scope x) (hf : X.fn x = true ∨ X.env.scope.names.lookup x = some .local := by first | exact .inl rfl | exact .inr rfl | assumption) : DG X T (.Name x pos) (gN i) := by
  refine ⟨(pg_name hN hi hx hf).imp fun v σ H Q q => ?_⟩
  obtain ⟨m, ah, σd, d, S, En, r, σd', e, q⟩ := q
  cases e
  exact q _ (En.set i r)
/-- (a, b) = a pair, names -/
def gPair (i j : Nat) : GF := fun d σ _ => match d with
  | .p (.tuple [x, y]) => some ((σ.set i (some (.p x))).set j (some (.p y)))
  | _ => none
theorem dg_pair (hT : TX X T) {i j k : Nat} {x y : Str} {p1 p2 : Pos} (hN : X.N.Nodup) (hi : X.N[i]? = some x) (hj : X.N[j]? = some y) (hx : Loc X.env.scope x) (hy : Loc X.env.scope y)
    (hf : X.fn x = true ∨ X.env.scope.names.lookup x = some .local := by first | exact .inl rfl | exact .inr rfl | assumption) (hf' : X.fn y = true ∨ X.env.scope.names.lookup y = some .local := by first | exact .inl rfl | exact .inr rfl | assumption) :
    DG X T (.Tuple [.Name x p1, .Name y p2] k pos) (gPair i j) := by
  refine ⟨(pg_tup hT.calm (pgs_cons (pg_name hN hi hx hf) (pgs_cons (pg_name hN hj hy hf') pgs_nil))).imp fun v σ H Q q => ?_⟩
  obtain ⟨m, ah, σd, d, S, En, r, σd', e, q⟩ := q
  unfold gPair at e
  split at e
  · cases e
    cases r with
    | tup n h a =>
      cases a with
      | cons r1 a =>
        cases a with
        | cons r2 a =>
          cases a
          exact ⟨_, _, rfl, SqT.of h, rfl, _, _, rfl, _, _, rfl, rfl, q _ ((En.set i (d := .p _) r1).set j (d := .p _) r2)⟩
  · cases e
def sAsg (f : EF) (g : GF) : SF := fun σ ah => (f σ ah).then σ fun d ah1 => match g d σ ah1 with
  | some σ' => .nx σ' ah1
  | none => .bad
theorem ds_asg {tg : Expr} {g : GF} (he : DE X T W e fe) (hg : DG X T tg g) (hs : swapsWithSole [tg] e pos.line X.env = pure false := by rfl) (hw : swappedStores [tg] e X.env = pure none := by rfl)
    (h1 : (assignEach [tg] X.env).map (·.2) = [assign tg X.env] := by rfl) : DSt X T W (.Assign [tg] e pos) (sAsg fe g) := by
  refine ⟨(ps_asg he.h hg.h hs hw h1).imp fun D σ H q => ?_⟩
  obtain ⟨m, ah, σd, S, En, q⟩ := q
  refine ⟨m, ah, σd, S, En, (Oo.then S.len En q).mono fun m1 ah1 H1 d E1 S1 h1 v r => ?_⟩
  split at h1
  · rename_i σ' e
    exact ⟨m1, ah1, σd, d, S1, En.ext E1 S.len, r, σ', e, fun σ2 En2 => h1 m1 H1 σ2 Ext.refl S1 En2⟩
  · exact False.elim h1

/-! ### while -/
/-- at most n turns -/
def sWhile (c : TF) (f : SF) : Nat → SF
  | 0 => fun _ _ => .bad
  | n + 1 => fun σ ah => (c σ ah).then σ fun b ah1 => if b = true then (match f σ ah1 with
      | .nx σ' ah' => sWhile c f n σ' ah'
      | .ct σ' ah' => sWhile c f n σ' ah'
      | .bk σ' ah' => .nx σ' ah'
      | .rt d ah' => .rt d ah'
      | .ex k σ' ah' => .ex k σ' ah'
      | .bad => .bad) else .nx σ ah1
theorem ds_while {body : List Stmt} (n : Nat) (hp : PassesOwn (model X.prog X.w) X.A X.env X.xe) (hc : DT X T W c fc) (hb : DSs X T W body f) : DSt X T W (.While c body [] pos) (sWhile fc f n) := by
  refine ⟨(ps_while hp hc.h hb.h).imp fun D σ H q => ?_⟩
  refine ⟨fun k σ H => ∃ m ah σd, Sim T m ah H ∧ EnvR T m ah H σ σd ∧ Oo T W m ah H (sWhile fc f k σd ah) D, ⟨n, q⟩, fun k σ H q => ?_⟩
  obtain ⟨m, ah, σd, S, En, q⟩ := q
  cases k with
  | zero => exact False.elim q
  | succ k =>
    refine ⟨m, ah, σd, S, En, (Oo.then S.len En q).mono fun m1 ah1 H1 d E1 S1 h1 => ?_⟩
    have En1 := En.ext E1 S.len
    dsimp only
    cases d with
    | false => rw [if_neg Bool.false_ne_true] at h1 ⊢; exact h1 m1 H1 σ Ext.refl S1 En1
    | true =>
      rw [if_pos rfl] at h1 ⊢
      refine ⟨fun σ' H' => ∃ m ah σd, Sim T m ah H' ∧ EnvR T m ah H' σ' σd ∧ Oo T W m ah H' (sWhile fc f k σd ah) D, fun σ' H' q => ⟨k, Nat.lt_succ_self k, q⟩, m1, ah1, σd, S1, En1, ?_⟩
      cases z : f σd ah1 with
      | nx σ' ah' => rw [z] at h1; exact fun m2 H2 σ2 E2 S2 En2 => ⟨m2, ah', σ', S2, En2, Oo.back E2 S1.len S2 h1⟩
      | ct σ' ah' => rw [z] at h1; exact fun m2 H2 σ2 E2 S2 En2 => ⟨m2, ah', σ', S2, En2, Oo.back E2 S1.len S2 h1⟩
      | bk σ' ah' => rw [z] at h1; exact h1
      | rt d ah' => rw [z] at h1; exact h1
      | ex c σ' ah' => rw [z] at h1; exact h1
      | bad => rw [z] at h1; exact h1

/-! ### what is walked -/
/-- the items; what must not change meanwhile -/
abbrev IF := DS → AH → R (List D)
/-- J gives the items ds, from (m, ah, H) on, while the store keeps what keep says -/
def JOk (T : Tb) (m : List Addr) (ah : AH) (H : Hp) (ds : List D) (J : It) : Prop :=
  ∀ m2 ah2 H2 i, Ext m ah H m2 ah2 H2 → Sim T m2 ah2 H2 → (∀ d, ds[i]? = some d → J.go i H2 ∧ ∀ x H3, J.yld i H2 x H3 → Ext m2 ah2 H2 m2 ah2 H3 ∧ Sim T m2 ah2 H3 ∧ RD T m2 ah2 H3 x d) ∧ (ds[i]? = none → J.stop i H2)
abbrev Tb.more (T : Tb) (D : Addr) : Tb := { T with G := D :: T.G }
/-- .. with a list in the making beside, too -/
def JAll (T : Tb) (m : List Addr) (ah : AH) (H : Hp) (ds : List D) (J : It) : Prop := JOk T m ah H ds J ∧ ∀ (D : Addr) (o : HO), H D = none → JOk (T.more D) m ah (upd H D o) ds J
def tI (T : Tb) (W : WX) (f : IF) : TI := fun σ H R => ∃ m ah σd, Sim T m ah H ∧ EnvR T m ah H σ σd ∧ Ok T W σ m ah H (f σd ah) fun m' ah' H' ds => ∀ J, JAll T m' ah' H' ds J → R J H'
structure DI (X : Cx) (T : Tb) (W : WX) (tg iter : Expr) (f : IF) : Prop where
  h : PI X tg iter (tI T W f)
theorem _root_.L2.PI.imp {X : Cx} {tg e : Expr} {t t' : TI} (h : PI X tg e t) (i : ∀ σ H R, t' σ H R → t σ H R) : PI X tg e t' := ⟨fun pins s σ H R I q => h.run pins s σ H R I (i σ H R q)⟩
/-- for -/
def forL (g : GF) (f : SF) : List D → SF
  | [] => fun σ ah => .nx σ ah
  | d :: ds => fun σ ah => match g d σ ah with
    | none => .bad
    | some σ1 => match f σ1 ah with
      | .nx σ' ah' => forL g f ds σ' ah'
      | .ct σ' ah' => forL g f ds σ' ah'
      | .bk σ' ah' => .nx σ' ah'
      | .rt d ah' => .rt d ah'
      | .ex k σ' ah' => .ex k σ' ah'
      | .bad => .bad
def sFor (fi : IF) (g : GF) (f : SF) : SF := fun σ ah => (fi σ ah).then σ fun ds ah1 => forL g f ds σ ah1
theorem ds_for {tg iter : Expr} {body : List Stmt} {fi : IF} {g : GF} (hp : PassesOwn (model X.prog X.w) X.A X.env X.xe) (hT : TX X T) (hi : DI X T W tg iter fi) (hg : DG X T tg g) (hb : DSs X T W body f)
    (hs : ∀ x, foldedSetIterable iter X.env x = pure x := by intro _; rfl) : DSt X T W (.For tg iter body [] pos) (sFor fi g f) := by
  refine ⟨(ps_for hp hT.calm hi.h hg.h hb.h hs).imp fun D σ H q => ?_⟩
  obtain ⟨m, ah, σd, S, En, q⟩ := q
  refine ⟨m, ah, σd, S, En, (Oo.then S.len En q).mono fun m1 ah1 H1 ds E1 S1 h1 J hJA => ?_⟩
  have hJ := hJA.1
  have En1 := En.ext E1 S.len
  refine ⟨fun i k σ H => ∃ m2 ah2 σ2, Ext m1 ah1 H1 m2 ah2 H ∧ Sim T m2 ah2 H ∧ EnvR T m2 ah2 H σ σ2 ∧ k = ds.length - i ∧ i ≤ ds.length ∧ Oo T W m2 ah2 H (forL g f (ds.drop i) σ2 ah2) D,
    ⟨ds.length, m1, ah1, σd, Ext.refl, S1, En1, rfl, Nat.zero_le _, h1⟩, ?_⟩
  rintro i k σ2 H2 ⟨m2, ah2, σd2, E2, S2, En2, rfl, hi, h2⟩
  obtain ⟨j1, j2⟩ := hJ m2 ah2 H2 i E2 S2
  by_cases hlt : i < ds.length
  · refine .inr ?_
    have e : ds[i]? = some ds[i] := List.getElem?_eq_getElem hlt
    have ed : ds.drop i = ds[i] :: ds.drop (i + 1) := by rw [List.drop_eq_getElem_cons hlt]
    obtain ⟨go, yl⟩ := j1 _ e
    rw [ed] at h2
    refine ⟨go, fun σ H => ∃ m2 ah2 σ2, Ext m1 ah1 H1 m2 ah2 H ∧ Sim T m2 ah2 H ∧ EnvR T m2 ah2 H σ σ2 ∧ Oo T W m2 ah2 H (forL g f (ds.drop (i + 1)) σ2 ah2) D, fun σ' H' ⟨m3, ah3, σ3, E3, S3, En3, h3⟩ => ⟨ds.length - (i + 1), by omega, m3, ah3, σ3, E3, S3, En3, rfl, hlt, h3⟩, fun x H3 y => ?_⟩
    obtain ⟨E3, S3, r3⟩ := yl x H3 y
    have h3 := Oo.back E3 S2.len S3 h2
    unfold forL at h3
    split at h3
    · exact False.elim h3
    · rename_i σ1 eg
      refine ⟨m2, ah2, σd2, _, S3, En2.ext E3 S2.len, r3, σ1, eg, fun σ' En' => ⟨m2, ah2, σ1, S3, En', ?_⟩⟩
      have E3' : Ext m1 ah1 H1 m2 ah2 H3 := E2.trans E3 S1.len S2
      cases z : f σ1 ah2 with
      | nx σ' ah' => rw [z] at h3; exact fun m4 H4 σ4 E4 S4 En4 => ⟨m4, ah', σ', E3'.trans E4 S1.len S3, S4, En4, Oo.back E4 S3.len S4 h3⟩
      | ct σ' ah' => rw [z] at h3; exact fun m4 H4 σ4 E4 S4 En4 => ⟨m4, ah', σ', E3'.trans E4 S1.len S3, S4, En4, Oo.back E4 S3.len S4 h3⟩
      | bk σ' ah' => rw [z] at h3; exact h3
      | rt d ah' => rw [z] at h3; exact h3
      | ex c σ' ah' => rw [z] at h3; exact h3
      | bad => rw [z] at h3; exact h3
  · have ei : i = ds.length := by omega
    refine .inl ⟨j2 (List.getElem?_eq_none (by omega)), ?_⟩
    rw [ei, List.drop_length] at h2
    exact h2 m2 H2 σ2 Ext.refl S2 En2
/-- over a list or a tuple -/
def iSeq (f : EF) : IF := fun σ ah => (f σ ah).bind fun d ah1 => match d with
  | .p (.list xs) => .ok (xs.map .p) ah1
  | .p (.tuple xs) => .ok (xs.map .p) ah1
  | .s ns => .ok (ns.map fun i => .p (.int i)) ah1
  | _ => .bad
def isSeqTup : D → Bool
  | .p (.tuple _) => true
  | _ => false
theorem sqL_stable {m m2 : List Addr} {ah ah2 : AH} {H H2 : Hp} {a : Addr} {xs ys : List V} (e : H a = some (.lst xs)) (n : ¬ Live m ah a) (E : Ext m ah H m2 ah2 H2) : H2 a = some (.lst xs) := E.keep a _ e n
/-- what a list shows at one state: its items as data -/
theorem pdA_get {L : Addr → Prop} {H : Hp} : ∀ {vs : List V} {ds : List PyData} {i : Nat} {d : PyData}, PdA T.B L H vs ds → ds[i]? = some d → ∃ v, vs[i]? = some v ∧ Pd T.B L H v d
  | _, [], _, _, .nil, h => by simp at h
  | _, _ :: _, 0, _, .cons h t, e => by simp at e; subst e; exact ⟨_, rfl, h⟩
  | _, _ :: _, i + 1, d, .cons h t, e => by
    obtain ⟨v, h1, h2⟩ := pdA_get (i := i) t (by simpa using e)
    exact ⟨v, by simpa using h1, h2⟩
end
end DL

set_option Elab.async false
set_option linter.all false
set_option maxRecDepth 100000
/-! DLe: what is walked, comprehensions, defs and their calls. -/
namespace DL
open PySem PySem.Spec PyProof.Rows L2
section
variable {X : Cx} {T : Tb} {W : WX} {e : Expr} {fe : EF} {fa : AF} {pos : Pos} {tg : Expr}
theorem notLV_more {m : List Addr} {ah : AH} {H : Hp} {D : Addr} (hD : H D = none) (a : Addr) (q : H a ≠ none) (n : ¬ LV T m ah a) : ¬ LV (T.more D) m ah a := fun z => by
  rcases z with z | z
  · exact n (.inl z)
  · rcases List.mem_cons.mp z with z | z
    · rw [z] at q; exact q hD
    · exact n (.inr z)
theorem pd_more {m : List Addr} {ah : AH} {H : Hp} {D : Addr} {o : HO} (hD : H D = none) {v : V} {d : PyData} (h : Pd T.B (LV T m ah) H v d) : Pd T.B (LV (T.more D) m ah) (upd H D o) v d := Pd.mono (fun a u q _ => grow_upd hD a u q) (notLV_more hD) d v h
theorem pdA_more {m : List Addr} {ah : AH} {H : Hp} {D : Addr} {o : HO} (hD : H D = none) {v : List V} {d : List PyData} (h : PdA T.B (LV T m ah) H v d) : PdA T.B (LV (T.more D) m ah) (upd H D o) v d := PdA.mono (fun a u q _ => grow_upd hD a u q) (notLV_more hD) d v h
theorem pdK_more {m : List Addr} {ah : AH} {H : Hp} {D : Addr} {o : HO} (hD : H D = none) {v : List (NestedKey × Addr × V)} {d : List (PyData × PyData)} (h : PdK T.B (LV T m ah) H v d) : PdK T.B (LV (T.more D) m ah) (upd H D o) v d := PdK.mono (fun a u q _ => grow_upd hD a u q) (notLV_more hD) d v h
theorem rd_more {m : List Addr} {ah : AH} {H : Hp} {N : Addr} {o : HO} (hD : H N = none) {v : V} {d : D} (r : RD T m ah H v d) : RD (T.more N) m ah (upd H N o) v d := by
  cases d with
  | p d => exact pd_more hD r
  | r i => exact r
  | f i => exact r
  | s ns =>
    obtain ⟨h1, h2⟩ := r
    refine ⟨h1, ?_⟩
    rcases h2 with ⟨n, q⟩ | q
    · exact .inl ⟨notLV_more hD _ (Rd.trk q) n, Rd.ext (Ext.grow (m := m) (ah := ah) (grow_upd (o := o) hD)) (fun z => n (.inl z)) q⟩
    · exact .inr q
/-- D joins the lists in the making -/
theorem Sim.more {m : List Addr} {ah : AH} {H : Hp} (S : Sim T m ah H) {D : Addr} {o : HO} (hD : H D = none) : Sim (T.more D) m ah (upd H D o) := by
  have S1 := S.grow (grow_upd (o := o) hD)
  have nD : D ∉ m := S.fresh hD
  refine ⟨S.len, S.nd, S1.trk, fun a ha => ?_, fun i a u h1 h2 => ?_⟩
  · rcases List.mem_cons.mp ha with z | z
    · rw [z, upd_same]
      exact ⟨by simp, nD⟩
    · exact S1.gs a z
  · have q := S.at_ i a u h1 h2
    cases u with
    | dead => trivial
    | lst ds =>
      obtain ⟨vs, g1, g2⟩ := q
      exact ⟨vs, grow_upd hD _ _ g1, Paired.mapR g2 fun _ _ z => rd_more hD z⟩
    | dct kvs =>
      obtain ⟨xs, g1, g2⟩ := q
      exact ⟨xs, g1.of_eq fun u z => grow_upd hD _ _ z, Paired.mapR g2 fun x kv z => ⟨z.1, z.2.1, pd_more hD z.2.2.1, rd_more hD z.2.2.2⟩⟩
theorem EnvR.more {m : List Addr} {ah : AH} {H : Hp} {σ : L2.St} {σd : DS} (En : EnvR T m ah H σ σd) {D : Addr} {o : HO} (hD : H D = none) : EnvR (T.more D) m ah (upd H D o) σ σd :=
  ⟨En.1, fun i d e => let ⟨v, h1, r⟩ := En.2 i d e; ⟨v, h1, rd_more hD r⟩⟩
/-- the items of a list -/
def iLst (f : EF) : IF := fun σ ah => (f σ ah).bind fun d ah1 => match d with
  | .p (.list xs) => .ok (xs.map .p) ah1
  | .s ns => .ok (ns.map fun i => .p (.int i)) ah1
  | _ => .bad
def iTpl (f : EF) : IF := fun σ ah => (f σ ah).bind fun d ah1 => match d with
  | .p (.tuple xs) => .ok (xs.map .p) ah1
  | _ => .bad
theorem map_get {α β : Type} {f : α → β} {l : List α} {i : Nat} {y : β} (h : (l.map f)[i]? = some y) : ∃ x, l[i]? = some x ∧ y = f x := by
  rw [List.getElem?_map] at h
  cases q : l[i]? with
  | none => rw [q] at h; cases h
  | some x => rw [q] at h; exact ⟨x, rfl, (Option.some.inj h).symm⟩
theorem map_none {α β : Type} {f : α → β} {l : List α} {i : Nat} (h : (l.map f)[i]? = none) : l.length ≤ i := by
  rw [List.getElem?_map] at h
  cases q : l[i]? with
  | none => exact List.getElem?_eq_none_iff.mp q
  | some x => rw [q] at h; cases h
theorem jok_list {m : List Addr} {ah : AH} {H : Hp} {a : Addr} {vs : List V} {ds : List PyData} (S : Sim T m ah H) (n : ¬ LV T m ah a) (h : H a = some (.lst vs)) (p : PdA T.B (LV T m ah) H vs ds) : JOk T m ah H (ds.map .p) (Itl T.K a) := by
  intro m2 ah2 H2 i E S2
  have h2 := E.kept h n
  have p2 := PdA.ext E S.len ds vs p
  refine ⟨fun d e => ?_, fun e => ⟨vs, SqL.of h2, by rw [p.len]; exact map_none e⟩⟩
  obtain ⟨x, e1, rfl⟩ := map_get e
  obtain ⟨v, hv, r⟩ := pdA_get p2 e1
  refine ⟨⟨vs, v, SqL.of h2, hv⟩, fun y H3 q => ?_⟩
  obtain ⟨rfl, q⟩ := q
  have := q vs (SqL.of h2)
  rw [hv] at this
  cases this
  exact ⟨Ext.refl, S2, r⟩
theorem jok_script {m : List Addr} {ah : AH} {H : Hp} {ns : List Int} {v : V} (S : Sim T m ah H) (r : RD T m ah H v (.s ns)) : v = .ref T.sa ∧ SqL T.K H T.sa (ns.map V.int) ∧ JOk T m ah H (ns.map fun i => .p (.int i)) (Itl T.K T.sa) := by
  have stable : ∀ m2 ah2 H2, Ext m ah H m2 ah2 H2 → SqL T.K H2 T.sa (ns.map V.int) := fun m2 ah2 H2 E => by
    obtain ⟨_, h⟩ := RD.ext E S.len r
    rcases h with ⟨_, h⟩ | h
    · exact .inl h
    · exact .inr h
  refine ⟨r.1, stable _ _ _ Ext.refl, fun m2 ah2 H2 i E S2 => ?_⟩
  have h2 := stable _ _ _ E
  refine ⟨fun d e => ?_, fun e => ⟨_, h2, by rw [List.length_map]; exact map_none e⟩⟩
  obtain ⟨x, e1, rfl⟩ := map_get e
  refine ⟨⟨_, .int x, h2, by rw [List.getElem?_map, e1]; rfl⟩, fun y H3 q => ?_⟩
  obtain ⟨rfl, q⟩ := q
  have := q _ h2
  rw [List.getElem?_map, e1] at this
  cases this
  exact ⟨Ext.refl, S2, .int x⟩
theorem jok_tpl {m : List Addr} {ah : AH} {H : Hp} {a : Addr} {vs : List V} {ds : List PyData} (S : Sim T m ah H) (n : ¬ LV T m ah a) (h : H a = some (.tup vs)) (p : PdA T.B (LV T m ah) H vs ds) : JOk T m ah H (ds.map .p) (Itt T.K a) := by
  intro m2 ah2 H2 i E S2
  have h2 := E.kept h n
  have p2 := PdA.ext E S.len ds vs p
  refine ⟨fun d e => ?_, fun e => ⟨vs, SqT.of h2, by rw [p.len]; exact map_none e⟩⟩
  obtain ⟨x, e1, rfl⟩ := map_get e
  obtain ⟨v, hv, r⟩ := pdA_get p2 e1
  refine ⟨⟨vs, v, SqT.of h2, hv⟩, fun y H3 q => ?_⟩
  obtain ⟨rfl, q⟩ := q
  have := q vs (SqT.of h2)
  rw [hv] at this
  cases this
  exact ⟨Ext.refl, S2, r⟩
theorem di_lst (hT : TX X T) (h : DE X T W e fe) : DI X T W tg e (iLst fe) := by
  refine ⟨(pi_list h.h).imp fun σ H R q => ?_⟩
  obtain ⟨m, ah, σd, S, En, q⟩ := q
  refine ⟨m, ah, σd, S, En, (Ok.bind S.len q).mono fun m1 ah1 H1 d E1 S1 h1 v r => ?_⟩
  split at h1
  · cases r with
    | lst n g p =>
      refine ⟨_, rfl, ⟨_, SqL.of g⟩, ?_⟩
      rw [← hT.K]
      exact h1.here S1 _ ⟨jok_list S1 n g p, fun D o hD => jok_list (T := T.more D) (S1.more hD) (notLV_more hD _ (by rw [g]; simp) n) (grow_upd hD _ _ g) (pdA_more hD p)⟩
  · obtain ⟨rfl, g1, g2⟩ := jok_script S1 r
    refine ⟨_, rfl, ⟨_, by rw [← hT.K]; exact g1⟩, ?_⟩
    rw [← hT.K]
    exact h1.here S1 _ ⟨g2, fun D o hD => (jok_script (T := T.more D) (S1.more hD) (rd_more hD r)).2.2⟩
  · exact False.elim h1
theorem di_tpl (hT : TX X T) (h : DE X T W e fe) : DI X T W tg e (iTpl fe) := by
  refine ⟨(pi_tup h.h).imp fun σ H R q => ?_⟩
  obtain ⟨m, ah, σd, S, En, q⟩ := q
  refine ⟨m, ah, σd, S, En, (Ok.bind S.len q).mono fun m1 ah1 H1 d E1 S1 h1 v r => ?_⟩
  split at h1
  · rename_i xs
    cases r with
    | tup n g p =>
      refine ⟨_, rfl, ⟨_, SqT.of g⟩, ?_⟩
      rw [← hT.K]
      exact h1.here S1 _ ⟨jok_tpl S1 n g p, fun D o hD => jok_tpl (T := T.more D) (S1.more hD) (notLV_more hD _ (by rw [g]; simp) n) (grow_upd hD _ _ g) (pdA_more hD p)⟩
  · exact False.elim h1
/-- range -/
def rangeD (lo : Int) (n : Nat) : List D := (List.range n).map fun (i : Nat) => .p (.int (lo + i))
def rOk (i : Int) : Bool := decide (-(2 ^ 62) ≤ i ∧ i < 2 ^ 62)
def iRange1 (fa : AF) : IF := fun σ ah => (fa σ ah).bind fun ds ah1 => match ds with
  | [.p (.int j)] => if rOk j then .ok (rangeD 0 j.toNat) ah1 else .bad
  | _ => .bad
def iRange2 (fa : AF) : IF := fun σ ah => (fa σ ah).bind fun ds ah1 => match ds with
  | [.p (.int i), .p (.int j)] => if rOk i && rOk j then .ok (rangeD i (j - i).toNat) ah1 else .bad
  | _ => .bad
theorem jok_range {m : List Addr} {ah : AH} {H : Hp} {lo : Int} {n : Nat} (S : Sim T m ah H) : JOk T m ah H (rangeD lo n) (Itr lo n) := by
  intro m2 ah2 H2 i E S2
  refine ⟨fun d e => ?_, fun e => ?_⟩
  · obtain ⟨x, e1, rfl⟩ := map_get e
    obtain ⟨hl, e2⟩ := List.getElem?_eq_some_iff.mp e1
    rw [List.length_range] at hl
    rw [List.getElem_range] at e2
    subst e2
    refine ⟨hl, fun y H3 q => ?_⟩
    obtain ⟨rfl, rfl⟩ := q
    exact ⟨Ext.refl, S2, .int _⟩
  · have := map_none e
    rw [List.length_range] at this
    exact this
theorem di_range1 {a : Expr} {p : Pos} (hg : Gl X "range") (hm : X.mg "range" = none) (h : DA X T W [a] fa) (hs : starEach [a] X.env = [(false, eval a X.env)] := by rfl) : DI X T W tg (.Call (.Name "range" p) [a] [] pos) (iRange1 fa) := by
  refine ⟨(pi_range1 hg hm h.h hs).imp fun σ H R q => ?_⟩
  obtain ⟨m, ah, σd, S, En, q⟩ := q
  refine ⟨m, ah, σd, S, En, (Ok.bind S.len q).mono fun m1 ah1 H1 ds E1 S1 h1 vs r => ?_⟩
  split at h1
  · rename_i j
    split at h1
    · rename_i c
      cases r with
      | cons r1 r2 =>
        cases r2
        cases r1
        have c' := of_decide_eq_true c
        exact ⟨j, rfl, c'.1, c'.2, h1.here S1 _ ⟨jok_range S1, fun D o hD => jok_range (T := T.more D) (S1.more hD)⟩⟩
    · exact False.elim h1
  · exact False.elim h1
theorem di_range2 {a b : Expr} {p : Pos} (hg : Gl X "range") (hm : X.mg "range" = none) (h : DA X T W [a, b] fa) (hs : starEach [a, b] X.env = [(false, eval a X.env), (false, eval b X.env)] := by rfl) (hs2 : starEach [b] X.env = [(false, eval b X.env)] := by rfl) :
    DI X T W tg (.Call (.Name "range" p) [a, b] [] pos) (iRange2 fa) := by
  refine ⟨(pi_range2 hg hm h.h hs hs2).imp fun σ H R q => ?_⟩
  obtain ⟨m, ah, σd, S, En, q⟩ := q
  refine ⟨m, ah, σd, S, En, (Ok.bind S.len q).mono fun m1 ah1 H1 ds E1 S1 h1 vs r => ?_⟩
  split at h1
  · rename_i i j
    split at h1
    · rename_i c
      rw [Bool.and_eq_true] at c
      cases r with
      | cons r1 r2 =>
        cases r2 with
        | cons r2 r3 =>
          cases r3
          cases r1
          cases r2
          have c1 := of_decide_eq_true c.1
          have c2 := of_decide_eq_true c.2
          exact ⟨i, j, rfl, ⟨c1.1, c1.2, c2.1, c2.2⟩, h1.here S1 _ ⟨jok_range S1, fun D o hD => jok_range (T := T.more D) (S1.more hD)⟩⟩
    · exact False.elim h1
  · exact False.elim h1

/-! ### the keys of a pure dict -/
def ItK (a : Addr) (o : Obj) (es : Array DictEntry) : It :=
  ⟨fun i H => H a = some (.ext fun h => h.get? a = some o) ∧ i < es.size, fun i H x H' => H' = H ∧ ∃ e, es[i]? = some e ∧ RelV x e.key, fun i H => H a = some (.ext fun h => h.get? a = some o) ∧ es.size ≤ i⟩
theorem turn_keysD {P : Program} {w : World} {K : PySem.W.Frag} {a : Addr} {o : Obj} {es : Array DictEntry} {ep : Nat} (it : Addr) (hx : o.ExactDict) (hd : o.data = .dict es ep) (hk : ∀ (i : Nat) (e : DictEntry), es[i]? = some e → ∃ b, e.key = Value.ref b) : Turn P w K tg (ItK a o es) [it] it (fun i h => h.IsKeyIter it a i es.size ep) where
  mem := by simp
  obj := fun i h st b hb => by
    have e : b = it := by simpa using hb
    subst e
    obtain ⟨oi, e, c, dd⟩ := st
    exact ⟨oi, e, fun v z => by rw [dd] at z; cases z⟩
  keep := fun i h h' st k => st.at fun oi e => k it (by simp) oi e
  item := by
    intro X hP hw hK hc i pins s σ H E I hf st hg
    subst hP hw hK
    obtain ⟨hH, hi⟩ := hg
    obtain ⟨f0, f1, f2, f3, f4, f5⟩ := hf it (by simp)
    have ho : s.heap.get? a = some o := (I.hok a _ hH).1
    refine wpAny_pyNext_keys_item_raw st ⟨o, ho, hx, hd⟩ hi fun h' st' sb => ?_
    have I1 : Inv X pins σ H { s with heap := h' } := I.turned (t' := s.toks) (fun b ob hb e => (sb.2 b hb).trans e) f0 f1 f3 f4 f5
    obtain ⟨oi, e, c, dd⟩ := id st'
    obtain ⟨b, hb⟩ := hk i es[i] (Array.getElem?_eq_getElem hi)
    exact ⟨_, rfl, go_of (s := { s with heap := h' }) e c dd (by decide) ⟨.ref b, H, I1, hb, ⟨rfl, es[i], Array.getElem?_eq_getElem hi, hb⟩, st', fun b hb => (hf b hb).1⟩⟩
  done := by
    intro X hP hw hK hc i pins s σ H E I hf st hg
    subst hP hw hK
    obtain ⟨hH, hi⟩ := hg
    obtain ⟨f0, f1, f2, f3, f4, f5⟩ := hf it (by simp)
    have ho : s.heap.get? a = some o := (I.hok a _ hH).1
    exact wpAny_pyNext_keys_end_raw (I.ok.hd hc) st ⟨o, ho, hx, hd⟩ hi fun h' eb => ⟨rfl, I.turned (t' := s.toks) (fun b ob hb e => eb b ob hb e) f0 f1 f3 f4 f5⟩
  self := fun A i s Q E st h => wpAny_pyIter_keyiter st h
def iKeysT (te : TE) : TI := fun σ H R => te σ H fun x H1 => ∃ a o es ep, x = .ref a ∧ (a == sysModules) = false ∧ H1 a = some (.ext fun h => h.get? a = some o) ∧ o.ExactDict ∧ o.data = .dict es ep ∧ (∀ (i : Nat) (e : DictEntry), es[i]? = some e → ∃ b, e.key = Value.ref b) ∧ R (ItK a o es) H1
theorem pi_keysD {te : TE} (h : PE X e te) : PI X tg e (iKeysT te) := by
  refine ⟨fun pins s σ H R I hw => ?_⟩
  refine thn (h.run pins s σ H _ I hw) fun v s1 ⟨x, H1, I1, r1, a, o, es, ep, ex, hs, hH, hx, hd, hk, q⟩ => ?_
  subst ex
  cases r1
  have ho : s1.heap.get? a = some o := (I1.hok a _ hH).1
  refine wpAny_pyIter_dict_raw hs ⟨o, ho, hx, hd⟩ ?_
  refine ⟨s1.heap.objs.size, [s1.heap.objs.size], _, _, H1, rfl, I1.kept (t' := s1.toks) fun b ob e => Heap.get?_push_of_some _ e, turn_keysD _ hx hd hk, ⟨_, Heap.get?_push_size _ rfl, rfl, ?_⟩, fun b hb => ?_, q⟩
  · simp [rawInt]
  · have e : b = s1.heap.objs.size := by simpa using hb
    subst e
    exact I1.fpOk (Nat.le_refl _) (I1.hok.fresh (Nat.le_refl _))
def iKeys (f : EF) : IF := fun σ ah => (f σ ah).bind fun d ah1 => match d with
  | .p (.dict kvs) => .ok (kvs.map fun e => .p e.1) ah1
  | _ => .bad
theorem keyAt {B : Tw} {es : Array DictEntry} {ys : List (NestedKey × Addr × Value)} (he : es.toList = ys.map (entryOfKey (nestedKind B.P B.w))) (i : Nat) (en : DictEntry) (q : es[i]? = some en) : ∃ y, ys[i]? = some y ∧ en.key = .ref y.2.1 := by
  rw [← Array.getElem?_toList, he] at q
  obtain ⟨y, q1, q2⟩ := map_get q
  exact ⟨y, q1, by rw [q2]; rfl⟩
theorem jok_keys {m : List Addr} {ah : AH} {H : Hp} {a : Addr} {xs : List (NestedKey × Addr × V)} {kvs : List (PyData × PyData)} {o : Obj} {es : Array DictEntry} {ys : List (NestedKey × Addr × Value)} (S1 : Sim T m ah H) (n : ¬ LV T m ah a) (hH : H a = some (.ext fun h => h.get? a = some o))
    (he : es.toList = ys.map (entryOfKey (nestedKind T.B.P T.B.w))) (pp : Paired (fun (x : NestedKey × Addr × V) (y : NestedKey × Addr × Value) => x.1 = y.1 ∧ x.2.1 = y.2.1 ∧ RelV x.2.2 y.2.2) xs ys) (p : PdK T.B (LV T m ah) H xs kvs) : JOk T m ah H (kvs.map fun e => .p e.1) (ItK a o es) := by
  have pk := PdK.paired p
  intro m2 ah2 H2 i E S2
  have h2 := E.kept hH n
  have hsz : es.size = kvs.length := by
    rw [← Array.length_toList, he, List.length_map, ← paired_len pp, paired_len pk]
  refine ⟨fun d e => ?_, fun e => ⟨h2, by rw [hsz]; exact map_none e⟩⟩
  obtain ⟨kv, e1, rfl⟩ := map_get e
  obtain ⟨x, hx1, hx2⟩ := paired_get pk e1
  have hi : i < es.size := by rw [hsz]; exact (List.getElem?_eq_some_iff.mp e1).1
  refine ⟨⟨h2, hi⟩, fun v H3 q => ?_⟩
  obtain ⟨rfl, en, q1, q2⟩ := q
  refine ⟨Ext.refl, S2, ?_⟩
  obtain ⟨y, hy, hk⟩ := keyAt he i en q1
  have hxy : x.2.1 = y.2.1 := by
    obtain ⟨x', e2, e3⟩ := paired_get pp hy
    rw [hx1] at e2; cases e2
    exact e3.2.1
  rw [hk] at q2
  have ev : v = .ref y.2.1 := q2.inj (show RelV (.ref y.2.1) _ from rfl)
  rw [ev, ← hxy]
  exact Pd.ext E S1.len _ _ hx2.2.2.1
theorem di_keys (h : DE X T W e fe) : DI X T W tg e (iKeys fe) := by
  refine ⟨(pi_keysD h.h).imp fun σ H R q => ?_⟩
  obtain ⟨m, ah, σd, S, En, q⟩ := q
  refine ⟨m, ah, σd, S, En, (Ok.bind S.len q).mono fun m1 ah1 H1 d E1 S1 h1 v r => ?_⟩
  split at h1
  · rename_i kvs
    cases r with
    | dct n g p =>
      obtain ⟨o, es, ep, ys, hH, hx, hd, he, hn, hs, hz, pp⟩ := g
      refine ⟨_, o, es, ep, rfl, hs, hH, hx, hd, fun i en q => ?_, h1.here S1 _ ⟨jok_keys S1 n hH he pp p, fun D u hD => jok_keys (T := T.more D) (S1.more hD) (notLV_more hD _ (by rw [hH]; simp) n) (grow_upd hD _ _ hH) he pp (pdK_more hD p)⟩⟩
      obtain ⟨y, _, q2⟩ := keyAt he i en q
      exact ⟨_, q2⟩
  · exact False.elim h1

/-! ### zip, enumerate of lists -/
def iZipL (fa : AF) : IF := fun σ ah => (fa σ ah).bind fun ds ah1 => match ds with
  | [.p (.list xs), .p (.list ys)] => .ok ((xs.zip ys).map fun z => .p (.tuple [z.1, z.2])) ah1
  | _ => .bad
theorem pair_new {m2 : List Addr} {ah2 : AH} {H2 H3 : Hp} {u : V} {Ta : Addr} {x y : V} {a b : PyData} (S2 : Sim T m2 ah2 H2) (hp : H2 Ta = none) (e : H3 = upd H2 Ta (.tup [x, y])) (hx : Pd T.B (LV T m2 ah2) H2 x a) (hy : Pd T.B (LV T m2 ah2) H2 y b) :
    Ext m2 ah2 H2 m2 ah2 H3 ∧ Sim T m2 ah2 H3 ∧ RD T m2 ah2 H3 (.ref Ta) (.p (.tuple [a, b])) := by
  subst e
  have E := Ext.grow (m := m2) (ah := ah2) (grow_upd (o := HO.tup [x, y]) hp)
  exact ⟨E, S2.grow (grow_upd hp), .tup (notLive_fresh S2 hp) upd_same (.cons (Pd.ext E S2.len _ _ hx) (.cons (Pd.ext E S2.len _ _ hy) .nil))⟩
theorem jok_zip {m : List Addr} {ah : AH} {H : Hp} {a b : Addr} {vs ws : List V} {xs ys : List PyData} (S1 : Sim T m ah H) (n1 : ¬ LV T m ah a) (n2 : ¬ LV T m ah b) (g1 : H a = some (.lst vs)) (g2 : H b = some (.lst ws)) (a1 : PdA T.B (LV T m ah) H vs xs) (a2 : PdA T.B (LV T m ah) H ws ys) :
    JOk T m ah H ((xs.zip ys).map fun z => .p (.tuple [z.1, z.2])) (Itz T.K a b) := by
  intro m2 ah2 H2 i E S2
  have k1 := E.kept g1 n1
  have k2 := E.kept g2 n2
  have p1 := PdA.ext E S1.len _ _ a1
  have p2 := PdA.ext E S1.len _ _ a2
  refine ⟨fun d e => ?_, fun e => ?_⟩
  · obtain ⟨z, e1, rfl⟩ := map_get e
    rw [List.getElem?_zip_eq_some] at e1
    obtain ⟨u1, hu1, q1⟩ := pdA_get p1 e1.1
    obtain ⟨u2, hu2, q2⟩ := pdA_get p2 e1.2
    refine ⟨⟨_, _, _, _, SqL.of k1, SqL.of k2, hu1, hu2⟩, fun v H3 q => ?_⟩
    obtain ⟨Ta, x, y, rfl, hn, eH, f1, f2⟩ := q
    have z1 := f1 _ (SqL.of k1)
    have z2 := f2 _ (SqL.of k2)
    rw [hu1] at z1; rw [hu2] at z2
    cases z1; cases z2
    exact pair_new (u := .ref Ta) S2 hn eH q1 q2
  · have := map_none e
    rw [List.length_zip] at this
    refine ⟨_, _, SqL.of k1, SqL.of k2, ?_⟩
    rw [a1.len, a2.len]
    omega
theorem di_zip {e2 : Expr} {p tpos : Pos} {elts : List Expr} {kk : Nat} (hT : TX X T) (hg : Gl X "zip") (hm : X.mg "zip" = none) (h : DA X T W [e, e2] fa)
    (hs : starEach [e, e2] X.env = (false, eval e X.env) :: starEach [e2] X.env := by rfl) (hpl : (backTo pos (starEach [e2] X.env)).any (·.1) = false := by rfl) : DI X T W (.Tuple elts kk tpos) (.Call (.Name "zip" p) [e, e2] [] pos) (iZipL fa) := by
  refine ⟨(pi_zip hg hm h.h hs hpl).imp fun σ H R q => ?_⟩
  obtain ⟨m, ah, σd, S, En, q⟩ := q
  refine ⟨m, ah, σd, S, En, (Ok.bind S.len q).mono fun m1 ah1 H1 ds E1 S1 h1 vs r => ?_⟩
  split at h1
  · rename_i xs ys
    cases r with
    | cons r1 r2 =>
      cases r2 with
      | cons r2 r3 =>
        cases r3
        cases r1 with
        | lst n1 g1 a1 =>
          cases r2 with
          | lst n2 g2 a2 =>
            refine ⟨_, _, _, _, rfl, SqL.of g1, SqL.of g2, ?_⟩
            rw [← hT.K]
            exact h1.here S1 _ ⟨jok_zip S1 n1 n2 g1 g2 a1 a2, fun D o hD => jok_zip (T := T.more D) (S1.more hD) (notLV_more hD _ (by rw [g1]; simp) n1) (notLV_more hD _ (by rw [g2]; simp) n2) (grow_upd hD _ _ g1) (grow_upd hD _ _ g2) (pdA_more hD a1) (pdA_more hD a2)⟩
  · exact False.elim h1
def enumD (i : Nat) : List PyData → List D
  | [] => []
  | x :: r => .p (.tuple [.int i, x]) :: enumD (i + 1) r
theorem enum_get : ∀ {xs : List PyData} {j i : Nat} {d : D}, (enumD j xs)[i]? = some d → ∃ x, xs[i]? = some x ∧ d = .p (.tuple [.int ((j + i : Nat) : Int), x])
  | [], _, _, _, h => by simp [enumD] at h
  | x :: r, j, 0, d, h => by
    simp [enumD] at h
    exact ⟨x, rfl, by rw [← h]; simp⟩
  | x :: r, j, i + 1, d, h => by
    simp only [enumD, List.getElem?_cons_succ] at h
    obtain ⟨y, h1, h2⟩ := enum_get h
    exact ⟨y, by simpa using h1, by rw [h2]; congr 4; simp; omega⟩
theorem enum_len : ∀ (xs : List PyData) (j : Nat), (enumD j xs).length = xs.length
  | [], _ => rfl
  | x :: r, j => by simp [enumD, enum_len r]
theorem jok_enum {m : List Addr} {ah : AH} {H : Hp} {a : Addr} {vs : List V} {xs : List PyData} (S1 : Sim T m ah H) (n1 : ¬ LV T m ah a) (g1 : H a = some (.lst vs)) (a1 : PdA T.B (LV T m ah) H vs xs) : JOk T m ah H (enumD 0 xs) (Ite T.K a) := by
  intro m2 ah2 H2 i E S2
  have k1 := E.kept g1 n1
  have p1 := PdA.ext E S1.len _ _ a1
  refine ⟨fun d e => ?_, fun e => ⟨_, SqL.of k1, ?_⟩⟩
  · obtain ⟨z, e1, rfl⟩ := enum_get e
    obtain ⟨u1, hu1, q1⟩ := pdA_get p1 e1
    refine ⟨⟨_, _, SqL.of k1, hu1⟩, fun v H3 q => ?_⟩
    obtain ⟨Ta, x, rfl, hn, eH, f1⟩ := q
    have z1 := f1 _ (SqL.of k1)
    rw [hu1] at z1
    cases z1
    have := pair_new (u := .ref Ta) S2 hn eH (.int ((i : Nat) : Int)) q1
    simpa using this
  · rw [List.getElem?_eq_none_iff, enum_len] at e
    rw [a1.len]
    exact e
def iEnumL (fa : AF) : IF := fun σ ah => (fa σ ah).bind fun ds ah1 => match ds with
  | [.p (.list xs)] => .ok (enumD 0 xs) ah1
  | _ => .bad
theorem di_enumL {p tpos : Pos} {elts : List Expr} {kk : Nat} (hT : TX X T) (hg : Gl X "enumerate") (hm : X.mg "enumerate" = none) (h : DA X T W [e] fa) (hs : starEach [e] X.env = [(false, eval e X.env)] := by rfl) :
    DI X T W (.Tuple elts kk tpos) (.Call (.Name "enumerate" p) [e] [] pos) (iEnumL fa) := by
  refine ⟨(pi_enum hg hm h.h hs).imp fun σ H R q => ?_⟩
  obtain ⟨m, ah, σd, S, En, q⟩ := q
  refine ⟨m, ah, σd, S, En, (Ok.bind S.len q).mono fun m1 ah1 H1 ds E1 S1 h1 vs r => ?_⟩
  split at h1
  · rename_i xs
    cases r with
    | cons r1 r2 =>
      cases r2
      cases r1 with
      | lst n1 g1 a1 =>
        refine ⟨_, _, rfl, SqL.of g1, ?_⟩
        rw [← hT.K]
        exact h1.here S1 _ ⟨jok_enum S1 n1 g1 a1, fun D o hD => jok_enum (T := T.more D) (S1.more hD) (notLV_more hD _ (by rw [g1]; simp) n1) (grow_upd hD _ _ g1) (pdA_more hD a1)⟩
  · exact False.elim h1
end

/-! ### comprehensions -/
/-- an outcome within a comprehension: nothing is raised -/
def R.only {α β : Type} (x : R α) (k : α → AH → R β) : R β :=
  match x with
  | .ok a h => k a h
  | _ => .bad
@[simp] theorem R.only_ok {α β : Type} (a : α) (h : AH) (k : α → AH → R β) : (R.ok a h).only k = k a h := rfl
@[simp] theorem R.only_ex {α β : Type} (c : Nat) (h : AH) (k : α → AH → R β) : (R.ex c h).only k = .bad := rfl
@[simp] theorem R.only_bad {α β : Type} (k : α → AH → R β) : (R.bad : R α).only k = .bad := rfl
def lcL (i : Nat) (ct : TF) (fe : EF) : List D → DS → AH → R (List PyData)
  | [] => fun _ ah => .ok [] ah
  | d :: ds => fun σ ah => (ct (σ.set i (some d)) ah).only fun b ah1 => if b = true then (fe (σ.set i (some d)) ah1).only fun x ah2 => match x with
        | .p y => (lcL i ct fe ds σ ah2).only fun ys ah3 => .ok (y :: ys) ah3
        | _ => .bad
      else lcL i ct fe ds σ ah1
def fLc (fi : IF) (i : Nat) (ct : TF) (fe : EF) : EF := fun σ ah => (fi σ ah).bind fun ds ah1 => if ds.length ≤ 16777216 then (lcL i ct fe ds σ ah1).only fun ys ah2 => .ok (.p (.list ys)) ah2 else .bad
def tYesF : TF := fun _ ah => .ok true ah
abbrev W0 : WX := fun _ _ _ _ => False
structure DTs (X : Cx) (T : Tb) (W : WX) (ifs : List Expr) (f : TF) : Prop where
  h : PTs X ifs (tT T W f)
theorem _root_.L2.PTs.imp {X : Cx} {e : List Expr} {t t' : TT} (h : PTs X e t) (i : ∀ σ H Q, t' σ H Q → t σ H Q) : PTs X e t' := ⟨fun pins s σ H Q I q => h.run pins s σ H Q I (i σ H Q q)⟩
section
variable {X : Cx} {T : Tb} {W : WX} {pos : Pos}
theorem dts_nil : DTs X T W [] tYesF := by
  refine ⟨pts_nil.imp fun σ H Q q => ?_⟩
  obtain ⟨m, ah, σd, S, En, q⟩ := q
  exact q.here S
theorem dts_one {c : Expr} {f : TF} (h : DT X T W c f) : DTs X T W [c] f := ⟨pts_one h.h⟩
/-- only: an outcome that can't be raised -/
theorem Ok.only {α β : Type} {W : WX} {m : List Addr} {ah : AH} {H : Hp} {σ σ' : L2.St} {x : R α} {k : α → AH → R β} {P : List Addr → AH → Hp → β → Prop} (hl : m.length = ah.length) (h : Ok T W σ m ah H (x.only k) P) :
    Ok T W0 σ' m ah H x fun m1 ah1 H1 a => Ok T W σ m1 ah1 H1 (k a ah1) P := by
  cases x with
  | bad => exact h
  | ex c ah' => exact False.elim h
  | ok a ah' =>
    have := Ok.bind (x := R.ok a ah') (k := k) hl h
    exact this
end
end DL

set_option Elab.async false
set_option linter.all false
set_option maxRecDepth 100000
/-! DLf: list comprehensions; defs, calls. -/
namespace DL
open PySem PySem.Spec PyProof.Rows L2
section
variable {X : Cx} {T : Tb} {W : WX} {pos : Pos}
theorem TX.blk (hT : TX X T) (s : Shared) (H : Hp) (scope : Scope) (cenv : PySem.Env) (fp : List Addr) (N : Addr) : TX (X.blk s H scope cenv fp) (T.more N) := ⟨hT.P, hT.w, hT.K, hT.calm, hT.un⟩
theorem PdA.snoc {B : Tw} {L : Addr → Prop} {H : Hp} {vs : List V} {ds : List PyData} {v : V} {d : PyData} (a : PdA B L H vs ds) (h : Pd B L H v d) : PdA B L H (vs ++ [v]) (ds ++ [d]) := PdA.app a (.cons h .nil)
/-- the list in the making is written: no value reads it -/
theorem notLV_less {m : List Addr} {ah : AH} {N : Addr} (a : Addr) (n : ¬ LV (T.more N) m ah a) : ¬ LV T m ah a := fun z => n (z.elim .inl fun q => .inr (List.mem_cons_of_mem _ q))
theorem rd_write {m : List Addr} {ah : AH} {H : Hp} {N : Addr} {o : HO} {v : V} {d : D} (r : RD (T.more N) m ah H v d) : RD (T.more N) m ah (upd H N o) v d := by
  have k : ∀ a u, H a = some u → ¬ LV (T.more N) m ah a → upd H N o a = some u := fun a u q n => by
    have ne : a ≠ N := fun z => n (.inr (by rw [z]; exact List.mem_cons_self))
    rw [upd_ne ne]; exact q
  cases d with
  | p d => exact Pd.mono k (fun _ _ n => n) d v r
  | r i => exact r
  | f i => exact r
  | s ns =>
    obtain ⟨h1, h2⟩ := r
    refine ⟨h1, ?_⟩
    rcases h2 with ⟨n, q⟩ | q
    · refine .inl ⟨n, ?_⟩
      rcases q with q | ⟨u, q⟩
      · exact .inl (k _ _ q n)
      · exact .inr ⟨u, k _ _ q n⟩
    · exact .inr q
theorem pd_write {m : List Addr} {ah : AH} {H : Hp} {N : Addr} {o : HO} {v : V} {d : PyData} (r : Pd T.B (LV (T.more N) m ah) H v d) : Pd T.B (LV (T.more N) m ah) (upd H N o) v d := rd_write (d := .p d) r
theorem pdA_write {m : List Addr} {ah : AH} {H : Hp} {N : Addr} {o : HO} {v : List V} {d : List PyData} (r : PdA T.B (LV (T.more N) m ah) H v d) : PdA T.B (LV (T.more N) m ah) (upd H N o) v d := PdA.mono (fun a u q n => by
    have ne : a ≠ N := fun z => n (.inr (by rw [z]; exact List.mem_cons_self))
    rw [upd_ne ne]; exact q) (fun _ _ n => n) d v r
theorem Sim.writeG {m : List Addr} {ah : AH} {H : Hp} {N : Addr} {o : HO} (S : Sim (T.more N) m ah H) : Sim (T.more N) m ah (upd H N o) := by
  have nm : N ∉ m := (S.gs N List.mem_cons_self).2
  have tr : ∀ a, H a ≠ none → upd H N o a ≠ none := fun a q => by
    by_cases e : a = N
    · rw [e, upd_same]; simp
    · rw [upd_ne e]; exact q
  refine ⟨S.len, S.nd, fun i a e => tr a (S.trk i a e), fun a ha => ⟨tr a (S.gs a ha).1, (S.gs a ha).2⟩, fun i a u h1 h2 => ?_⟩
  have ne : a ≠ N := fun z => nm (by rw [← z]; exact List.mem_of_getElem? h1)
  have q := S.at_ i a u h1 h2
  cases u with
  | dead => trivial
  | lst ds =>
    obtain ⟨vs, g1, g2⟩ := q
    exact ⟨vs, by rw [upd_ne ne]; exact g1, Paired.mapR g2 fun _ _ z => rd_write z⟩
  | dct kvs =>
    obtain ⟨xs, g1, g2⟩ := q
    exact ⟨xs, g1.of_eq fun u z => by rw [upd_ne ne]; exact z, Paired.mapR g2 fun x kv z => ⟨z.1, z.2.1, rd_write (d := .p _) z.2.2.1, rd_write z.2.2.2⟩⟩
theorem EnvR.writeG {m : List Addr} {ah : AH} {H : Hp} {N : Addr} {o : HO} {σ : L2.St} {σd : DS} (En : EnvR (T.more N) m ah H σ σd) : EnvR (T.more N) m ah (upd H N o) σ σd :=
  ⟨En.1, fun i d e => let ⟨v, h1, r⟩ := En.2 i d e; ⟨v, h1, rd_write r⟩⟩
theorem rd_less {m : List Addr} {ah : AH} {H : Hp} {N : Addr} {v : V} {d : D} (r : RD (T.more N) m ah H v d) : RD T m ah H v d := by
  cases d with
  | p d => exact Pd.mono (fun _ _ q _ => q) (fun a _ n => notLV_less a n) d v r
  | r i => exact r
  | f i => exact r
  | s ns =>
    obtain ⟨h1, h2⟩ := r
    refine ⟨h1, ?_⟩
    rcases h2 with ⟨n, q⟩ | q
    · exact .inl ⟨notLV_less _ n, q⟩
    · exact .inr q
theorem Sim.less {m : List Addr} {ah : AH} {H : Hp} {N : Addr} (S : Sim (T.more N) m ah H) : Sim T m ah H := by
  refine ⟨S.len, S.nd, S.trk, fun a ha => S.gs a (List.mem_cons_of_mem _ ha), fun i a u h1 h2 => ?_⟩
  have q := S.at_ i a u h1 h2
  cases u with
  | dead => trivial
  | lst ds =>
    obtain ⟨vs, g1, g2⟩ := q
    exact ⟨vs, g1, Paired.mapR g2 fun _ _ z => rd_less z⟩
  | dct kvs =>
    obtain ⟨xs, g1, g2⟩ := q
    exact ⟨xs, g1, Paired.mapR g2 fun x kv z => ⟨z.1, z.2.1, rd_less (d := .p _) z.2.2.1, rd_less z.2.2.2⟩⟩
theorem lcL_len {i : Nat} {ct : TF} {fe : EF} : ∀ {ds : List D} {σ : DS} {ah ah' : AH} {ys : List PyData}, lcL i ct fe ds σ ah = .ok ys ah' → ys.length ≤ ds.length
  | [], σ, ah, ah', ys, h => by
    unfold lcL at h
    injection h with h1 _
    rw [← h1]
    exact Nat.le_refl _
  | d :: ds, σ, ah, ah', ys, h => by
    unfold lcL at h
    cases q : ct (σ.set i (some d)) ah with
    | bad => rw [q] at h; cases h
    | ex _ _ => rw [q] at h; cases h
    | ok b ah1 =>
      rw [q, R.only_ok] at h
      cases b with
      | false =>
        rw [if_neg Bool.false_ne_true] at h
        exact Nat.le_succ_of_le (lcL_len h)
      | true =>
        rw [if_pos rfl] at h
        cases q2 : fe (σ.set i (some d)) ah1 with
        | bad => rw [q2] at h; cases h
        | ex _ _ => rw [q2] at h; cases h
        | ok x ah2 =>
          rw [q2, R.only_ok] at h
          cases x with
          | p y =>
            dsimp only at h
            cases q3 : lcL i ct fe ds σ ah2 with
            | bad => rw [q3] at h; cases h
            | ex _ _ => rw [q3] at h; cases h
            | ok zs ah3 =>
              rw [q3, R.only_ok] at h
              injection h with h1 _
              rw [← h1]
              exact Nat.succ_le_succ (lcL_len q3)
          | r _ => cases h
          | f _ => cases h
          | s _ => cases h
/-- the state of a comprehension at turn k -/
structure LcSt (T : Tb) (N : Addr) (m1 : List Addr) (ah1 : AH) (H1 : Hp) (σ : L2.St) (m : List Addr) (ah : AH) (H : Hp) (σd : DS) (vs : List V) (acc : List PyData) : Prop where
  E : Ext m1 ah1 H1 m ah H
  S : Sim (T.more N) m ah H
  En : EnvR (T.more N) m ah H σ σd
  at_ : H N = some (.lst vs)
  acc : PdA T.B (LV (T.more N) m ah) H vs acc
theorem ext_at {m1 m2 : List Addr} {ah1 ah2 : AH} {H1 H2 : Hp} {N : Addr} {o : HO} (E : Ext m1 ah1 H1 m2 ah2 H2) (h : H2 N = some o) (n : N ∉ m2) : Ext m1 ah1 (upd H1 N o) m2 ah2 H2 := by
  obtain ⟨t, e, f⟩ := E.pre
  refine ⟨⟨t, e, fun a ha => ?_⟩, E.dead, fun a u q l => ?_⟩
  · have ne : a ≠ N := fun z => n (by rw [e, ← z]; exact List.mem_append_right _ ha)
    rw [upd_ne ne]
    exact f a ha
  · by_cases ea : a = N
    · rw [ea, upd_same] at q
      rw [ea, h]
      exact q
    · rw [upd_ne ea] at q
      exact E.keep a u q l
theorem wipe1 (σ : L2.St) (i : Nat) (v : V) : (L2.wipe σ [i]).set i (some v) = σ.set i (some v) ∧ L2.wipe ((L2.wipe σ [i]).set i (some v)) [i] = L2.wipe σ [i] := by
  have e : ∀ τ : L2.St, L2.wipe τ [i] = τ.set i none := fun _ => rfl
  rw [e, e, List.set_set, List.set_set]
  exact ⟨rfl, rfl⟩
theorem lc_read (hT : TX X T) {i : Nat} {fi : IF} {ct : TF} {fe : EF} {σ : L2.St} {H : Hp} {Q : VK} (h : tD T W (fLc fi i ct fe) σ H Q) :
    tLc (tI T W fi) (gName i) (fun σ H Q => ∃ N, tT (T.more N) W0 ct σ H Q) (fun σ H Q => ∃ N, tD (T.more N) W0 fe σ H Q) [i] σ H Q := by
  obtain ⟨m, ah, σd, S, En, h⟩ := h
  refine ⟨m, ah, σd, S, En, (Ok.bind S.len h).mono fun m1 ah1 H1 ds E1 S1 h1 J hJ => ?_⟩
  have En1 := En.ext E1 S.len
  split at h1
  · rename_i hsz
    intro N hN
    have E01 := Ext.grow (m := m1) (ah := ah1) (grow_upd (o := HO.lst []) hN)
    -- what holds ahead of turn k
    let Z : Nat → Hp → Prop := fun k H => ∃ m2 ah2 vs acc, LcSt T N m1 ah1 H1 σ m2 ah2 H σd vs acc ∧ vs.length ≤ k ∧
      Ok T W σ m1 ah1 H1 ((lcL i ct fe (ds.drop k) σd ah2).only fun ys ah3 => .ok (.p (.list (acc ++ ys))) ah3) (fun m' ah' H' d => ∀ v, RD T m' ah' H' v d → Q v H')
    refine ⟨fun k mm H => mm = ds.length - k ∧ k ≤ ds.length ∧ Z k H, ⟨ds.length, by simp, Nat.zero_le _, m1, ah1, [], [], ⟨E01, S1.more hN, En1.more hN, upd_same, .nil⟩, Nat.le_refl _, ?_⟩, ?_⟩
    · rw [List.drop_zero]
      simpa using h1
    · rintro k mm H2 ⟨rfl, hk, m2, ah2, vs, acc, L, hv, ho⟩
      have nm : N ∉ m2 := (L.S.gs N List.mem_cons_self).2
      obtain ⟨j1, j2⟩ := hJ.2 N (.lst vs) hN m2 ah2 H2 k (ext_at L.E L.at_ nm) L.S
      by_cases hlt : k < ds.length
      · refine .inr ?_
        have e : ds[k]? = some ds[k] := List.getElem?_eq_getElem hlt
        have ed : ds.drop k = ds[k] :: ds.drop (k + 1) := by rw [List.drop_eq_getElem_cons hlt]
        obtain ⟨go, yl⟩ := j1 _ e
        refine ⟨go, fun H => Z (k + 1) H, fun H' z => ⟨ds.length - (k + 1), by omega, rfl, hlt, z⟩, fun x H3 y => ?_⟩
        obtain ⟨E3, S3, r3⟩ := yl x H3 y
        rw [ed] at ho
        unfold lcL at ho
        obtain ⟨w1, w2⟩ := wipe1 σ i x
        refine ⟨w2, N, m2, ah2, σd.set i (some ds[k]), S3, ?_, ?_⟩
        · rw [w1]
          exact (L.En.ext E3 L.S.len).set i r3
        · cases q : ct (σd.set i (some ds[k])) ah2 with
          | bad => rw [q] at ho; exact False.elim ho
          | ex _ _ => rw [q] at ho; exact False.elim ho
          | ok b ah4 =>
            rw [q, R.only_ok] at ho
            intro m4 H4 E4 S4
            have E34 : Ext m2 ah2 H2 m4 ah4 H4 := E3.trans E4 L.S.len S3
            have En4 : EnvR (T.more N) m4 ah4 H4 σ σd := L.En.ext E34 L.S.len
            have at4 : H4 N = some (.lst vs) := E34.keep N _ L.at_ fun ⟨j, hj, _⟩ => nm (List.mem_of_getElem? hj)
            have E14 : Ext m1 ah1 H1 m4 ah4 H4 := L.E.trans E34 S1.len L.S
            dsimp only
            cases b with
            | false =>
              rw [if_neg Bool.false_ne_true] at ho ⊢
              exact ⟨m4, ah4, vs, acc, ⟨E14, S4, En4, at4, PdA.ext (T := T.more N) E34 L.S.len _ _ L.acc⟩, Nat.le_succ_of_le hv, ho⟩
            | true =>
              rw [if_pos rfl] at ho ⊢
              refine ⟨N, m4, ah4, σd.set i (some ds[k]), S4, ?_, ?_⟩
              · rw [w1]
                exact En4.set i (RD.ext E4 S3.len r3)
              · cases q2 : fe (σd.set i (some ds[k])) ah4 with
                | bad => rw [q2] at ho; exact False.elim ho
                | ex _ _ => rw [q2] at ho; exact False.elim ho
                | ok z ah5 =>
                  rw [q2, R.only_ok] at ho
                  intro m5 H5 E5 S5 v rv
                  cases z with
                  | r _ => exact False.elim ho
                  | f _ => exact False.elim ho
                  | s _ => exact False.elim ho
                  | p y =>
                    have E25 : Ext m2 ah2 H2 m5 ah5 H5 := E34.trans E5 L.S.len S4
                    have at5 : H5 N = some (.lst vs) := E25.keep N _ L.at_ fun ⟨j, hj, _⟩ => nm (List.mem_of_getElem? hj)
                    refine ⟨vs, at5, ?_, m5, ah5, vs ++ [v], acc ++ [y], ⟨?_, S5.writeG, (L.En.ext E25 L.S.len).writeG, upd_same, ?_⟩, ?_, ?_⟩
                    · rw [sizeLine_eq]; omega
                    · have E15 : Ext m1 ah1 H1 m5 ah5 H5 := L.E.trans E25 S1.len L.S
                      refine ⟨E15.pre, E15.dead, fun a u q n => ?_⟩
                      have ne : a ≠ N := ne_of_none q hN
                      rw [upd_ne ne]
                      exact E15.keep a u q n
                    · exact pdA_write ((PdA.ext (T := T.more N) E25 L.S.len _ _ L.acc).snoc rv)
                    · rw [List.length_append]
                      exact Nat.succ_le_succ hv
                    · cases q3 : lcL i ct fe (ds.drop (k + 1)) σd ah5 with
                      | bad => dsimp only at ho; rw [q3] at ho; exact False.elim ho
                      | ex _ _ => dsimp only at ho; rw [q3] at ho; exact False.elim ho
                      | ok ys ah6 =>
                        dsimp only at ho
                        rw [q3, R.only_ok, R.only_ok] at ho
                        rw [R.only_ok, List.append_assoc]
                        exact ho
      · have ek : k = ds.length := by omega
        refine .inl ⟨j2 (List.getElem?_eq_none (by omega)), ?_⟩
        rw [ek, List.drop_length] at ho
        unfold lcL at ho
        rw [R.only_ok, List.append_nil] at ho
        refine ho m2 H2 L.E L.S.less (.ref N) (.lst ?_ L.at_ (PdA.mono (fun _ _ q _ => q) (fun a _ n => notLV_less a n) _ _ L.acc))
        rintro (⟨j, hj, _⟩ | hg)
        · exact nm (List.mem_of_getElem? hj)
        · exact (S1.gs N hg).1 hN
  · exact False.elim h1
/-- [elt for x in iter if ..] -/
theorem de_lc {i : Nat} {x : Str} {px : Pos} {elt iter : Expr} {ifs : List Expr} {scope : Scope} {fi : IF} {ct : TF} {fe : EF} (hT : TX X T) (hN : X.N.Nodup) (hi : DI X T W (.Name x px) iter fi) (ok : BlkOk X.N X.env.scope scope [(x, i)])
    (hg : ∀ (s : Shared) (H : Hp) (C : Addr) (cl : List (Str × Addr)) (fp : List Addr), PG (X.blk s H scope (compEnvC scope cl C X.env) fp) (.Name x px) (gName i))
    (ht : ∀ (N : Addr) (s : Shared) (H : Hp) (C : Addr) (cl : List (Str × Addr)) (fp : List Addr), DTs (X.blk s H scope (compEnvC scope cl C X.env) fp) (T.more N) W0 ifs ct)
    (he : ∀ (N : Addr) (s : Shared) (H : Hp) (C : Addr) (cl : List (Str × Addr)) (fp : List Addr), DE (X.blk s H scope (compEnvC scope cl C X.env) fp) (T.more N) W0 elt fe) (hs : ∀ x, foldedSetIterable iter X.env x = pure x := by intro _; rfl) :
    DE X T W (.ListComp elt [⟨.Name x px, iter, ifs, 0⟩] scope pos) (fLc fi i ct fe) :=
  ⟨(pe_lc hT.calm hN hi.h ok hg (fun s H C cl fp => ⟨fun pins s' σ H' Q I ⟨N, q⟩ => (ht N s H C cl fp).h.run pins s' σ H' Q I q⟩) (fun s H C cl fp => ⟨fun pins s' σ H' Q I ⟨N, q⟩ => (he N s H C cl fp).h.run pins s' σ H' Q I q⟩) hs).imp fun σ H Q q => lc_read hT q⟩
/-- y = [elt for x in iter if ..] on one line -/
theorem ds_setLc {j i : Nat} {y x : Str} {py px : Pos} {elt iter : Expr} {ifs : List Expr} {scope : Scope} {fi : IF} {ct : TF} {fe : EF} {spos : Pos} (hT : TX X T) (hN : X.N.Nodup) (hy : X.N[j]? = some y) (hyl : X.env.scope.names.lookup y = some .local)
    (hsw : swapsWith (.ListComp elt [⟨.Name x px, iter, ifs, 0⟩] scope pos) (some (.Name y py)) spos.line X.env = pure true) (hi : DI X T W (.Name x px) iter fi) (ok : BlkOk X.N X.env.scope scope [(x, i)])
    (hg : ∀ (s : Shared) (H : Hp) (C : Addr) (cl : List (Str × Addr)) (fp : List Addr), PG (X.blk s H scope (compEnvC scope cl C X.env) fp) (.Name x px) (gName i))
    (ht : ∀ (N : Addr) (s : Shared) (H : Hp) (C : Addr) (cl : List (Str × Addr)) (fp : List Addr), DTs (X.blk s H scope (compEnvC scope cl C X.env) fp) (T.more N) W0 ifs ct)
    (he : ∀ (N : Addr) (s : Shared) (H : Hp) (C : Addr) (cl : List (Str × Addr)) (fp : List Addr), DE (X.blk s H scope (compEnvC scope cl C X.env) fp) (T.more N) W0 elt fe) (hs : ∀ x, foldedSetIterable iter X.env x = pure x := by intro _; rfl) :
    DSt X T W (.Assign [.Name y py] (.ListComp elt [⟨.Name x px, iter, ifs, 0⟩] scope pos) spos) (sSet j (fLc fi i ct fe)) := by
  refine ⟨(ps_setLc (wi := tI T W fi) (g := gName i) (tt := fun σ H Q => ∃ N, tT (T.more N) W0 ct σ H Q) (te := fun σ H Q => ∃ N, tD (T.more N) W0 fe σ H Q) hT.calm hN hy hyl hsw hi.h ok hg (fun s H C cl fp => ⟨fun pins s' σ H' Q I ⟨N, q⟩ => (ht N s H C cl fp).h.run pins s' σ H' Q I q⟩) (fun s H C cl fp => ⟨fun pins s' σ H' Q I ⟨N, q⟩ => (he N s H C cl fp).h.run pins s' σ H' Q I q⟩) hs).imp fun D σ H q => ?_⟩
  obtain ⟨m, ah, σd, S, En, q⟩ := q
  refine lc_read hT ⟨m, ah, σd, S, En, (Oo.then S.len En q).mono fun m1 ah1 H1 d E1 S1 h1 v r => ?_⟩
  exact h1 m1 H1 _ Ext.refl S1 ((En.ext E1 S.len).set j r)
end

/-! ### defs -/
/-- what a def promises: F, a function of the arguments and the store -/
abbrev DF := List D → AH → R D
def spD (T : Tb) (n : Nat) (F : DF) : Sp := fun vs H Q E => ∃ m ah ds, Sim T m ah H ∧ Paired (RD T m ah H) vs ds ∧ ds.length = n ∧ Ok T (fun c d _ H => E c d H) [] m ah H (F ds ah) fun m' ah' H' d => ∀ v, RD T m' ah' H' v d → Q v H'
/-- the def at f, by at most level k -/
structure DFn (T : Tb) (mg : Str → Option Value) (base : Heap) (k : Nat) (f : Addr) (fd : FuncData) (ps : List Str) (F : DF) : Prop where
  ok : ∀ G : List Addr, FnOk T.B.P T.B.w T.K mg base (L2.CX T.B.P T.B.w) k f fd ps (spD { T with G := G } ps.length F)
theorem DFn.mono {T : Tb} {mg : Str → Option Value} {base : Heap} {j k : Nat} {f : Addr} {fd : FuncData} {ps : List Str} {F : DF} (h : DFn T mg base j f fd ps F) (l : j ≤ k) : DFn T mg base k f fd ps F := ⟨fun G => (h.ok G).mono l⟩
def fCall (F : DF) (fa : AF) : EF := fun σ ah => (fa σ ah).bind fun ds ah1 => F ds ah1
section
variable {X : Cx} {T T0 : Tb} {W : WX} {pos p : Pos} {e : Expr} {es : List Expr} {fa : AF} {F : DF}
theorem ok_call {σ : L2.St} {m : List Addr} {ah : AH} {H : Hp} {x : R D} {P : List Addr → AH → Hp → D → Prop} (h : Ok T W σ m ah H x P) : Ok T (fun c d _ H => WE W σ c d H) [] m ah H x P := by
  cases x with
  | bad => exact h
  | ok a ah' => exact h
  | ex c ah' => exact h
/-- f(e, ..), f a def of the text; G: of the table T0, that T has but for the lists in the making -/
theorem de_call {k : Nat} {f : Addr} {fd : FuncData} {ps : List Str} {x : Str} (hT : TX X T) (h0 : ∃ G, T = { T0 with G := G }) (Fn : DFn T0 X.mg X.base k f fd ps F) (hr : Room k X.A) (hg : Gl X x) (hm : X.mg x = some (.ref f)) (hk : PySem.W.keepIn X.K (.ref f) = true) (hb : Binds X.K fd ps []) (tk : Takes X W)
    (ha : DA X T W (e :: es) fa) (hn : (e :: es).length = ps.length) (hl : ∀ σ ah ds ah', fa σ ah = .ok ds ah' → ds.length = ps.length) (hdb : (x == ("__debug__" : Str)) = false := by decide) (he : starEach (e :: es) X.env = (false, eval e X.env) :: starEach es X.env := by rfl) (hpl : (backTo pos (starEach es X.env)).any (·.1) = false := by rfl) :
    DE X T W (.Call (.Name x p) (e :: es) [] pos) (fCall F fa) := by
  obtain ⟨G, rfl⟩ := h0
  have ok := Fn.ok G
  have e1 : T0.B.P = X.prog := hT.P
  have e2 : T0.B.w = X.w := hT.w
  have e3 : T0.K = X.K := hT.K
  have ok : FnOk X.prog X.w X.K X.mg X.base (L2.CX X.prog X.w) k f fd ps (spD { T0 with G := G } ps.length F) := by rw [← e1, ← e2, ← e3]; exact ok
  refine ⟨(pe_callS ok hr hg hm hk hb (fun σ => passAt tk σ) ha.h hdb he hpl).imp fun σ H Q q => ?_⟩
  obtain ⟨m, ah, σd, S, En, q⟩ := q
  refine ⟨m, ah, σd, S, En, ?_⟩
  have q' := Ok.bind S.len q
  cases z : fa σd ah with
  | bad => rw [z] at q'; exact q'
  | ex c ah' => rw [z] at q'; exact q'
  | ok ds ah' =>
    rw [z] at q'
    exact fun m1 H1 E1 S1 vs r => ⟨m1, ah', ds, S1, r, hl _ _ _ _ z, ok_call (q' m1 H1 E1 S1)⟩
theorem aNil_len : ∀ σ ah ds ah', aNil σ ah = .ok ds ah' → ds.length = 0 := fun σ ah ds ah' h => by
  injection h with h1 _
  rw [← h1]; rfl
theorem aCons_len {f : EF} {g : AF} {n : Nat} (h : ∀ σ ah ds ah', g σ ah = .ok ds ah' → ds.length = n) : ∀ σ ah ds ah', aCons f g σ ah = .ok ds ah' → ds.length = n + 1 := fun σ ah ds ah' z => by
  unfold aCons at z
  cases q : f σ ah with
  | bad => rw [q] at z; cases z
  | ex _ _ => rw [q] at z; cases z
  | ok d ah1 =>
    rw [q, R.bind_ok] at z
    cases q2 : g σ ah1 with
    | bad => rw [q2] at z; cases z
    | ex _ _ => rw [q2] at z; cases z
    | ok ds2 ah2 =>
      rw [q2, R.bind_ok] at z
      injection z with z1 _
      rw [← z1, List.length_cons, h _ _ _ _ q2]
/-- a body's outcome as a def's -/
def O.fin (x : O) : R D := match x with
  | .nx _ h => .ok (.p .none) h
  | .rt d h => .ok d h
  | .ex c _ h => .ex c h
  | _ => .bad
def startD (n : Nat) (ds : List D) : DS := ds.map some ++ List.replicate (n - ds.length) none
def fDef (n : Nat) (f : SF) : DF := fun ds ah => (f (startD n ds) ah).fin
theorem env_start {m : List Addr} {ah : AH} {H : Hp} {N : List Str} {vs : List V} {ds : List D} (r : Paired (RD T m ah H) vs ds) : EnvR T m ah H (L2.start N vs) (startD N.length ds) := by
  have hl := paired_len r
  unfold L2.start startD
  refine ⟨by simp [hl], fun i d h => ?_⟩
  by_cases hi : i < ds.length
  · rw [List.getElem?_append_left (by simpa using hi), List.getElem?_map] at h
    cases q : ds[i]? with
    | none => rw [q] at h; cases h
    | some e =>
      rw [q] at h
      cases h
      obtain ⟨v, h1, h2⟩ := paired_get r q
      refine ⟨v, ?_, h2⟩
      rw [List.getElem?_append_left (by rw [List.length_map, hl]; exact hi), List.getElem?_map, h1]
      rfl
  · rw [List.getElem?_append_right (by rw [List.length_map]; omega), List.getElem?_replicate] at h
    split at h <;> cases h
/-- a def, by its body -/
theorem DFn.of {mg : Str → Option Value} {base : Heap} {k : Nat} {x qual : Str} {st : Stmt} {f : Addr} {fd : FuncData} {N ps : List Str} {g : SF} (Fu : Fun T0.K x qual st f fd) (sc : FnScope N ps (defScope st))
    (h : ∀ (X : Cx) (T : Tb) (W : WX), TX X T → (∃ G, T = { T0 with G := G }) → Takes X W → Room k X.A → X.mg = mg → X.base = base → X.N = N → (∃ n f cd, X.env = envOfC qual (defScope st) n f cd) → (∀ y, X.fn y = true) → PassesOwn (model X.prog X.w) X.A X.env X.xe → DSs X T W (defBody st) g) :
    DFn T0 mg base (k + 1) f fd ps (fDef N.length g) := by
  refine ⟨fun G => Fu.okX sc (fun vs H Q E hh => ?_) fun cdv A outer s H vs Q E hr hh => ?_⟩
  · obtain ⟨m, ah, ds, S, r, hl, _⟩ := hh
    rw [paired_len r, hl]
  · obtain ⟨m, ah, ds, S, r, hl, q⟩ := hh
    have tx : TX (cxOf (L2.CX T0.B.P T0.B.w) T0.B.P T0.B.w T0.K mg base N qual (defScope st) f cdv A outer s H E) { T0 with G := G } := ⟨rfl, rfl, rfl, rfl, by
      have := hr.un
      show A.units + 3 + 200 < _
      have h2 : A.units + 3 + 16 * k + 200 < cLine := this
      omega⟩
    have tk : Takes (cxOf (L2.CX T0.B.P T0.B.w) T0.B.P T0.B.w T0.K mg base N qual (defScope st) f cdv A outer s H E) (fun cls d _ H => E cls d H) := takes_of rfl rfl rfl rfl
    have body := h _ { T0 with G := G } _ tx ⟨G, rfl⟩ tk hr rfl rfl rfl ⟨_, _, _, rfl⟩ (fun _ => rfl) (passes_of rfl)
    refine ⟨_, body.h, m, ah, startD N.length ds, S, env_start r, ?_⟩
    have q : Ok { T0 with G := G } (fun c d _ H => E c d H) [] m ah H (g (startD N.length ds) ah).fin fun m' ah' H' d => ∀ v, RD { T0 with G := G } m' ah' H' v d → Q v H' := q
    cases z : g (startD N.length ds) ah with
    | nx σ' ah' => rw [z] at q; exact fun m' H' σ2 E' S' _ => q m' H' E' S' .non .non
    | rt d ah' => rw [z] at q; exact fun m' H' v E' S' rv => q m' H' E' S' v rv
    | ex c σ' ah' => rw [z] at q; exact fun m' H' σ2 E' S' _ => q m' H' E' S'
    | bk _ _ => rw [z] at q; exact False.elim q
    | ct _ _ => rw [z] at q; exact False.elim q
    | bad => rw [z] at q; exact q
end
end DL

set_option Elab.async false
set_option linter.all false
set_option maxRecDepth 100000
/-! DLg: dicts made and stored to, methods, built-in functions. -/
namespace DL
open PySem PySem.Spec PyProof.Rows L2
section
variable {X : Cx} {T : Tb} {W : WX} {pos p : Pos} {e o : Expr} {es : List Expr} {fe fo : EF} {fa : AF} {m : List Addr} {ah : AH} {H : Hp} {σ : L2.St} {Q : VK} {pins : List (Addr × Obj)} {s : Shared}

/-! ### giving up an object: pure from now on -/
def pureKv : List (PyData × D) → Option (List (PyData × PyData))
  | [] => some []
  | (k, .p v) :: r => (pureKv r).map ((k, v) :: ·)
  | _ :: _ => none
theorem pureKv_pd : ∀ {xs : List (NestedKey × Addr × V)} {kvs : List (PyData × D)} {l : List (PyData × PyData)}, Paired (RKv T m ah H) xs kvs → pureKv kvs = some l → PdK T.B (LV T m ah) H xs l
  | _, [], _, .nil, e => by cases e; exact .nil
  | _, (k, .p v) :: r, _, .cons h t, e => by
    unfold pureKv at e
    cases q : pureKv r with
    | none => rw [q] at e; cases e
    | some ys => rw [q] at e; cases e; exact .cons h.1 h.2.1 h.2.2.1 h.2.2.2 (pureKv_pd t q)
  | _, (_, .r _) :: _, _, _, e => by cases e
  | _, (_, .f _) :: _, _, _, e => by cases e
  | _, (_, .s _) :: _, _, _, e => by cases e
def gFrz (d : D) (ah : AH) : R D := match d with
  | .r i => match ah[i]? with
    | some (.lst ds) => match pures ds with
      | some xs => .ok (.p (.list xs)) (ah.set i .dead)
      | none => .bad
    | some (.dct kvs) => match pureKv kvs with
      | some l => .ok (.p (.dict l)) (ah.set i .dead)
      | none => .bad
    | _ => .bad
  | d => .ok d ah
theorem frz_ok (S : Sim T m ah H) {v : V} {d d' : D} {ah' : AH} (r : RD T m ah H v d) (e : gFrz d ah = .ok d' ah') : Ext m ah H m ah' H ∧ Sim T m ah' H ∧ RD T m ah' H v d' := by
  unfold gFrz at e
  split at e
  · rename_i i
    obtain ⟨a, h1, rfl⟩ := r
    have E := Ext.kill S (i := i)
    have S' := S.kill i
    have nl := not_live_kill S h1
    split at e
    · rename_i ds h2
      split at e
      · rename_i xs h3
        injection e with e1 e2
        subst e1; subst e2
        obtain ⟨vs, g1, g2⟩ := S.at_ i a _ h1 h2
        exact ⟨E, S', .lst nl g1 (PdA.ext E S.len _ _ (pures_pd g2 h3))⟩
      · cases e
    · rename_i kvs h2
      split at e
      · rename_i l h3
        injection e with e1 e2
        subst e1; subst e2
        obtain ⟨xs, g1, g2⟩ := S.at_ i a _ h1 h2
        exact ⟨E, S', .dct nl g1 (PdK.ext E S.len _ _ (pureKv_pd g2 h3))⟩
      · cases e
    · cases e
  · injection e with e1 e2
    subst e1; subst e2
    exact ⟨Ext.refl, S, r⟩
theorem frz_noex {d : D} {ah : AH} {c : Nat} {ah' : AH} (e : gFrz d ah = .ex c ah') : False := by
  unfold gFrz at e
  split at e
  · split at e
    · split at e <;> cases e
    · split at e <;> cases e
    · cases e
  · cases e
/-- .. of an expression's value -/
def fFrz (f : EF) : EF := fun σ ah => (f σ ah).bind gFrz
theorem de_frz (h : DE X T W e fe) : DE X T W e (fFrz fe) := by
  refine ⟨h.h.imp fun σ H Q q => ?_⟩
  obtain ⟨m, ah, σd, S, En, q⟩ := q
  refine ⟨m, ah, σd, S, En, (Ok.bind S.len q).mono fun m1 ah1 H1 d E1 S1 h1 v r => ?_⟩
  cases z : gFrz d ah1 with
  | bad => rw [z] at h1; exact False.elim h1
  | ex _ _ => exact False.elim (frz_noex z)
  | ok d' ah' =>
    obtain ⟨E, S', r'⟩ := frz_ok S1 r z
    rw [z] at h1
    exact h1 m1 H1 E S' v r'
/-- .. of a slot -/
def sFrz (i : Nat) : SF := fun σ ah => match σ[i]? with
  | some (some d) => match gFrz d ah with
    | .ok d' ah' => .nx (σ.set i (some d')) ah'
    | _ => .bad
  | _ => .bad
theorem ds_frz (i : Nat) {sts : List Stmt} {g : SF} (h : DSs X T W sts g) : DSs X T W sts (sSeq (sFrz i) g) := by
  refine ⟨h.h.imp fun D σ H q => ?_⟩
  obtain ⟨m, ah, σd, S, En, q⟩ := q
  unfold sSeq sFrz at q
  cases z : σd[i]? with
  | none => simp only [z] at q; exact False.elim q
  | some od =>
    simp only [z] at q
    cases od with
    | none => exact False.elim q
    | some d =>
      obtain ⟨v, h1, r⟩ := En.2 i d z
      cases z2 : gFrz d ah with
      | bad => simp only [z2] at q; exact False.elim q
      | ex _ _ => exact False.elim (frz_noex z2)
      | ok d' ah' =>
        simp only [z2] at q
        obtain ⟨E, S', r'⟩ := frz_ok S r z2
        refine ⟨m, ah', σd.set i (some d'), S', ?_, Oo.back E S.len S' q⟩
        have En' := (En.ext E S.len).set i r'
        have es : σ.set i (some v) = σ := by
          obtain ⟨hl, he⟩ := List.getElem?_eq_some_iff.mp h1
          rw [← he, List.set_getElem_self]
        rw [es] at En'
        exact En'

/-! ### a new dict; d[k] = v -/
def fDict : EF := fun _ ah => .ok (.r ah.length) (ah ++ [.dct []])
def emptyD : Obj := { cls := .type "dict", data := .dict #[] }
theorem draw_new {a : Addr} {H : Hp} (h : H a = some (.ext fun h => h.get? a = some emptyD)) (hs : (a == sysModules) = false) : DRaw T.B H a [] :=
  ⟨emptyD, #[], 0, [], h, ⟨rfl, rfl, rfl⟩, rfl, rfl, List.nodup_nil, hs, Nat.zero_le _, .nil⟩
theorem sys_ne (I : Inv X pins σ H s) : (s.heap.objs.size == sysModules) = false := by
  exact beq_eq_false_iff_ne.mpr (Nat.ne_of_gt I.big)
theorem ext_ok {P : Program} {w : World} {H : Hp} {h : Heap} {a : Addr} {ob : Obj} (e : h.get? a = some ob) : ObjOk P w H h a (.ext fun h => h.get? a = some ob) := ⟨e, ⟨ob, e⟩, fun _ _ p q => q _ p⟩
theorem OkV.newD {a : Addr} {W : WX} (S : Sim T m ah H) (h : OkV T W σ m ah H (.ok (.r ah.length) (ah ++ [.dct []])) Q) (hp : H a = none) (hs : (a == sysModules) = false) : Q (.ref a) (upd H a (.ext fun h => h.get? a = some emptyD)) := by
  refine h (m ++ [a]) _ (Ext.new S hp) (S.new hp ⟨[], draw_new upd_same hs, .nil⟩) _ ⟨a, ?_, rfl⟩
  rw [← S.len, List.getElem?_append_right (Nat.le_refl _)]
  simp
theorem de_dict : DE X T W (.Dict [] [] pos) fDict := by
  refine ⟨⟨fun pins s σ H Q I h => ?_⟩⟩
  obtain ⟨m, ah, σd, S, En, h⟩ := h
  have hn : H s.heap.objs.size = none := I.hok.fresh (Nat.le_refl _)
  have I1 : Inv X pins σ (upd H s.heap.objs.size (.ext fun h => h.get? s.heap.objs.size = some emptyD)) { s with heap := s.heap.push emptyD } :=
    I.laid (t' := s.toks) (fun _ _ q => Heap.get?_push_of_some _ q) (Nat.le_refl _) (ext_ok (Heap.get?_push_size _ rfl))
  exact wpAny_Dict_empty ⟨.ref s.heap.objs.size, _, I1, rfl, OkV.newD S h hn (sys_ne I)⟩
def kput (kvs : List (PyData × D)) (k : PyData) (v : D) : List (PyData × D) :=
  if kvs.any (fun e => decide (nk e.1 = nk k)) then kvs.map (fun e => if nk e.1 = nk k then (e.1, v) else e) else kvs ++ [(k, v)]
def gDPut (d k v : D) (ah : AH) : Option AH := match d, k with
  | .r i, .p k => match ah[i]? with
    | some (.dct kvs) => if keyOk k && decide (kvs.length < 16777216) then some (ah.set i (.dct (kput kvs k v))) else none
    | _ => none
  | _, _ => none
theorem nk_depth_same {k k' : PyData} (h : nk k = nk k') : (nk k).depth = (nk k').depth := by rw [h]
/-- storing, by values -/
theorem dput_ok (hT : TX X T) (I : Inv X pins σ H s) (S : Sim T m ah H) {x y z : V} {ov iv u : Value} {d k v : D} {ah' : AH} (rx : RelV x ov) (ry : RelV y iv) (rz : RelV z u) (r1 : RD T m ah H x d) (r2 : RD T m ah H y k) (r3 : RD T m ah H z v) (h : gDPut d k v ah = some ah')
    {E : Value → Shared → Prop} {Q : Unit → Shared → Prop} (q : ∀ H' s', Inv X pins σ H' s' → Ext m ah H m ah' H' → Sim T m ah' H' → Q () s') : wpAny (model X.prog X.w) X.A (setItem ov iv u) Q E s := by
  unfold gDPut at h
  split at h
  · rename_i i k
    cases z1 : ah[i]? with
    | none => simp only [z1] at h; cases h
    | some ob =>
      simp only [z1] at h
      cases ob with
      | dead => cases h
      | lst _ => cases h
      | dct kvs =>
        dsimp only at h
        split at h
        · rename_i c
          cases h
          rw [Bool.and_eq_true, decide_eq_true_eq] at c
          obtain ⟨a, h1, rfl⟩ := r1
          obtain ⟨ka, rfl, hk⟩ := keyOk_is I r2 c.1
          cases rx
          cases ry
          obtain ⟨xs, g1, g2⟩ := S.at_ i a _ h1 z1
          have g1' := g1
          obtain ⟨o, es, ep, ys, hH, hx, hd, he, hn, hs, hz, hp⟩ := g1
          have ho : s.heap.get? a = some o := (I.hok a _ hH).1
          rw [hT.P, hT.w] at he
          have his : ∀ y ∈ ys, (nestedKind X.prog X.w).is s.heap y.1 y.2.1 := by
            have hks := keys_is I g2
            intro y hy
            obtain ⟨j, hj⟩ := List.getElem?_of_mem hy
            obtain ⟨x, hx1, hx2⟩ := paired_get hp hj
            rw [← hx2.1, ← hx2.2.1]
            exact hks x (List.mem_of_getElem? hx1)
          refine wpAny_setItem_heap (hsz := by rw [← paired_len hp]; exact hz) (keyRoom hT) hk ⟨o, es, ep, ho, hx, hd, he, his, hn⟩ fun h' hm' sb => ?_
          obtain ⟨o', es', ep', ho', hx', hd', he', _, hn'⟩ := hm'
          have I' : Inv X pins σ (upd H a (.ext fun h => h.get? a = some o')) { s with heap := h', toks := s.toks + (nestedKind X.prog X.w).draws (nk k) } :=
            I.write (e := a) (by rw [hH]; exact True.intro) (.inl rfl) (fun b ob hb e => (sb.2 b hb).trans e) ⟨o', ho'⟩ (ext_ok ho')
          have E' := Ext.write (o := HO.ext fun h => h.get? a = some o') (y := .dct (kput kvs k v)) S h1 z1 (by intro z; cases z)
          -- the entries, as before but for the one stored
          have step : ∀ (xs : List (NestedKey × Addr × V)) (ys : List (NestedKey × Addr × Value)) (kvs : List (PyData × D)), Paired (fun (x : NestedKey × Addr × V) (y : NestedKey × Addr × Value) => x.1 = y.1 ∧ x.2.1 = y.2.1 ∧ RelV x.2.2 y.2.2) xs ys → Paired (RKv T m ah H) xs kvs →
              ((atKey ys (nk k)).isSome = kvs.any (fun e => decide (nk e.1 = nk k))) ∧
              ∃ xs', Paired (fun (x : NestedKey × Addr × V) (y : NestedKey × Addr × Value) => x.1 = y.1 ∧ x.2.1 = y.2.1 ∧ RelV x.2.2 y.2.2) xs' (ys.map (putAt (nk k) u)) ∧ Paired (RKv T m ah H) xs' (kvs.map (fun e => if nk e.1 = nk k then (e.1, v) else e)) := by
            intro xs ys kvs p1 p2
            induction p1 generalizing kvs with
            | nil => cases p2; exact ⟨rfl, [], .nil, .nil⟩
            | @cons x y xs ys hxy t ih =>
              cases p2 with
              | @cons _ kv _ kvs hxk t2 =>
                obtain ⟨i1, xs', i2, i3⟩ := ih kvs t2
                have ey : y.1 = nk kv.1 := hxy.1.symm.trans hxk.1
                by_cases c : nk kv.1 = nk k
                · refine ⟨by simp [atKey, ey, c], (x.1, x.2.1, z) :: xs', ?_, ?_⟩
                  · rw [List.map_cons]
                    refine .cons ?_ i2
                    unfold putAt
                    rw [if_pos (ey.trans c)]
                    exact ⟨hxy.1, hxy.2.1, rz⟩
                  · rw [List.map_cons, if_pos c]
                    exact .cons ⟨hxk.1, hxk.2.1, hxk.2.2.1, r3⟩ i3
                · refine ⟨?_, x :: xs', ?_, ?_⟩
                  · have e1 : atKey (y :: ys) (nk k) = atKey ys (nk k) := by simp [atKey, ey, c]
                    rw [e1, i1]
                    simp [c]
                  · rw [List.map_cons]
                    refine .cons ?_ i2
                    unfold putAt
                    rw [if_neg (by rw [ey]; exact c)]
                    exact hxy
                  · rw [List.map_cons, if_neg c]
                    exact .cons hxk i3
          obtain ⟨s1, xs', s2, s3⟩ := step xs ys kvs hp g2
          have new : ∃ xs2, Paired (fun (x : NestedKey × Addr × V) (y : NestedKey × Addr × Value) => x.1 = y.1 ∧ x.2.1 = y.2.1 ∧ RelV x.2.2 y.2.2) xs2 (storedH ys (nk k) ka u) ∧ Paired (RKv T m ah H) xs2 (kput kvs k v) ∧ xs2.length ≤ sizeLine := by
            have hl : xs.length = kvs.length := paired_len g2
            unfold storedH kput
            by_cases c2 : (atKey ys (nk k)).isSome = true
            · rw [if_pos c2]
              rw [s1] at c2
              rw [if_pos c2]
              exact ⟨xs', s2, s3, by rw [paired_len s3, List.length_map, sizeLine_eq]; omega⟩
            · rw [if_neg c2]
              rw [s1] at c2
              rw [if_neg c2]
              refine ⟨xs ++ [(nk k, ka, z)], Paired.snoc hp ⟨rfl, rfl, rz⟩, Paired.snoc g2 ⟨rfl, c.1, r2, r3⟩, ?_⟩
              rw [List.length_append, List.length_singleton, hl, sizeLine_eq]
              omega
          obtain ⟨xs2, n1, n2, n3⟩ := new
          refine q _ _ I' E' (S.write h1 z1 (by intro z; cases z) ⟨xs2, ⟨o', es', ep', _, upd_same, hx', hd', ?_, hn', hs, n3, n1⟩, Paired.mapR n2 fun _ _ w => RKv.ext E' S.len w⟩)
          rw [hT.P, hT.w]
          exact he'
        · cases h
  · cases h
/-- d[k] = e -/
def sDPut (fd fk fv : EF) : SF := fun σ ah => (fv σ ah).then σ fun v ah1 => (fd σ ah1).then σ fun d ah2 => (fk σ ah2).then σ fun k ah3 => match gDPut d k v ah3 with
  | some ah4 => .nx σ ah4
  | none => .bad
theorem ds_dput {d k value : Expr} {fd fk fv : EF} {pos' : Pos} (hT : TX X T) (hd : DE X T W d fd) (hk : DE X T W k fk) (hv : DE X T W value fv) (hs : swapsWith value (some (.Subscript d k pos')) pos.line X.env = pure false := by rfl) :
    DSt X T W (.Assign [.Subscript d k pos'] value pos) (sDPut fd fk fv) := by
  refine ⟨⟨fun pins s σ H D I h => ?_⟩⟩
  obtain ⟨m, ah, σd, S, En, h⟩ := h
  have t : tD T W fv σ H fun z H1 => tD T W fd σ H1 fun x H2 => tD T W fk σ H2 fun y H3 => ∃ m ah d k v ah', Sim T m ah H3 ∧ EnvR T m ah H3 σ σd ∧ RD T m ah H3 x d ∧ RD T m ah H3 y k ∧ RD T m ah H3 z v ∧ gDPut d k v ah = some ah' ∧ Oo T W m ah H3 (.nx σd ah') D := by
    refine ⟨m, ah, σd, S, En, (Oo.then S.len En h).mono fun m1 ah1 H1 v E1 S1 h1 z rz => ?_⟩
    have En1 := En.ext E1 S.len
    refine ⟨m1, ah1, σd, S1, En1, (Oo.then S1.len En1 h1).mono fun m2 ah2 H2 d E2 S2 h2 x rx => ?_⟩
    have En2 := En1.ext E2 S1.len
    refine ⟨m2, ah2, σd, S2, En2, (Oo.then S2.len En2 h2).mono fun m3 ah3 H3 k E3 S3 h3 y ry => ?_⟩
    split at h3
    · rename_i ah4 e
      exact ⟨m3, ah3, d, k, v, ah4, S3, En2.ext E3 S2.len, RD.ext E3 S2.len rx, ry, RD.ext E3 S2.len (RD.ext E2 S1.len rz), e, h3⟩
    · exact False.elim h3
  refine wpAny_Assign_Subscript (thn (hv.h.run pins s σ H _ I t) fun r s1 ⟨z, H1, I1, rz, q1⟩ => thn (hd.h.run pins s1 σ H1 _ I1 q1) fun u s2 ⟨x, H2, I2, rx, q2⟩ => thn (hk.h.run pins s2 σ H2 _ I2 q2) fun iv s3 ⟨y, H3, I3, ry, m3, ah3, d, k, v, ah4, S3, En3, g1, g2, g3, ge, q3⟩ => ?_) hs
  exact dput_ok hT I3 S3 rx ry rz g1 g2 g3 ge fun H' s' I' E' S' => ⟨σ, H', I', q3 m3 H' σ E' S' (En3.ext E' S3.len)⟩

/-! ### built-in functions and types -/
structure CallD (X : Cx) (T : Tb) (W : WX) (f : Value) (g : DF) : Prop where
  run : ∀ (pins : List (Addr × Obj)) (s : Shared) (σ σ0 : L2.St) (H : Hp) (xs : List V) (us : List Value) (Q : VK) (m : List Addr) (ah : AH) (ds : List D), Inv X pins σ H s → Vals xs us → Sim T m ah H → Paired (RD T m ah H) xs ds → OkV T W σ0 m ah H (g ds ah) Q →
    wpAny (model X.prog X.w) X.A (call f us) (EP X pins σ Q) X.xe s
theorem CallD.r {f : Value} {g : DF} (c : CallD X T W f g) : CallR X f (fun xs H Q => ∃ σ0 m ah ds, Sim T m ah H ∧ Paired (RD T m ah H) xs ds ∧ OkV T W σ0 m ah H (g ds ah) Q) := by
  intro pins s σ H xs us Q I r h
  obtain ⟨σ0, m, ah, ds, S, rd, q⟩ := h
  exact c.run pins s σ σ0 H xs us Q m ah ds I r S rd q
theorem call_tt {g : DF} (q : tD T W (fCall g fa) σ H Q) : tCB (fun xs H Q => ∃ σ0 m ah ds, Sim T m ah H ∧ Paired (RD T m ah H) xs ds ∧ OkV T W σ0 m ah H (g ds ah) Q) (tA T W fa) σ H Q := by
  obtain ⟨m, ah, σd, S, En, q⟩ := q
  exact ⟨m, ah, σd, S, En, (Ok.bind S.len q).mono fun m1 ah1 H1 ds E1 S1 h1 xs r => ⟨σ, m1, ah1, ds, S1, r, h1⟩⟩
theorem de_callB {g : DF} {x : Str} {id : String} (c : CallD X T W (.builtin id) g) (hg : Gl X x) (hm : X.mg x = none) (hv : bootBuiltins x = some (.builtin id)) (ha : DA X T W (e :: es) fa) (hn : x ≠ "__name__" := by decide) (hdb : (x == ("__debug__" : Str)) = false := by decide)
    (he : starEach (e :: es) X.env = (false, eval e X.env) :: starEach es X.env := by rfl) (hpl : (backTo pos (starEach es X.env)).any (·.1) = false := by rfl) : DE X T W (.Call (.Name x p) (e :: es) [] pos) (fCall g fa) :=
  ⟨(pe_callB c.r hg hm hv ha.h hn hdb he hpl).imp fun σ H Q q => call_tt q⟩
theorem de_callTy {g : DF} {x : Str} {Ty : String} (c : CallD X T W (.type Ty) g) (hg : Gl X x) (hm : X.mg x = none) (hv : bootBuiltins x = some (.type Ty)) (ha : DA X T W (e :: es) fa) (hn : x ≠ "__name__" := by decide) (hdb : (x == ("__debug__" : Str)) = false := by decide)
    (he : starEach (e :: es) X.env = (false, eval e X.env) :: starEach es X.env := by rfl) (hpl : (backTo pos (starEach es X.env)).any (·.1) = false := by rfl) : DE X T W (.Call (.Name x p) (e :: es) [] pos) (fCall g fa) :=
  ⟨(pe_callTy c.r hg hm hv ha.h hn hdb he hpl).imp fun σ H Q q => call_tt q⟩
/-- len -/
def gLen : DF := fun ds ah => match ds with
  | [.p (.str z)] => if z.length ≤ 16777216 then .ok (.p (.int z.length)) ah else .bad
  | [d] => match itemsOf ah d with
    | some l => .ok (.p (.int l.length)) ah
    | none => match dctOf ah d with
      | some kvs => .ok (.p (.int kvs.length)) ah
      | none => .bad
  | _ => .bad
theorem one_of {ds : List D} {xs : List V} {d : D} (r : Paired (RD T m ah H) xs [d]) : ∃ v, xs = [v] ∧ RD T m ah H v d := by
  cases r with
  | cons h t => cases t; exact ⟨_, rfl, h⟩
theorem cd_len (hT : TX X T) : CallD X T W (.builtin "len") gLen := by
  refine ⟨fun pins s σ σ0 H xs us Q m ah ds I r S rd q => ?_⟩
  unfold gLen at q
  split at q
  · cases rd with
    | cons h t =>
      cases t
      cases h
      split at q
      · rename_i c
        exact call_len_str pins s σ H _ us Q I r ⟨_, rfl, by rw [sizeLine_eq]; exact c, OkV.int S q⟩
      · exact False.elim q
  · rename_i d _
    cases rd with
    | cons h t =>
      cases t
      split at q
      · rename_i l e1
        obtain ⟨a, vs, rfl, g1, g2⟩ := items_seq S h e1
        rw [hT.K] at g2
        refine call_len_seq pins s σ H _ us Q I r ⟨a, vs, rfl, g2, ?_⟩
        rw [paired_len g1]
        exact OkV.int S q
      · split at q
        · rename_i kvs e1
          obtain ⟨a, xs, rfl, g1, g2⟩ := dct_raw S h e1
          obtain ⟨ys, k1, k2, k3, k4⟩ := DRaw.keyed hT I g1 (keys_is I g2)
          obtain ⟨u, rfl, ru⟩ := vals1 r
          cases ru
          have hl : ys.length = kvs.length := by rw [← paired_len k2, paired_len g2]
          have hz : kvs.length ≤ 16777216 := by rw [← paired_len g2, ← sizeLine_eq]; exact k4
          refine call_len_slot (n := (ys.length : Int)) k1.typeIs F.slot_dict_len (fun Q' hq => len_keyed k3 k1 hq) (by omega) (by omega) ?_
          refine ⟨.int kvs.length, H, I.tok _, ⟨_, by rw [hl]⟩, OkV.int S q⟩
        · exact False.elim q
  · exact False.elim q
/-- tuple, list of a list or a tuple -/
def gTuple : DF := fun ds ah => match ds with
  | [.p (.list xs)] => .ok (.p (.tuple xs)) ah
  | [.p (.tuple xs)] => .ok (.p (.tuple xs)) ah
  | _ => .bad
theorem cd_tuple (hT : TX X T) : CallD X T W (.type "tuple") gTuple := by
  refine ⟨fun pins s σ σ0 H xs us Q m ah ds I r S rd q => ?_⟩
  unfold gTuple at q
  split at q
  · cases rd with
    | cons h t =>
      cases t
      cases h with
      | lst n h a => exact call_tuple_of pins s σ H _ us Q I r ⟨_, _, rfl, .inl ⟨SqL.of h, fun l hl => OkV.tup S q a hl⟩⟩
  · cases rd with
    | cons h t =>
      cases t
      cases h with
      | tup n h a => exact call_tuple_of pins s σ H _ us Q I r ⟨_, _, rfl, .inr ⟨SqT.of h, OkV.p S q (.tup n h a)⟩⟩
  · exact False.elim q
def gList : DF := fun ds ah => match ds with
  | [.p (.list xs)] => .ok (.p (.list xs)) ah
  | [.p (.tuple xs)] => .ok (.p (.list xs)) ah
  | _ => .bad
theorem cd_list (hT : TX X T) : CallD X T W (.type "list") gList := by
  refine ⟨fun pins s σ σ0 H xs us Q m ah ds I r S rd q => ?_⟩
  unfold gList at q
  split at q
  · cases rd with
    | cons h t =>
      cases t
      cases h with
      | lst n h a => exact call_list_of pins s σ H _ us Q I r ⟨_, _, rfl, .inl (SqL.of h), fun l hl => OkV.lst S q a hl⟩
  · cases rd with
    | cons h t =>
      cases t
      cases h with
      | tup n h a => exact call_list_of pins s σ H _ us Q I r ⟨_, _, rfl, .inr (SqT.of h), fun l hl => OkV.lst S q a hl⟩
  · exact False.elim q
/-- int -/
def gInt : DF := fun ds ah => match ds with
  | [.p (.int i)] => .ok (.p (.int i)) ah
  | [.p (.bool b)] => .ok (.p (.int (if b then 1 else 0))) ah
  | _ => .bad
theorem cd_int : CallD X T W (.type "int") gInt := by
  refine ⟨fun pins s σ σ0 H xs us Q m ah ds I r S rd q => ?_⟩
  unfold gInt at q
  split at q
  · cases rd with
    | cons h t =>
      cases t
      cases h
      exact call_int1 pins s σ H _ us Q I r (.inl ⟨_, rfl, OkV.int S q⟩)
  · cases rd with
    | cons h t =>
      cases t
      cases h
      exact call_int1 pins s σ H _ us Q I r (.inr ⟨_, rfl, OkV.int S q⟩)
  · exact False.elim q
def gMax2 : DF := fun ds ah => match ds with
  | [.p (.int i), .p (.int j)] => .ok (.p (.int (if j > i then j else i))) ah
  | _ => .bad
def gMin2 : DF := fun ds ah => match ds with
  | [.p (.int i), .p (.int j)] => .ok (.p (.int (if j < i then j else i))) ah
  | _ => .bad
theorem cd_max2 (hT : TX X T) : CallD X T W (.builtin "max") gMax2 := by
  refine ⟨fun pins s σ σ0 H xs us Q m ah ds I r S rd q => ?_⟩
  unfold gMax2 at q
  split at q
  · cases rd with
    | cons h t =>
      cases t with
      | cons h2 t =>
        cases t
        cases h
        cases h2
        exact call_max2 hT.calm pins s σ H _ us Q I r ⟨_, _, rfl, OkV.int S q⟩
  · exact False.elim q
theorem cd_min2 (hT : TX X T) : CallD X T W (.builtin "min") gMin2 := by
  refine ⟨fun pins s σ σ0 H xs us Q m ah ds I r S rd q => ?_⟩
  unfold gMin2 at q
  split at q
  · cases rd with
    | cons h t =>
      cases t with
      | cons h2 t =>
        cases t
        cases h
        cases h2
        exact call_min2 hT.calm pins s σ H _ us Q I r ⟨_, _, rfl, OkV.int S q⟩
  · exact False.elim q
def gAbs : DF := fun ds ah => match ds with
  | [.p (.int i)] => .ok (.p (.int (if i < 0 then -i else i))) ah
  | _ => .bad
theorem cd_abs : CallD X T W (.builtin "abs") gAbs := by
  refine ⟨fun pins s σ σ0 H xs us Q m ah ds I r S rd q => ?_⟩
  unfold gAbs at q
  split at q
  · cases rd with
    | cons h t =>
      cases t
      cases h
      exact call_abs pins s σ H _ us Q I r ⟨_, rfl, OkV.int S q⟩
  · exact False.elim q
/-- sorted, of a list or a tuple of alike data -/
def allAlike (xs : List PyData) : Bool := xs.all fun x => xs.all fun y => PySem.W.alike x y
def tupNE : PyData → Bool
  | .tuple (_ :: _) => true
  | _ => false
def sortKind (d : PyData) : Bool := match d with
  | .none => false
  | .tuple _ => false
  | _ => true
def sortOk (xs : List PyData) : Bool := allAlike xs && (xs.all tupNE || xs.all sortKind) && SeqAt.shaped (.list xs) && decide (xs.length ≤ 16777216)
def sortD (xs : List PyData) : List PyData := xs.mergeSort (PySem.W.dataLe false id)
def gSorted : DF := fun ds ah => match ds with
  | [d] => match dataOf ah d with
    | some (.list xs) => if sortOk xs then .ok (.p (.list (sortD xs))) ah else .bad
    | some (.tuple xs) => if sortOk xs then .ok (.p (.list (sortD xs))) ah else .bad
    | _ => .bad
  | _ => .bad
end
end DL

set_option Elab.async false
set_option linter.all false
set_option maxRecDepth 100000
/-! DLh: any source, any subscript; sorted; methods; the context in one; calls in short. -/
namespace DL
open PySem PySem.Spec PyProof.Rows L2
section
variable {X : Cx} {T : Tb} {W : WX} {pos p : Pos} {e o a b : Expr} {es : List Expr} {fe fo fb : EF} {fa : AF} {m : List Addr} {ah : AH} {H : Hp} {σ : L2.St} {Q : VK} {pins : List (Addr × Obj)} {s : Shared} {tg : Expr}
/-- what a loop walks: a list, a tuple, a dict's keys, the script -/
def iAny (f : EF) : IF := fun σ ah => (f σ ah).bind fun d ah1 => match d with
  | .p (.list xs) => .ok (xs.map .p) ah1
  | .p (.tuple xs) => .ok (xs.map .p) ah1
  | .p (.dict kvs) => .ok (kvs.map fun e => .p e.1) ah1
  | .s ns => .ok (ns.map fun i => .p (.int i)) ah1
  | _ => .bad
theorem di_any (hT : TX X T) (h : DE X T W e fe) : DI X T W tg e (iAny fe) := by
  refine ⟨⟨fun pins s σ H R I q => ?_⟩⟩
  have t : tD T W fe σ H fun v H1 => (iList X.K (fun _ H Q => Q v H) σ H1 R) ∨ (iTup X.K (fun _ H Q => Q v H) σ H1 R) ∨ (iKeysT (fun _ H Q => Q v H) σ H1 R) := by
    obtain ⟨m, ah, σd, S, En, q⟩ := q
    refine ⟨m, ah, σd, S, En, (Ok.bind S.len q).mono fun m1 ah1 H1 d E1 S1 h1 v r => ?_⟩
    split at h1
    · cases r with
      | lst n g p =>
        refine .inl ⟨_, rfl, ⟨_, SqL.of g⟩, ?_⟩
        rw [← hT.K]
        exact h1.here S1 _ ⟨jok_list S1 n g p, fun D o hD => jok_list (T := T.more D) (S1.more hD) (notLV_more hD _ (by rw [g]; simp) n) (grow_upd hD _ _ g) (pdA_more hD p)⟩
    · cases r with
      | tup n g p =>
        refine .inr (.inl ⟨_, rfl, ⟨_, SqT.of g⟩, ?_⟩)
        rw [← hT.K]
        exact h1.here S1 _ ⟨jok_tpl S1 n g p, fun D o hD => jok_tpl (T := T.more D) (S1.more hD) (notLV_more hD _ (by rw [g]; simp) n) (grow_upd hD _ _ g) (pdA_more hD p)⟩
    · cases r with
      | dct n g p =>
        obtain ⟨o, es, ep, ys, hH, hx, hd, he, hn, hs, hz, pp⟩ := g
        refine .inr (.inr ⟨_, o, es, ep, rfl, hs, hH, hx, hd, fun i en q => ?_, h1.here S1 _ ⟨jok_keys S1 n hH he pp p, fun D u hD => jok_keys (T := T.more D) (S1.more hD) (notLV_more hD _ (by rw [hH]; simp) n) (grow_upd hD _ _ hH) he pp (pdK_more hD p)⟩⟩)
        obtain ⟨y, _, q2⟩ := keyAt he i en q
        exact ⟨_, q2⟩
    · obtain ⟨rfl, g1, g2⟩ := jok_script S1 r
      refine .inl ⟨_, rfl, ⟨_, by rw [← hT.K]; exact g1⟩, ?_⟩
      rw [← hT.K]
      exact h1.here S1 _ ⟨g2, fun D o hD => (jok_script (T := T.more D) (S1.more hD) (rd_more hD r)).2.2⟩
    · exact False.elim h1
  refine thn (h.h.run pins s σ H _ I t) fun v s1 ⟨x, H1, I1, r1, q1⟩ => ?_
  -- a value at hand, as an expression that gives it
  rcases q1 with q1 | q1 | q1
  · obtain ⟨a, ex, ⟨xs, hq⟩, q⟩ := q1
    subst ex
    cases r1
    obtain ⟨its, rv, p, hz⟩ := I1.list hq
    refine wpAny_pyIter_list p.isList ?_
    refine ⟨s1.heap.objs.size, [s1.heap.objs.size], _, _, H1, rfl, I1.kept (t' := s1.toks) fun b o e => Heap.get?_push_of_some _ e, turn_list a _, ⟨_, Heap.get?_push_size _ rfl, rfl, rfl⟩, fun b hb => ?_, q⟩
    have e : b = s1.heap.objs.size := by simpa using hb
    subst e
    exact I1.fpOk (Nat.le_refl _) (I1.hok.fresh (Nat.le_refl _))
  · obtain ⟨a, ex, ⟨xs, hq⟩, q⟩ := q1
    subst ex
    cases r1
    obtain ⟨its, rv, p, hz⟩ := I1.tuple hq
    refine wpAny_pyIter_tuple (show s1.heap.IsTuple a its.toArray from p) ?_
    refine ⟨s1.heap.objs.size, [s1.heap.objs.size], _, _, H1, rfl, I1.kept (t' := s1.toks) fun b o e => Heap.get?_push_of_some _ e, turn_tuple a _, ⟨_, Heap.get?_push_size _ rfl, rfl, rfl⟩, fun b hb => ?_, q⟩
    have e : b = s1.heap.objs.size := by simpa using hb
    subst e
    exact I1.fpOk (Nat.le_refl _) (I1.hok.fresh (Nat.le_refl _))
  · obtain ⟨a, o, es, ep, ex, hs, hH, hx, hd, hk, q⟩ := q1
    subst ex
    cases r1
    have ho : s1.heap.get? a = some o := (I1.hok a _ hH).1
    refine wpAny_pyIter_dict_raw hs ⟨o, ho, hx, hd⟩ ?_
    refine ⟨s1.heap.objs.size, [s1.heap.objs.size], _, _, H1, rfl, I1.kept (t' := s1.toks) fun b ob e => Heap.get?_push_of_some _ e, turn_keysD _ hx hd hk, ⟨_, Heap.get?_push_size _ rfl, rfl, ?_⟩, fun b hb => ?_, q⟩
    · simp [rawInt]
    · have e : b = s1.heap.objs.size := by simpa using hb
      subst e
      exact I1.fpOk (Nat.le_refl _) (I1.hok.fresh (Nat.le_refl _))
/-- d[i], of a list, a tuple, a text, a dict -/
def gSub2 : G2 := fun d e ah => match dctOf ah d with
  | some _ => gDGet d e ah
  | none => gIx d e ah
theorem de_sub (hT : TX X T) (ha : DE X T W a fe) (hb : DE X T W b fb) (hs : PlainIx b) : DE X T W (.Subscript a b pos) (f2 gSub2 fe fb) := by
  refine ⟨⟨fun pins s σ H Q I h => ?_⟩⟩
  refine Subscript_ (binT ha.h hb.h I (two' h) fun v u s2 x y H2 I2 rx ry q => ?_)
  obtain ⟨m, ah, d, e, S, r1, r2, q⟩ := q
  unfold gSub2 at q
  split at q
  · rename_i kvs e1
    unfold gDGet at q
    split at q
    · rename_i kvs' k e1'
      rw [e1'] at e1; cases e1
      split at q
      · rename_i c
        split at q
        · rename_i x' e2
          obtain ⟨a, xs, rfl, h1, h2⟩ := dct_raw S r1 e1'
          obtain ⟨ys, g1, g2, g3, _⟩ := DRaw.keyed hT I2 h1 (keys_is I2 h2)
          obtain ⟨ka, rfl, hk⟩ := keyOk_is I2 r2 c
          cases rx
          cases ry
          rcases find_keyed (F := RKv T m ah H2) (G := RD T m ah H2) (fun x kv z => ⟨z.1, z.2.2.2⟩) k h2 g2 with ⟨z1, z2⟩ | ⟨d', v, u, z1, z2, z3, z4⟩
          · rw [z1] at e2; cases e2
          · rw [z1] at e2; cases e2
            exact subscriptTail_builtinR (x := u) (h1.typeIs I2) PySem.F.slot_dict_getitem.lookup (getItem_keyed (Q := fun r s' => r = u ∧ EP X pins σ Q r s') (keyRoom hT) hk g1 z2 ⟨rfl, v, H2, I2.tok _, z3, OkV.d S q z4⟩) (hs _ _)
        · exact False.elim q
      · exact False.elim q
    · exact False.elim q
  · exact (id_ix hT).run _ _ pins s2 σ H2 x y v u Q m ah d e I2 rx ry S r1 r2 q (hs _ _)

/-! ### sorted -/
theorem each_vals {B : Tw} {L : Addr → Prop} {H : Hp} : ∀ {us : List Value} {ds : List PyData}, PySem.W.EachIs (fun u d => ∃ v, RelV v u ∧ Pd B L H v d) us ds → ∃ vs, Vals vs us ∧ PdA B L H vs ds
  | _, _, .nil => ⟨[], .nil, .nil⟩
  | _, _, .cons ⟨v, r, h⟩ t => by
    obtain ⟨vs, h1, h2⟩ := each_vals t
    exact ⟨v :: vs, .cons r h1, .cons h h2⟩
theorem vals_each {B : Tw} {L : Addr → Prop} {H : Hp} : ∀ {vs : List V} {us : List Value} {ds : List PyData}, Vals vs us → PdA B L H vs ds → PySem.W.EachIs (fun u d => ∃ v, RelV v u ∧ Pd B L H v d) us ds
  | _, _, [], .nil, .nil => .nil
  | _, _, _ :: _, .cons r t, .cons h q => .cons ⟨_, r, h⟩ (vals_each t q)
theorem sort_parts {xs : List PyData} (h : sortOk xs = true) : PySem.W.AllAlike (xs.map id) ∧ PySem.W.Sortable (xs.map id) ∧ SeqAt.shaped (.list xs) = true ∧ xs.length ≤ 16777216 := by
  unfold sortOk at h
  simp only [Bool.and_eq_true, Bool.or_eq_true, decide_eq_true_eq] at h
  obtain ⟨⟨⟨h1, h2⟩, h3⟩, h4⟩ := h
  rw [List.map_id]
  refine ⟨fun d hd d' hd' => ?_, ?_, h3, h4⟩
  · unfold allAlike at h1
    rw [List.all_eq_true] at h1
    have := h1 d hd
    rw [List.all_eq_true] at this
    exact this d' hd'
  · rcases h2 with h2 | h2
    · refine .inl fun d hd => ?_
      rw [List.all_eq_true] at h2
      have := h2 d hd
      unfold tupNE at this
      split at this
      · exact ⟨_, _, rfl⟩
      · cases this
    · refine .inr fun d hd => ?_
      rw [List.all_eq_true] at h2
      have := h2 d hd
      unfold sortKind at this
      split at this
      · cases this
      · cases this
      · rename_i g1 g2
        exact ⟨fun z => g1 z, fun xs z => g2 xs z⟩
theorem mem_depth : ∀ {xs : List PyData} {d : PyData}, d ∈ xs → d.depth ≤ PyData.depthAll xs
  | x :: r, d, h => by
    rcases List.mem_cons.mp h with rfl | h
    · simp only [PyData.depthAll]; omega
    · have := mem_depth h
      simp only [PyData.depthAll]; omega
theorem mem_shaped {xs : List PyData} (h : SeqAt.shaped (.list xs) = true) : ∀ d ∈ xs, d.canLay0 = true ∧ d.depth ≤ 64 := by
  have h1 := (shaped_lay h).1
  have h2 := (shaped_lay h).2
  intro d hd
  have h1' : PyData.canLayAll0 xs = true := by simpa [PyData.canLay0] using h1
  have hz : PyData.depthAll xs ≤ 64 := by
    simp only [PyData.depth] at h2
    omega
  refine ⟨?_, Nat.le_trans (mem_depth hd) hz⟩
  clear h h1 h2 hz
  induction xs with
  | nil => simp at hd
  | cons x r ih =>
    simp only [PyData.canLayAll0, Bool.and_eq_true] at h1'
    rcases List.mem_cons.mp hd with rfl | hd
    · exact h1'.1
    · exact ih hd h1'.2
/-- the items of a plain list, sorted -/
theorem sorted_ok (hT : TX X T) {l : Addr} {us : List Value} {vs : List V} {xs : List PyData} {L : Addr → Prop} {B : Tw} (hB : B = T.B) (I : Inv X pins σ H s) (hl : s.heap.IsList l us.toArray) (r : Vals vs us) (a : PdA B L H vs xs) (c : sortOk xs = true)
    (q : ∀ ws p, PdA B L H ws (sortD xs) → H p = none → Q (.ref p) (upd H p (.lst ws))) : wpAny (model X.prog X.w) X.A (call (.builtin "sorted") [.ref l]) (EP X pins σ Q) X.xe s := by
  obtain ⟨c1, c2, c3, c4⟩ := sort_parts c
  have hu := hT.un
  have er : PySem.W.EachIs (fun u (d : PyData) => ∃ as, Reads s.heap u (id d) as) us xs := by
    subst hB
    have key : ∀ (vs : List V) (us : List Value) (ds : List PyData), Vals vs us → PdA T.B L H vs ds → (∀ d ∈ ds, d.canLay0 = true) → PySem.W.EachIs (fun u (d : PyData) => ∃ as, Reads s.heap u (id d) as) us ds := by
      intro vs us ds r
      induction r generalizing ds with
      | nil => intro a _; cases a; exact .nil
      | cons h t ih =>
        intro a hd
        cases a with
        | cons h1 h2 =>
          have z := Pd.dp (T := T) _ _ h1 (hd _ List.mem_cons_self)
          rw [hT.K] at z
          exact .cons (Dp.reads I _ _ _ z h) (ih _ h2 fun d hd' => hd d (List.mem_cons_of_mem _ hd'))
    exact key vs us xs r a fun d hd => (mem_shaped c3 d hd).1
  refine PySem.W.sorted_data (enc := id) (bs := xs) hl (vals_each r a) er c1 c2 (by rw [sizeLine_eq]; exact c4) (fun b hb => ?_) fun out ho eo => ?_
  · have := (mem_shaped c3 b hb).2
    show X.A.units + 2 + b.depth < cLine
    omega
  · obtain ⟨ws, w1, w2⟩ := each_vals eo
    obtain ⟨ce, hce⟩ := sortedAll_at s.heap us out.toArray
    have hf : H (s.heap.objs.size + 1) = none := I.hok.fresh (Nat.le_succ _)
    have hz : ws.length ≤ sizeLine := by
      rw [w1.length, ho, sizeLine_eq]
      exact c4
    exact ⟨.ref (s.heap.objs.size + 1), _, I.laid (t' := s.toks) (fun b o e => sortedAll_old e) (Nat.le_succ _) (show ObjOk X.prog X.w _ _ _ (.lst ws) from ⟨hz, out, ce, w1, hce⟩), rfl, q ws _ w2 hf⟩
theorem cd_sorted (hT : TX X T) : CallD X T W (.builtin "sorted") (fun ds ah => match ds with
  | [d] => match dataOf ah d with
    | some (.list xs) => if sortOk xs then .ok (.p (.list (sortD xs))) ah else .bad
    | _ => .bad
  | _ => .bad) := by
  refine ⟨fun pins s σ σ0 H xs us Q m ah ds I r S rd q => ?_⟩
  split at q
  · rename_i d
    split at q
    · rename_i l e1
      split at q
      · rename_i c
        cases rd with
        | cons h t =>
          cases t
          obtain ⟨u, rfl, ru⟩ := vals1 r
          -- the list, its values
          have lst : ∃ a vs, u = .ref a ∧ H a = some (.lst vs) ∧ PdA T.B (LV T m ah) H vs l ∨ ∃ ns, d = .s ns := by
            cases d with
            | p x =>
              cases e1
              cases h with
              | lst n g p => cases ru; exact ⟨_, _, .inl ⟨rfl, g, p⟩⟩
            | r i =>
              obtain ⟨a, h1, rfl⟩ := h
              obtain ⟨ds, ys, z1, z2, z3⟩ := dataOf_r e1
              cases z3
              obtain ⟨vs, g1, g2⟩ := S.at_ i a _ h1 z1
              cases ru
              exact ⟨a, vs, .inl ⟨rfl, g1, pures_pd g2 z2⟩⟩
            | f i => cases e1
            | s ns => exact ⟨0, [], .inr ⟨ns, rfl⟩⟩
          obtain ⟨a, vs, ⟨rfl, g, p⟩ | ⟨ns, rfl⟩⟩ := lst
          · obtain ⟨its, rv, pl, hz⟩ := I.list (SqL.of g)
            exact sorted_ok hT rfl I pl.isList rv p c fun ws p pw hp => OkV.lst S q pw hp
          · obtain ⟨rfl, hh⟩ := h
            cases e1
            cases ru
            have hq : SqL T.K H T.sa (ns.map V.int) := by
              rcases hh with ⟨_, g⟩ | g
              · exact .inl g
              · exact .inr g
            rw [hT.K] at hq
            obtain ⟨its, rv, pl, hz⟩ := I.list hq
            have pa : ∀ ns : List Int, PdA T.B (LV T m ah) H (ns.map V.int) (ns.map .int) := fun ns => by
              induction ns with
              | nil => exact .nil
              | cons n r ih => exact .cons (.int n) ih
            exact sorted_ok hT rfl I pl.isList rv (pa ns) c fun ws p pw hp => OkV.lst S q pw hp
      · exact False.elim q
    · exact False.elim q
  · exact False.elim q
end
end DL

set_option Elab.async false
set_option linter.all false
set_option maxRecDepth 100000
/-! DLi: the context in one, calls in short, the law's end. -/
namespace DL
open PySem PySem.Spec PyProof.Rows L2
structure CxO (X : Cx) (T0 T : Tb) (W : WX) (k : Nat) : Prop where
  t : TX X T
  g : ∃ G, T = { T0 with G := G }
  tk : Takes X W
  hr : Room k X.A
structure Def (T0 : Tb) (mg : Str → Option Value) (base : Heap) (k : Nat) (x : Str) (f : Addr) (fd : FuncData) (ps : List Str) (F : DF) : Prop where
  fn : DFn T0 mg base k f fd ps F
  g : mg x = some (.ref f)
  kp : PySem.W.keepIn T0.K (.ref f) = true
  b : Binds T0.K fd ps []
theorem DFn.bad {T0 : Tb} {mg : Str → Option Value} {base : Heap} {k : Nat} {f : Addr} {fd : FuncData} {ps : List Str} : DFn T0 mg base k f fd ps (fun _ _ => .bad) := by
  refine ⟨fun G => ⟨fun vs H Q E h => ?_, fun A outer s H args us vs Q E _ _ _ _ h => ?_⟩⟩
  · obtain ⟨_, _, _, _, _, _, z⟩ := h
    exact False.elim z
  · obtain ⟨_, _, _, _, _, _, z⟩ := h
    exact False.elim z
section
variable {X : Cx} {T T0 : Tb} {W : WX} {k : Nat} {pos p : Pos} {e : Expr} {es : List Expr} {fa : AF} {F : DF}
theorem CxO.blk (c : CxO X T0 T W k) (s : Shared) (H : Hp) (scope : Scope) (cenv : PySem.Env) (fp : List Addr) (N : Addr) : CxO (X.blk s H scope cenv fp) T0 (T.more N) W0 k :=
  ⟨c.t.blk s H scope cenv fp N, let ⟨G, h⟩ := c.g; ⟨N :: G, by rw [h]⟩, takes0, c.hr⟩
theorem de_fn {j : Nat} {f : Addr} {fd : FuncData} {ps : List Str} {x : Str} (c : CxO X T0 T W k) (d : Def T0 X.mg X.base j x f fd ps F) (hj : j ≤ k) (hg : Gl X x) (ha : DA X T W (e :: es) fa) (hl : ∀ σ ah ds ah', fa σ ah = .ok ds ah' → ds.length = ps.length) (hn : (e :: es).length = ps.length := by rfl)
    (hdb : (x == ("__debug__" : Str)) = false := by decide) (he : starEach (e :: es) X.env = (false, eval e X.env) :: starEach es X.env := by rfl) (hpl : (backTo pos (starEach es X.env)).any (·.1) = false := by rfl) :
    DE X T W (.Call (.Name x p) (e :: es) [] pos) (fCall F fa) := by
  have hK : T0.K = X.K := by
    obtain ⟨G, h⟩ := c.g
    have := c.t.K
    rw [h] at this
    exact this
  exact de_call c.t c.g d.fn (c.hr.mono hj) hg d.g (by rw [← hK]; exact d.kp) (by rw [← hK]; exact d.b) c.tk ha hn hl hdb he hpl
/-- comprehensions, by the context -/
theorem de_lcC {i : Nat} {x : Str} {px : Pos} {elt iter : Expr} {ifs : List Expr} {scope : Scope} {fi : IF} {ct : TF} {fe : EF} (c : CxO X T0 T W k) (hN : X.N.Nodup) (hi : DI X T W (.Name x px) iter fi) (ok : BlkOk X.N X.env.scope scope [(x, i)])
    (hg : ∀ (s : Shared) (H : Hp) (C : Addr) (cl : List (Str × Addr)) (fp : List Addr), PG (X.blk s H scope (compEnvC scope cl C X.env) fp) (.Name x px) (gName i))
    (ht : ∀ (N : Addr) (s : Shared) (H : Hp) (C : Addr) (cl : List (Str × Addr)) (fp : List Addr), CxO (X.blk s H scope (compEnvC scope cl C X.env) fp) T0 (T.more N) W0 k → DTs (X.blk s H scope (compEnvC scope cl C X.env) fp) (T.more N) W0 ifs ct)
    (he : ∀ (N : Addr) (s : Shared) (H : Hp) (C : Addr) (cl : List (Str × Addr)) (fp : List Addr), CxO (X.blk s H scope (compEnvC scope cl C X.env) fp) T0 (T.more N) W0 k → DE (X.blk s H scope (compEnvC scope cl C X.env) fp) (T.more N) W0 elt fe) (hs : ∀ x, foldedSetIterable iter X.env x = pure x := by intro _; rfl) :
    DE X T W (.ListComp elt [⟨.Name x px, iter, ifs, 0⟩] scope pos) (fLc fi i ct fe) :=
  de_lc c.t hN hi ok hg (fun N s H C cl fp => ht N s H C cl fp (c.blk ..)) (fun N s H C cl fp => he N s H C cl fp (c.blk ..)) hs
theorem ds_setLcC {j i : Nat} {y x : Str} {py px : Pos} {elt iter : Expr} {ifs : List Expr} {scope : Scope} {fi : IF} {ct : TF} {fe : EF} {spos : Pos} (c : CxO X T0 T W k) (hN : X.N.Nodup) (hy : X.N[j]? = some y) (hyl : X.env.scope.names.lookup y = some .local)
    (hsw : swapsWith (.ListComp elt [⟨.Name x px, iter, ifs, 0⟩] scope pos) (some (.Name y py)) spos.line X.env = pure true) (hi : DI X T W (.Name x px) iter fi) (ok : BlkOk X.N X.env.scope scope [(x, i)])
    (hg : ∀ (s : Shared) (H : Hp) (C : Addr) (cl : List (Str × Addr)) (fp : List Addr), PG (X.blk s H scope (compEnvC scope cl C X.env) fp) (.Name x px) (gName i))
    (ht : ∀ (N : Addr) (s : Shared) (H : Hp) (C : Addr) (cl : List (Str × Addr)) (fp : List Addr), CxO (X.blk s H scope (compEnvC scope cl C X.env) fp) T0 (T.more N) W0 k → DTs (X.blk s H scope (compEnvC scope cl C X.env) fp) (T.more N) W0 ifs ct)
    (he : ∀ (N : Addr) (s : Shared) (H : Hp) (C : Addr) (cl : List (Str × Addr)) (fp : List Addr), CxO (X.blk s H scope (compEnvC scope cl C X.env) fp) T0 (T.more N) W0 k → DE (X.blk s H scope (compEnvC scope cl C X.env) fp) (T.more N) W0 elt fe) (hs : ∀ x, foldedSetIterable iter X.env x = pure x := by intro _; rfl) :
    DSt X T W (.Assign [.Name y py] (.ListComp elt [⟨.Name x px, iter, ifs, 0⟩] scope pos) spos) (sSet j (fLc fi i ct fe)) :=
  ds_setLc c.t hN hy hyl hsw hi ok hg (fun N s H C cl fp => ht N s H C cl fp (c.blk ..)) (fun N s H C cl fp => he N s H C cl fp (c.blk ..)) hs
/-- the body's context -/
abbrev cxD (T0 : Tb) (mg : Str → Option Value) (base : Heap) (N : List Str) (qual : Str) (st : Stmt) (f : Addr) (cdv : Value) (A : Around) (outer : List PySem.Env) (s : Shared) (H : Hp) (E : XK) : Cx := cxOf (L2.CX T0.B.P T0.B.w) T0.B.P T0.B.w T0.K mg base N qual (defScope st) f cdv A outer s H E
abbrev wD (E : XK) : WX := fun cls d _ H => E cls d H
theorem DFn.by {mg : Str → Option Value} {base : Heap} {x qual : Str} {st : Stmt} {f : Addr} {fd : FuncData} {N ps : List Str} {g : SF} (Fu : Fun T0.K x qual st f fd) (sc : FnScope N ps (defScope st))
    (h : ∀ (cdv : Value) (A : Around) (outer : List PySem.Env) (s : Shared) (H : Hp) (E : XK) (T : Tb), CxO (cxD T0 mg base N qual st f cdv A outer s H E) T0 T (wD E) k → PassesOwn (model T0.B.P T0.B.w) (cxD T0 mg base N qual st f cdv A outer s H E).A (cxD T0 mg base N qual st f cdv A outer s H E).env (cxD T0 mg base N qual st f cdv A outer s H E).xe →
      DSs (cxD T0 mg base N qual st f cdv A outer s H E) T (wD E) (defBody st) g) :
    DFn T0 mg base (k + 1) f fd ps (fDef N.length g) := by
  refine ⟨fun G => Fu.okX sc (fun vs H Q E hh => ?_) fun cdv A outer s H vs Q E hr hh => ?_⟩
  · obtain ⟨m, ah, ds, S, r, hl, _⟩ := hh
    rw [paired_len r, hl]
  · obtain ⟨m, ah, ds, S, r, hl, q⟩ := hh
    have tx : TX (cxD T0 mg base N qual st f cdv A outer s H E) { T0 with G := G } := ⟨rfl, rfl, rfl, rfl, by
      have := hr.un
      show A.units + 3 + 200 < _
      have h2 : A.units + 3 + 16 * k + 200 < cLine := this
      omega⟩
    have tk : Takes (cxD T0 mg base N qual st f cdv A outer s H E) (wD E) := takes_of rfl rfl rfl rfl
    have body := h cdv A outer s H E { T0 with G := G } ⟨tx, ⟨G, rfl⟩, tk, hr⟩ (passes_of rfl)
    refine ⟨_, body.h, m, ah, startD N.length ds, S, env_start r, ?_⟩
    have q : Ok { T0 with G := G } (fun c d _ H => E c d H) [] m ah H (g (startD N.length ds) ah).fin fun m' ah' H' d => ∀ v, RD { T0 with G := G } m' ah' H' v d → Q v H' := q
    cases z : g (startD N.length ds) ah with
    | nx σ' ah' => rw [z] at q; exact fun m' H' σ2 E' S' _ => q m' H' E' S' .non .non
    | rt d ah' => rw [z] at q; exact fun m' H' v E' S' rv => q m' H' E' S' v rv
    | ex c σ' ah' => rw [z] at q; exact fun m' H' σ2 E' S' _ => q m' H' E' S'
    | bk _ _ => rw [z] at q; exact False.elim q
    | ct _ _ => rw [z] at q; exact False.elim q
    | bad => rw [z] at q; exact q
end
/-! ### the law's end -/
def spLaw (K : PySem.W.Frag) : Sp := fun vs H Q _ => ∃ (a : Addr) (ns : List Int), vs = [.ref a] ∧ SqL K H a (ns.map V.int) ∧ ns.length ≤ 63 ∧ ∀ H', Q (.bl true) H'
/-- the law's own run over the store gives True -/
def LawOk (F : DF) : Prop := ∀ ns : List Int, ns.length ≤ 63 → ∃ ah, F [.s ns] [] = .ok (.p (.bool true)) ah
theorem law_end {P : Program} {w : World} {K : PySem.W.Frag} {mg : Str → Option Value} {base : Heap} {k : Nat} {f : Addr} {fd : FuncData} {x : Str} {ct ft : Nat → Addr} {F : DF} (h : ∀ sa, DFn ⟨⟨P, w⟩, K, ct, ft, sa, []⟩ mg base k f fd [x] F) (hl : LawOk F) : FnOk P w K mg base (L2.CX P w) k f fd [x] (spLaw K) := by
  refine ⟨fun vs H Q E hh => ?_, fun A outer s H args us vs Q E hr he hb hv hh => ?_⟩
  · obtain ⟨a, ns, rfl, _⟩ := hh
    rfl
  · obtain ⟨a, ns, rfl, hS, hn, q⟩ := hh
    obtain ⟨ah, e⟩ := hl ns hn
    refine ((h a).ok []).run A outer s H args us [.ref a] Q E hr he hb hv ⟨[], [], [.s ns], ⟨rfl, List.nodup_nil, (fun i a e => nomatch (show (none : Option Addr) = some a from e)), (fun a ha => nomatch (show a ∈ ([] : List Addr) from ha)), (fun i a o e => nomatch (show (none : Option Addr) = some a from e))⟩, .cons ⟨rfl, ?_⟩ .nil, rfl, ?_⟩
    · rcases hS with hS | hS
      · refine .inl ⟨?_, hS⟩
        rintro (⟨i, h1, _⟩ | h1)
        · simp at h1
        · cases h1
      · exact .inr hS
    · rw [e]
      intro m' H' E' S' v r
      cases r
      exact q H'
theorem cx_end {P : Program} {w : World} {H : Hp} {s : Shared} {e : Value} {s' : Shared} (h : L2.CX P w [] H s (fun _ _ _ => False) e s') : False := by
  obtain ⟨_, _, _, _, _, _, _, _, _, _, _, _, z⟩ := h
  exact z.elim
end DL

set_option Elab.async false
set_option linter.all false
set_option maxRecDepth 100000
/-! DLj: products; methods of lists and dicts. -/
namespace PySem.AutoSeq1
theorem my_extend_tuple (l : Addr) (items : Array Value) (n : Nat) (b : Addr) (items2 : Array Value) (n2 : Nat) (dd : Option Addr) (sl : Array (Option Value)) (hs0 : ¬(!items.isEmpty && Builtin.List.listTooLong (items.size + items2.size)) = true) (hs1 : items.size ≤ sizeLine) (hs2 : items.size + items2.size ≤ sizeLine + 1) :
    Meets (Builtin.«list.extend» ⟨[.ref l, .ref b], []⟩) (fun _ R s => s.heap.get? l = some { cls := .type "list", dict := none, data := .seq items n, slots := #[] } ∧ s.heap.get? b = some { cls := .type "tuple", dict := dd, data := .seq items2 n2, slots := sl } ∧ R (.ok (.ret Value.none)) { s with heap := s.heap.update l (Obj.mapSeq fun x => x ++ items2), toks := s.toks }) :=
  .of_wp fun prog w A R s h => by
    obtain ⟨hp, g, d, tk, os⟩ := s
    obtain ⟨hl, hb, h⟩ := h
    have f1 := idx_int
    have f2 := sub_tuple_tuple
    have f3 := sub_list_list
    have f4 := sub_tuple_list
    have f5 := sub_list_tuple
    have hz' : (items ++ items2).size ≤ sizeLine + 1 := by rw [Array.size_append]; exact hs2
    wp_walk using (wpAny_updateSeq hl rfl (hz := hs1) (_hz' := hz')), wpAny_loadPart' hl, wpAny_loadPart' hb
    exact ⟨_, rfl, h⟩
end PySem.AutoSeq1

namespace DL
open PySem PySem.Spec PyProof.Rows L2
section
variable {X : Cx} {T : Tb} {W : WX} {pos p apos : Pos} {e o : Expr} {es : List Expr} {fe fo : EF} {fa : AF}
/-! ### products -/
def gMul : G2 := fun d e ah => match d, e with
  | .p (.int i), .p (.int j) => if (smallB i || smallB j) = true then .ok (.p (.int (i * j))) ah else .bad
  | _, _ => .bad
theorem od_mul (hT : TX X T) : OpD X T W (binaryOp .Mult) gMul := by
  refine ⟨fun pins s σ H x y v u Q m ah d e I rx ry S r1 r2 q => ?_⟩
  unfold gMul at q
  split at q
  · exact od_mulI.run pins s σ H x y v u Q m ah _ _ I rx ry S r1 r2 q
  · exact False.elim q

/-! ### methods -/
/-- ty: what the receiver must be -/
def fMt (ty : AH → D → Bool) (g : D → DF) (fo : EF) (fa : AF) : EF := fun σ ah => (fo σ ah).bind fun d ah1 => if ty ah1 d = true then (fa σ ah1).bind fun ds ah2 => g d ds ah2 else .bad
def fMt0 (ty : AH → D → Bool) (g : D → AH → R D) (fo : EF) : EF := fun σ ah => (fo σ ah).bind fun d ah1 => if ty ah1 d = true then g d ah1 else .bad
/-- a mutable list -/
def isL (ah : AH) (d : D) : Bool := match d with
  | .r i => match ah[i]? with
    | some (.lst _) => true
    | _ => false
  | _ => false
/-- a dict -/
def isD (ah : AH) (d : D) : Bool := (dctOf ah d).isSome
def isS (_ : AH) (d : D) : Bool := match d with
  | .p (.str _) => true
  | _ => false
/-- of that type, in the machine's words -/
def TyD (X : Cx) (T : Tb) (ty : AH → D → Bool) (Ty : String) : Prop := ∀ (pins : List (Addr × Obj)) (s : Shared) (σ : L2.St) (H : Hp) (m : List Addr) (ah : AH) (d : D) (x : V) (v : Value), Inv X pins σ H s → Sim T m ah H → RD T m ah H x d → RelV x v → ty ah d = true →
  s.TypeIs v Ty ∧ ∀ a, v = .ref a → ∃ ob, s.heap.get? a = some ob ∧ ob.dict = none
theorem ty_list : TyD X T isL "list" := by
  intro pins s σ H m ah d x v I S r rx h
  unfold isL at h
  split at h
  · rename_i i
    split at h
    · rename_i ds e
      obtain ⟨a, h1, rfl⟩ := r
      obtain ⟨vs, g1, _⟩ := S.at_ i a _ h1 e
      exact tyV_is I rx (.inl ⟨rfl, _, SqL.of g1⟩)
    · cases h
  · cases h
theorem ty_dict : TyD X T isD "dict" := by
  intro pins s σ H m ah d x v I S r rx h
  unfold isD at h
  obtain ⟨kvs, e⟩ := Option.isSome_iff_exists.mp h
  obtain ⟨a, xs, rfl, h1, _⟩ := dct_raw S r e
  obtain ⟨ob, es, ep, g1, g2, _⟩ := h1.obj I
  cases rx
  refine ⟨h1.typeIs I, fun b z => ?_⟩
  cases z
  exact ⟨ob, g1, g2.2.1⟩
theorem ty_str : TyD X T isS "str" := by
  intro pins s σ H m ah d x v I S r rx h
  unfold isS at h
  split at h
  · cases r
    exact tyV_is I rx rfl
  · cases h
/-- a method by values -/
structure MtD (X : Cx) (T : Tb) (W : WX) (id : String) (g : D → DF) : Prop where
  run : ∀ (pins : List (Addr × Obj)) (s : Shared) (σ σ0 : L2.St) (H : Hp) (x : V) (xs : List V) (v : Value) (us : List Value) (Q : VK) (m : List Addr) (ah : AH) (d : D) (ds : List D), Inv X pins σ H s → RelV x v → Vals xs us → Sim T m ah H → RD T m ah H x d → Paired (RD T m ah H) xs ds → OkV T W σ0 m ah H (g d ds ah) Q →
    wpAny (model X.prog X.w) X.A (call (.builtin id) (v :: us)) (EP X pins σ Q) X.xe s
theorem de_mt {ty : AH → D → Bool} {Ty id : String} {name : Str} {g : D → DF} (ht : TyD X T ty Ty) (pa : PlainAttrs Ty) (slot : Slot Ty name id) (hty : typeOf (.builtin id) = pure (.type "method_descriptor")) (hm : MtD X T W id g) (ho : DE X T W o fo) (ha : DA X T W (e :: es) fa)
    (hbase : attributeBase o name X.env (eval o X.env) = eval o X.env := by rfl)
    (hfew : ((backTo pos (starEach (e :: es) X.env)).all (fun x => !x.1) && (backToKw pos (keywordEach [] X.env)).all (fun x => x.1.isSome)
      && decide ((e :: es).length + ([] : List Keyword).length + (if ([] : List Keyword).isEmpty then 0 else 1) < 30)) = true := by rfl)
    (hline : (apos.endLine == pos.line) = true := by rfl) (hs : starEach (e :: es) X.env = (false, eval e X.env) :: starEach es X.env := by rfl) (hplain : (backTo pos (starEach es X.env)).any (·.1) = false := by rfl) :
    DE X T W (.Call (.Attribute o name apos) (e :: es) [] pos) (fMt ty g fo fa) := by
  refine ⟨⟨fun pins s σ H Q I h => ?_⟩⟩
  have t : tD T W fo σ H fun x H1 => ∃ m1 ah1 d, Sim T m1 ah1 H1 ∧ RD T m1 ah1 H1 x d ∧ ty ah1 d = true ∧ tA T W fa σ H1 fun xs H2 => ∃ m ah d ds, Sim T m ah H2 ∧ RD T m ah H2 x d ∧ Paired (RD T m ah H2) xs ds ∧ OkV T W σ m ah H2 (g d ds ah) Q := by
    obtain ⟨m, ah, σd, S, En, h⟩ := h
    refine ⟨m, ah, σd, S, En, (Ok.bind S.len h).mono fun m1 ah1 H1 d E1 S1 h1 x r => ?_⟩
    split at h1
    · rename_i c
      refine ⟨m1, ah1, d, S1, r, c, m1, ah1, σd, S1, En.ext E1 S.len, (Ok.bind S1.len h1).mono fun m2 ah2 H2 ds E2 S2 h2 xs rs => ?_⟩
      exact ⟨m2, ah2, d, ds, S2, RD.ext E2 S1.len r, rs, h2⟩
    · exact False.elim h1
  refine wpAny_Call_method_late hbase hfew hline rfl (thn (ho.h.run pins s σ H _ I t) fun v s1 ⟨x, H1, I1, r1, m1, ah1, d1, S1, g1, g2, q1⟩ => ?_)
  obtain ⟨h1, h2⟩ := ht pins s1 σ H1 m1 ah1 d1 x v I1 S1 g1 r1 g2
  refine ⟨Ty, id, pa, slot, hty, h1, h2, ?_⟩
  have hA := ha.h.run pos pins s1 σ H1 _ I1 q1
  rw [hs] at hA ⊢
  refine Calls.callWith_builtin (by show (false || (backTo pos (starEach es X.env)).any (·.1)) = false; rw [hplain] <;> rfl) (Calls.evalArgs_plain ?_)
  exact thn hA fun us s2 ⟨vs, H2, I2, r2, m, ah, d, ds, S2, k1, k2, q2⟩ => hm.run pins s2 σ σ H2 x vs v us Q m ah d ds I2 r1 r2 S2 k1 k2 q2
theorem de_mt0 {ty : AH → D → Bool} {Ty id : String} {name : Str} {g : D → DF} {g0 : D → AH → R D} (hg : ∀ d ah, g0 d ah = g d [] ah) (ht : TyD X T ty Ty) (pa : PlainAttrs Ty) (slot : Slot Ty name id) (hty : typeOf (.builtin id) = pure (.type "method_descriptor")) (hm : MtD X T W id g) (ho : DE X T W o fo)
    (hbase : attributeBase o name X.env (eval o X.env) = eval o X.env := by rfl) (hline : (apos.endLine == pos.line) = true := by rfl) : DE X T W (.Call (.Attribute o name apos) [] [] pos) (fMt0 ty g0 fo) := by
  refine ⟨⟨fun pins s σ H Q I h => ?_⟩⟩
  have t : tD T W fo σ H fun x H1 => ∃ m1 ah1 d, Sim T m1 ah1 H1 ∧ RD T m1 ah1 H1 x d ∧ ty ah1 d = true ∧ OkV T W σ m1 ah1 H1 (g d [] ah1) Q := by
    obtain ⟨m, ah, σd, S, En, h⟩ := h
    refine ⟨m, ah, σd, S, En, (Ok.bind S.len h).mono fun m1 ah1 H1 d E1 S1 h1 x r => ?_⟩
    split at h1
    · rename_i c
      rw [hg] at h1
      exact ⟨m1, ah1, d, S1, r, c, h1⟩
    · exact False.elim h1
  refine wpAny_Call_method0_late hbase hline (thn (ho.h.run pins s σ H _ I t) fun v s1 ⟨x, H1, I1, r1, m1, ah1, d1, S1, g1, g2, q1⟩ => ?_)
  obtain ⟨h1, h2⟩ := ht pins s1 σ H1 m1 ah1 d1 x v I1 S1 g1 r1 g2
  exact ⟨Ty, id, pa, slot, hty, h1, h2, Calls.callWith_builtin rfl (PySem.evalArgs_none (hm.run pins s1 σ σ H1 x [] v [] Q m1 ah1 d1 [] I1 r1 .nil S1 g1 .nil q1))⟩
/-- a list of the store is changed -/
theorem OkV.setL {m : List Addr} {ah : AH} {H : Hp} {σ0 : L2.St} {Q : VK} {i : Nat} {a : Addr} {ds ds' : List D} {ws : List V} {d : D} {w : V} (S : Sim T m ah H) (h : OkV T W σ0 m ah H (.ok d (ah.set i (.lst ds'))) Q) (h1 : m[i]? = some a) (h2 : ah[i]? = some (.lst ds)) (r : Paired (RD T m ah H) ws ds') (rd : RD T m ah H w d) : Q w (upd H a (.lst ws)) := by
  have E := Ext.write (o := HO.lst ws) (y := .lst ds') S h1 h2 (by intro z; cases z)
  exact h m _ E (S.write h1 h2 (by intro z; cases z) ⟨ws, upd_same, Paired.mapR r fun _ _ z => RD.ext E S.len z⟩) w (RD.ext E S.len rd)
def gAppend : D → DF := fun d ds ah => match d, ds with
  | .r i, [x] => match ah[i]? with
    | some (.lst l) => if l.length < 16777216 then .ok (.p .none) (ah.set i (.lst (l ++ [x]))) else .bad
    | _ => .bad
  | _, _ => .bad
theorem md_append : MtD X T W "list.append" gAppend := by
  refine ⟨fun pins s σ σ0 H x xs v us Q m ah d ds I rx r S rd rs q => ?_⟩
  unfold gAppend at q
  split at q
  · rename_i i y
    split at q
    · rename_i l e
      split at q
      · rename_i c
        obtain ⟨a, h1, rfl⟩ := rd
        obtain ⟨vs, g1, g2⟩ := S.at_ i a _ h1 e
        cases rs with
        | cons ry t =>
          cases t
          refine mt_append pins s σ H _ _ v us Q I rx r ⟨a, vs, _, rfl, rfl, g1, by rw [paired_len g2, sizeLine_eq]; exact c, ?_⟩
          exact OkV.setL S q h1 e (Paired.snoc g2 ry) .non
      · exact False.elim q
    · exact False.elim q
  · exact False.elim q
theorem de_append (ho : DE X T W o fo) (ha : DA X T W (e :: es) fa)
    (hbase : attributeBase o "append" X.env (eval o X.env) = eval o X.env := by rfl)
    (hfew : ((backTo pos (starEach (e :: es) X.env)).all (fun x => !x.1) && (backToKw pos (keywordEach [] X.env)).all (fun x => x.1.isSome)
      && decide ((e :: es).length + ([] : List Keyword).length + (if ([] : List Keyword).isEmpty then 0 else 1) < 30)) = true := by rfl)
    (hline : (apos.endLine == pos.line) = true := by rfl) (hs : starEach (e :: es) X.env = (false, eval e X.env) :: starEach es X.env := by rfl) (hplain : (backTo pos (starEach es X.env)).any (·.1) = false := by rfl) :
    DE X T W (.Call (.Attribute o "append" apos) (e :: es) [] pos) (fMt isL gAppend fo fa) := de_mt ty_list F.plainAttrs_list F.slot_list_append F.type_list_append md_append ho ha hbase hfew hline hs hplain
/-- extend, by a pure list or tuple -/
def gExtend : D → DF := fun d ds ah => match d, ds with
  | .r i, [.p (.list ys)] => match ah[i]? with
    | some (.lst l) => if l.length + ys.length ≤ 16777216 then .ok (.p .none) (ah.set i (.lst (l ++ ys.map .p))) else .bad
    | _ => .bad
  | .r i, [.p (.tuple ys)] => match ah[i]? with
    | some (.lst l) => if l.length + ys.length ≤ 16777216 then .ok (.p .none) (ah.set i (.lst (l ++ ys.map .p))) else .bad
    | _ => .bad
  | _, _ => .bad
theorem paired_app {α β : Type} {F : α → β → Prop} : ∀ {a a' : List α} {b b' : List β}, Paired F a b → Paired F a' b' → Paired F (a ++ a') (b ++ b')
  | _, _, _, _, .nil, h => h
  | _, _, _, _, .cons h t, k => .cons h (paired_app t k)
theorem extend_tup {pins : List (Addr × Obj)} {s : Shared} {σ : L2.St} {H : Hp} {l b : Addr} {xs zs : List V} {Q : VK} (I : Inv X pins σ H s) (hH : H l = some (.lst xs)) (hB : H b = some (.tup zs)) (hz : xs.length + zs.length ≤ sizeLine) (q : Q .non (upd H l (.lst (xs ++ zs)))) :
    wpAny (model X.prog X.w) X.A (call (.builtin "list.extend") [.ref l, .ref b]) (EP X pins σ Q) X.xe s := by
  obtain ⟨z, its, n, r, hl, e⟩ := I.lstM hH
  obtain ⟨its2, r2, ⟨ob, e2, c2, n2, d2⟩, hl2⟩ := I.tuple (SqT.of hB)
  have hl3 := r2.length
  have hsz : its.toArray.size + its2.toArray.size ≤ sizeLine := by rw [List.size_toArray, List.size_toArray]; omega
  have hlong : ¬ (!its.toArray.isEmpty && Builtin.List.listTooLong (its.toArray.size + its2.toArray.size)) = true := by
    rw [notLongL hsz, Bool.and_false]
    exact Bool.false_ne_true
  obtain ⟨oc, od, odt, osl⟩ := ob
  cases c2
  cases d2
  refine call_meets F.slot_list_extend ⟨_, e, rfl⟩ F.entry_list_extend (F.args_list_extend_2 _ _)
    (AutoSeq1.my_extend_tuple l its.toArray n b its2.toArray n2 od osl hlong (by rw [List.size_toArray]; omega) (by omega)) ⟨e, e2, ?_⟩
  refine ⟨.non, _, I.lset (its' := its ++ its2) hH e (by simp) (r.append r2) ?_, rfl, q⟩
  rw [List.length_append]
  omega
theorem md_extend : MtD X T W "list.extend" gExtend := by
  refine ⟨fun pins s σ σ0 H x xs v us Q m ah d ds I rx r S rd rs q => ?_⟩
  unfold gExtend at q
  split at q
  · rename_i i ys
    split at q
    · rename_i l e
      split at q
      · rename_i c
        obtain ⟨a, h1, rfl⟩ := rd
        obtain ⟨vs, g1, g2⟩ := S.at_ i a _ h1 e
        cases rs with
        | cons ry t =>
          cases t
          cases ry with
          | lst n g p =>
            refine mt_extend pins s σ H _ _ v us Q I rx r ⟨a, _, vs, _, rfl, rfl, g1, g, by rw [paired_len g2, p.len, sizeLine_eq]; exact c, ?_⟩
            exact OkV.setL S q h1 e (paired_app g2 (pd_pures p)) .non
      · exact False.elim q
    · exact False.elim q
  · rename_i i ys
    split at q
    · rename_i l e
      split at q
      · rename_i c
        obtain ⟨a, h1, rfl⟩ := rd
        obtain ⟨vs, g1, g2⟩ := S.at_ i a _ h1 e
        cases rs with
        | cons ry t =>
          cases t
          cases ry with
          | tup n g p =>
            cases rx
            obtain ⟨u, rfl, ru⟩ := vals1 r
            cases ru
            exact extend_tup I g1 g (by rw [paired_len g2, p.len, sizeLine_eq]; exact c) (OkV.setL S q h1 e (paired_app g2 (pd_pures p)) .non)
      · exact False.elim q
    · exact False.elim q
  · exact False.elim q
theorem de_extend (ho : DE X T W o fo) (ha : DA X T W (e :: es) fa)
    (hbase : attributeBase o "extend" X.env (eval o X.env) = eval o X.env := by rfl)
    (hfew : ((backTo pos (starEach (e :: es) X.env)).all (fun x => !x.1) && (backToKw pos (keywordEach [] X.env)).all (fun x => x.1.isSome)
      && decide ((e :: es).length + ([] : List Keyword).length + (if ([] : List Keyword).isEmpty then 0 else 1) < 30)) = true := by rfl)
    (hline : (apos.endLine == pos.line) = true := by rfl) (hs : starEach (e :: es) X.env = (false, eval e X.env) :: starEach es X.env := by rfl) (hplain : (backTo pos (starEach es X.env)).any (·.1) = false := by rfl) :
    DE X T W (.Call (.Attribute o "extend" apos) (e :: es) [] pos) (fMt isL gExtend fo fa) := de_mt ty_list F.plainAttrs_list F.slot_list_extend F.type_list_extend md_extend ho ha hbase hfew hline hs hplain
/-- pop() -/
def gPop (d : D) (ah : AH) : R D := match d with
  | .r i => match ah[i]? with
    | some (.lst l) => match l.getLast? with
      | some x => .ok x (ah.set i (.lst l.dropLast))
      | none => .bad
    | _ => .bad
  | _ => .bad
theorem paired_dropLast {α β : Type} {F : α → β → Prop} : ∀ {a : List α} {b : List β}, Paired F a b → Paired F a.dropLast b.dropLast
  | _, _, .nil => .nil
  | _, _, .cons h .nil => .nil
  | _, _, .cons h (.cons h2 t) => .cons h (paired_dropLast (.cons h2 t))
theorem md_pop : MtD X T W "list.pop" (fun d ds ah => match ds with
  | [] => gPop d ah
  | _ => .bad) := by
  refine ⟨fun pins s σ σ0 H x xs v us Q m ah d ds I rx r S rd rs q => ?_⟩
  split at q
  · unfold gPop at q
    split at q
    · rename_i i
      split at q
      · rename_i l e
        split at q
        · rename_i y e2
          obtain ⟨a, h1, rfl⟩ := rd
          obtain ⟨vs, g1, g2⟩ := S.at_ i a _ h1 e
          cases rs
          rw [List.getLast?_eq_getElem?] at e2
          obtain ⟨w, hw, rw'⟩ := paired_get g2 e2
          refine mt_pop pins s σ H _ _ v us Q I rx r ⟨a, vs, w, rfl, rfl, g1, by rw [paired_len g2]; exact hw, ?_⟩
          exact OkV.setL S q h1 e (paired_dropLast g2) rw'
        · exact False.elim q
      · exact False.elim q
    · exact False.elim q
  · exact False.elim q
theorem de_pop (ho : DE X T W o fo) (hbase : attributeBase o "pop" X.env (eval o X.env) = eval o X.env := by rfl) (hline : (apos.endLine == pos.line) = true := by rfl) : DE X T W (.Call (.Attribute o "pop" apos) [] [] pos) (fMt0 isL gPop fo) :=
  de_mt0 (fun _ _ => rfl) ty_list F.plainAttrs_list F.slot_list_pop F.type_list_pop md_pop ho hbase hline
/-- pop(0) -/
def gPopAt : D → DF := fun d ds ah => match d, ds with
  | .r i, [.p (.int 0)] => match ah[i]? with
    | some (.lst (x :: l)) => .ok x (ah.set i (.lst l))
    | _ => .bad
  | _, _ => .bad
theorem md_popAt : MtD X T W "list.pop" gPopAt := by
  refine ⟨fun pins s σ σ0 H x xs v us Q m ah d ds I rx r S rd rs q => ?_⟩
  unfold gPopAt at q
  split at q
  · rename_i i
    split at q
    · rename_i y l e
      obtain ⟨a, h1, rfl⟩ := rd
      obtain ⟨vs, g1, g2⟩ := S.at_ i a _ h1 e
      cases rs with
      | cons ry t =>
        cases t
        cases ry
        cases g2 with
        | @cons w _ ws _ rw' g2 =>
          have hz : (w :: ws).length ≤ sizeLine := (I.hok a _ g1).1
          refine mt_popAt pins s σ H _ _ v us Q I rx r ⟨a, _, 0, 0, w, rfl, rfl, g1, by omega, by omega, ?_, rfl, ?_⟩
          · rw [List.length_cons]
            have : seqIndex? 0 (ws.length + 1) = some 0 := (ixN_seq (n := ws.length + 1) (i := 0) (j := 0) (by unfold ixN; rw [if_pos (by omega), if_pos (by omega)]; rfl)).1
            exact this
          · exact OkV.setL S q h1 e g2 rw'
    · exact False.elim q
  · exact False.elim q
theorem de_popAt (ho : DE X T W o fo) (ha : DA X T W (e :: es) fa)
    (hbase : attributeBase o "pop" X.env (eval o X.env) = eval o X.env := by rfl)
    (hfew : ((backTo pos (starEach (e :: es) X.env)).all (fun x => !x.1) && (backToKw pos (keywordEach [] X.env)).all (fun x => x.1.isSome)
      && decide ((e :: es).length + ([] : List Keyword).length + (if ([] : List Keyword).isEmpty then 0 else 1) < 30)) = true := by rfl)
    (hline : (apos.endLine == pos.line) = true := by rfl) (hs : starEach (e :: es) X.env = (false, eval e X.env) :: starEach es X.env := by rfl) (hplain : (backTo pos (starEach es X.env)).any (·.1) = false := by rfl) :
    DE X T W (.Call (.Attribute o "pop" apos) (e :: es) [] pos) (fMt isL gPopAt fo fa) := de_mt ty_list F.plainAttrs_list F.slot_list_pop F.type_list_pop md_popAt ho ha hbase hfew hline hs hplain
/-- reverse(), clear() -/
def gReverse (d : D) (ah : AH) : R D := match d with
  | .r i => match ah[i]? with
    | some (.lst l) => .ok (.p .none) (ah.set i (.lst l.reverse))
    | _ => .bad
  | _ => .bad
def gClear (d : D) (ah : AH) : R D := match d with
  | .r i => match ah[i]? with
    | some (.lst _) => .ok (.p .none) (ah.set i (.lst []))
    | _ => .bad
  | _ => .bad
theorem paired_rev {α β : Type} {F : α → β → Prop} : ∀ {a : List α} {b : List β}, Paired F a b → Paired F a.reverse b.reverse
  | _, _, .nil => .nil
  | _, _, .cons h t => by rw [List.reverse_cons, List.reverse_cons]; exact Paired.snoc (paired_rev t) h
theorem md_reverse : MtD X T W "list.reverse" (fun d ds ah => match ds with
  | [] => gReverse d ah
  | _ => .bad) := by
  refine ⟨fun pins s σ σ0 H x xs v us Q m ah d ds I rx r S rd rs q => ?_⟩
  split at q
  · unfold gReverse at q
    split at q
    · rename_i i
      split at q
      · rename_i l e
        obtain ⟨a, h1, rfl⟩ := rd
        obtain ⟨vs, g1, g2⟩ := S.at_ i a _ h1 e
        cases rs
        exact mt_reverse pins s σ H _ _ v us Q I rx r ⟨a, vs, rfl, rfl, g1, OkV.setL S q h1 e (paired_rev g2) .non⟩
      · exact False.elim q
    · exact False.elim q
  · exact False.elim q
theorem md_clear : MtD X T W "list.clear" (fun d ds ah => match ds with
  | [] => gClear d ah
  | _ => .bad) := by
  refine ⟨fun pins s σ σ0 H x xs v us Q m ah d ds I rx r S rd rs q => ?_⟩
  split at q
  · unfold gClear at q
    split at q
    · rename_i i
      split at q
      · rename_i l e
        obtain ⟨a, h1, rfl⟩ := rd
        obtain ⟨vs, g1, g2⟩ := S.at_ i a _ h1 e
        cases rs
        exact mt_clear pins s σ H _ _ v us Q I rx r ⟨a, vs, rfl, rfl, g1, OkV.setL S q h1 e .nil .non⟩
      · exact False.elim q
    · exact False.elim q
  · exact False.elim q
theorem de_reverse (ho : DE X T W o fo) (hbase : attributeBase o "reverse" X.env (eval o X.env) = eval o X.env := by rfl) (hline : (apos.endLine == pos.line) = true := by rfl) : DE X T W (.Call (.Attribute o "reverse" apos) [] [] pos) (fMt0 isL gReverse fo) :=
  de_mt0 (fun _ _ => rfl) ty_list F.plainAttrs_list F.slot_list_reverse F.type_list_reverse md_reverse ho hbase hline
theorem de_clear (ho : DE X T W o fo) (hbase : attributeBase o "clear" X.env (eval o X.env) = eval o X.env := by rfl) (hline : (apos.endLine == pos.line) = true := by rfl) : DE X T W (.Call (.Attribute o "clear" apos) [] [] pos) (fMt0 isL gClear fo) :=
  de_mt0 (fun _ _ => rfl) ty_list F.plainAttrs_list F.slot_list_clear F.type_list_clear md_clear ho hbase hline
end
end DL

set_option Elab.async false
set_option linter.all false
set_option maxRecDepth 100000
/-! DLk: isinstance, sorted by its name. -/
namespace DL
open PySem PySem.Spec PyProof.Rows L2
section
variable {X : Cx} {T : Tb} {W : WX} {a b c e : Expr} {fa fb fc f : EF} {pos p p2 : Pos}
def gSortedL : DF := fun ds ah => match ds with
  | [d] => match dataOf ah d with
    | some (.list xs) => if sortOk xs then .ok (.p (.list (sortD xs))) ah else .bad
    | _ => .bad
  | _ => .bad
theorem cd_sortedL (hT : TX X T) : CallD X T W (.builtin "sorted") gSortedL := cd_sorted hT
def tyD (ah : AH) : D → Option String
  | .p .none => some "NoneType"
  | .p (.bool _) => some "bool"
  | .p (.int _) => some "int"
  | .p (.str _) => some "str"
  | .p (.list _) => some "list"
  | .p (.tuple _) => some "tuple"
  | .p (.dict _) => none
  | .r i => match ah[i]? with
    | some (.lst _) => some "list"
    | _ => none
  | .s _ => some "list"
  | .f _ => none
theorem tyD_ok (hT : TX X T) {m : List Addr} {ah : AH} {H : Hp} (S : Sim T m ah H) {v : V} {d : D} {t : String} (r : RD T m ah H v d) (e : tyD ah d = some t) : TyX X.K H v (.type t) := by
  cases d with
  | p x =>
    cases x with
    | none => cases e; cases r; exact .base .non
    | bool b => cases e; cases r; exact .base (.bl b)
    | int i => cases e; cases r; exact .base (.int i)
    | str z => cases e; cases r; exact .base (.str z)
    | list xs =>
      cases e
      cases r with
      | lst n h a => exact .base (.lst h)
    | tuple xs =>
      cases e
      cases r with
      | tup n h a => exact .base (.tup h)
    | dict _ => cases e
  | r i =>
    obtain ⟨b, h1, rfl⟩ := r
    unfold tyD at e
    cases q : ah[i]? with
    | none => simp only [q] at e; cases e
    | some o =>
      simp only [q] at e
      cases o with
      | dead => cases e
      | dct _ => cases e
      | lst l =>
        cases e
        obtain ⟨vs, g1, g2⟩ := S.at_ i b _ h1 q
        exact .base (.lst g1)
  | f i => cases e
  | s ns =>
    cases e
    obtain ⟨rfl, h⟩ := r
    rcases h with ⟨_, h⟩ | ⟨o, its, n, h1, h2, _⟩
    · rcases h with h | ⟨ob, h⟩
      · exact .base (.lst h)
      · exact .base (.frz h)
    · rw [hT.K] at h1
      exact .kList h1 h2
def fIsi (t : String) (f : EF) : EF := fun σ ah => (f σ ah).bind fun d ah1 => match tyD ah1 d with
  | some u => match kitB u t with
    | some b => .ok (.p (.bool b)) ah1
    | none => .bad
  | none => .bad
theorem de_isi (hT : TX X T) {x : Str} {t : String} (g1 : Gl X "isinstance") (m1 : X.mg "isinstance" = none) (g2 : Gl X x) (m2 : X.mg x = none) (hv : bootBuiltins x = some (.type t)) (ha : DE X T W a fa) (hn : x ≠ "__name__" := by decide) (hd : (x == ("__debug__" : Str)) = false := by decide)
    (s1 : starEach [a, .Name x p2] X.env = (false, eval a X.env) :: starEach [.Name x p2] X.env := by rfl) (hpl : (backTo pos (starEach [.Name x p2] X.env)).any (·.1) = false := by rfl) : DE X T W (.Call (.Name "isinstance" p) [a, .Name x p2] [] pos) (fIsi t fa) := by
  refine ⟨(pe_callB call_isi g1 m1 PyProof.Rows.boot_isinstance (pa_cons ha.h (pa_cons (pe_bltn (v := .ty t) g2 m2 hv rfl hn hd) pa_nil) s1) (by decide) (by decide) s1 hpl).imp fun σ H Q q => ?_⟩
  obtain ⟨m, ah, σd, S, En, q⟩ := q
  refine ⟨m, ah, σd, S, En, (Ok.bind S.len q).mono fun m1 ah1 H1 d E1 S1 h1 v r => ?_⟩
  split at h1
  · rename_i u e1
    split at h1
    · rename_i b e2
      exact ⟨v, .ty t, .type u, .type t, b, rfl, .ty t, tyD_ok hT S1 r e1, kit_ty e2, OkV.bl S1 h1⟩
    · exact False.elim h1
  · exact False.elim h1
end
end DL

set_option Elab.async false
set_option linter.all false
set_option maxRecDepth 100000
/-! DLm: own classes of exceptions; raise; try. -/
namespace DL
open PySem PySem.Spec PyProof.Rows L2
/-- an own class of exceptions, as the written part tells it -/
structure Cls (T0 : Tb) (mg : Str → Option Value) (n : Nat) (x : Str) : Prop where
  g : mg x = some (.ref (T0.ct n))
  kp : PySem.W.keepIn T0.K (.ref (T0.ct n)) = true
  ex : PySem.W.excIn T0.K (T0.ct n) [.type "ValueError", .type "Exception", .type "BaseException", .type "object"] "ValueError.__new__" = true
  ty : PySem.W.typeIn T0.K (.ref (T0.ct n)) = some (.type "type")
  ec : ExcC T0.K (T0.ct n)
section
variable {X : Cx} {T T0 : Tb} {W : WX} {k : Nat} {pos p p2 pos' np p1 : Pos} {x : Str}
theorem CxO.K (c : CxO X T0 T W k) : T0.K = X.K := by
  obtain ⟨G, h⟩ := c.g
  have := c.t.K
  rw [h] at this
  exact this
theorem CxO.ct (c : CxO X T0 T W k) : T.ct = T0.ct := by
  obtain ⟨G, h⟩ := c.g
  rw [h]
theorem kit_sub {K : PySem.W.Frag} {C : Addr} {t : String} {b : Bool} (h : PySem.W.subIn K (.ref C) (.type t) = some b) (hm : PySem.W.kitMeta t = true) : PySem.W.kitOne K (.ref C) (.type t) = some b := by
  show (if (Value.ref C == Value.type t) = true then some true else if PySem.W.kitMeta t = true then PySem.W.subIn K (.ref C) (.type t) else none) = some b
  rw [if_neg (by rw [show (Value.ref C == Value.type t) = false from rfl]; exact Bool.false_ne_true), if_pos hm]
  exact h
def sRaise (n : Nat) : SF := fun σ ah => .ex n σ ah
theorem ds_raise {n j : Nat} {m : Str} (c : CxO X T0 T W k) (C : Cls T0 X.mg n x) (hg : Gl X x) (hdb : (x == ("__debug__" : Str)) = false := by decide) : DSt X T W (.Raise (some (.Call (.Name x p) [.Constant (.str m) j p2] [] pos)) none pos') (sRaise n) := by
  have hK := c.K
  refine ⟨(ps_raise c.t.calm c.tk (pmk_own PySem.F.excBase_ValueError (C := T0.ct n) (by rw [← hK]; exact C.ex) C.g (by rw [← hK]; exact C.kp) (raises_own (by rw [← hK]; exact C.ec.hs) (by rw [← hK]; exact C.ty)) hg hdb)).imp fun Dn σ H q => ?_⟩
  obtain ⟨m1, ah, σd, S, En, q⟩ := q
  have := q m1 H σ Ext.refl S En
  rw [c.ct] at this
  exact this
/-- what a try's outcome is, where the suite does but return -/
def tryO (P : Nat → Option Bool) (R : Nat → Option Bool) (o : O) : O := match o with
  | .ex c σ ah => match P c with
    | some true => match R c with
      | some b => .rt (.p (.bool b)) ah
      | none => .bad
    | some false => .ex c σ ah
    | none => .bad
  | o => o
def sTryT (P R : Nat → Option Bool) (f : SF) : SF := fun σ ah => tryO P R (f σ ah)
theorem tr_cx (c : CxO X T0 T W k) {pn : List (Addr × Obj)} {xe : Value → Shared → Prop} {W' : WX} (tk : Takes (X.tr pn xe) W') : CxO (X.tr pn xe) T0 T W' k :=
  ⟨⟨c.t.P, c.t.w, c.t.K, c.t.calm, c.t.un⟩, c.g, tk, c.hr⟩
/-- try: .. except C: return True -/
theorem ds_tryOnly {cv : Value} {P : Nat → Option Bool} {body : List Stmt} {fb : SF} {b : Bool} {j : Nat} (c : CxO X T0 T W k) (hs : X.stack = X.env :: X.outer) (hf : X.env.frame = some X.env.locals) (hc : Names X x cv) (hP : ∀ (n : Nat) (b : Bool), P n = some b → PySem.W.exmOne T0.K (.ref (T0.ct n)) cv = some b)
    (hb : ∀ (pn : List (Addr × Obj)) (xe : Value → Shared → Prop) (W' : WX), CxO (X.tr pn xe) T0 T W' k → DSs (X.tr pn xe) T W' body fb) :
    DSt X T W (.Try body [.ExceptHandler (some (.Name x np)) none [.Return (some (.Constant (.bool b) j p1)) p2] pos'] [] [] pos) (sTryT P (fun _ => some b) fb) := by
  refine ⟨(ps_try_only (tb := fun W' => tS T W' fb) (ts := fun _ _ _ D σ H => D.rt (.bl b) H) hs hf hc c.tk (fun W' pn xe tk _ => (hb pn xe W' (tr_cx c tk)).h) (fun a oe cls d pn _ _ => pss_one (ps_ret pe_bl))).imp fun Dn σ H q => ?_⟩
  obtain ⟨m1, ah, σd, S, En, q⟩ := q
  refine ⟨m1, ah, σd, S, En, ?_⟩
  have q' : Oo T W m1 ah H (tryO P (fun _ => some b) (fb σd ah)) Dn := q
  cases z : fb σd ah with
  | ex n σ' ah' =>
    rw [z] at q'
    unfold tryO at q'
    dsimp only at q'
    cases w : P n with
    | none => rw [w] at q'; exact False.elim q'
    | some b' =>
      rw [w] at q'
      intro m' H' σ2 E' S' En'
      refine ⟨b', ?_, ?_, ?_⟩
      · rw [← c.K, c.ct]; exact hP n b' w
      · rintro rfl a ha
        exact q' m' H' (.bl b) E' S' (.bl b)
      · rintro rfl
        exact q' m' H' σ2 E' S' En'
  | nx _ _ => rw [z] at q'; exact q'
  | rt _ _ => rw [z] at q'; exact q'
  | bk _ _ => rw [z] at q'; exact q'
  | ct _ _ => rw [z] at q'; exact q'
  | bad => rw [z] at q'; exact q'
/-- try: .. except C as e: return isinstance(e, B) -/
theorem ds_tryIs {cv : Value} {P R : Nat → Option Bool} {body : List Stmt} {fb : SF} {n y : Str} {t : String} {i : Nat} {q1 q2 q3 q4 : Pos} (c : CxO X T0 T W k) (hs : X.stack = X.env :: X.outer) (hf : X.env.frame = some X.env.locals) (hN : X.N.Nodup) (hi : X.N[i]? = some n) (hln : X.env.kindOf n = some .local) (hv : Vis X.env.scope n) (hc : Names X x cv)
    (hP : ∀ (n : Nat) (b : Bool), P n = some b → PySem.W.exmOne T0.K (.ref (T0.ct n)) cv = some b) (hR : ∀ (n : Nat) (b : Bool), R n = some b → ExcC T0.K (T0.ct n) ∧ PySem.W.kitOne T0.K (.ref (T0.ct n)) (.type t) = some b)
    (g1 : Gl X "isinstance") (m1 : X.mg "isinstance" = none) (g2 : Gl X y) (m2 : X.mg y = none) (hty : bootBuiltins y = some (.type t))
    (hb : ∀ (pn : List (Addr × Obj)) (xe : Value → Shared → Prop) (W' : WX), CxO (X.tr pn xe) T0 T W' k → DSs (X.tr pn xe) T W' body fb) (hyn : y ≠ "__name__" := by decide) (hyd : (y == ("__debug__" : Str)) = false := by decide) (hnd : (n == ("__debug__" : Str)) = false := by decide) (hncd : (n == ("__classdict__" : Str)) = false := by decide)
    (s1 : starEach [.Name n q1, .Name y q2] X.env = (false, eval (.Name n q1) X.env) :: starEach [.Name y q2] X.env := by rfl) (hpl : (backTo q3 (starEach [.Name y q2] X.env)).any (·.1) = false := by rfl) :
    DSt X T W (.Try body [.ExceptHandler (some (.Name x np)) (some n) [.Return (some (.Call (.Name "isinstance" q4) [.Name n q1, .Name y q2] [] q3)) p2] pos'] [] [] pos) (sTryT P R fb) := by
  have hK := c.K
  refine ⟨(ps_try_as (i := i) (tb := fun W' => tS T W' fb) (ts := fun a cls d D σ H => d = none ∧ (∃ σ0 : L2.St, σ = σ0.set i (some (.ref a))) ∧ ∃ (m : Nat) (b : Bool), cls = .ref (T0.ct m) ∧ R m = some b ∧ D.rt (.bl b) H) hs hf hN hi hln hc c.tk (fun W' pn xe tk _ => (hb pn xe W' (tr_cx c tk)).h) (fun a oe cls d pn hz hd => ⟨fun pins s σ H D I h => ?_⟩)).imp fun Dn σ H q => ?_⟩
  · obtain ⟨rfl, ⟨σ0, rfl⟩, m, b, rfl, hr, hD⟩ := h
    have hσ : (σ0.set i (some (V.ref a)))[i]? = some (some (.ref a)) := by
      have hl : (σ0.set i (some (V.ref a))).length = X.N.length := I.len
      rw [List.length_set] at hl
      have hil := (List.getElem?_eq_some_iff.mp hi).1
      exact List.getElem?_set_self (by omega)
    obtain ⟨ec, hk⟩ := hR m b hr
    rw [hK] at ec hk
    have hpe : PE (X.suite a ((a, oe) :: pn)) (.Call (.Name "isinstance" q4) [.Name n q1, .Name y q2] [] q3) _ :=
      pe_callB (X := X.suite a ((a, oe) :: pn)) (call_isE ec hz hd) g1 m1 PyProof.Rows.boot_isinstance (pa_cons (pe_var (i := i) hi hv hnd hncd) (pa_cons (pe_bltn (v := .ty t) g2 m2 hty rfl hyn hyd) pa_nil) s1) (by decide) (by decide) s1 hpl
    exact (pss_one (ps_ret hpe)).run pins s _ H D I ⟨.ref a, hσ, .ty t, .type t, b, rfl, fun u hu => hu, hk, hD⟩
  · obtain ⟨m1, ah, σd, S, En, q⟩ := q
    refine ⟨m1, ah, σd, S, En, ?_⟩
    have q' : Oo T W m1 ah H (tryO P R (fb σd ah)) Dn := q
    have hil : i < X.N.length := (List.getElem?_eq_some_iff.mp hi).1
    cases z : fb σd ah with
    | ex n σ' ah' =>
      rw [z] at q'
      unfold tryO at q'
      dsimp only at q'
      cases w : P n with
      | none => rw [w] at q'; exact False.elim q'
      | some b' =>
        rw [w] at q'
        intro m' H' σ2 E' S' En'
        refine ⟨b', ?_, ?_, ?_⟩
        · rw [← c.K, c.ct]; exact hP n b' w
        · rintro rfl a ha
          dsimp only at q'
          cases r : R n with
          | none => rw [r] at q'; exact False.elim q'
          | some b2 =>
            rw [r] at q'
            exact ⟨rfl, ⟨σ2, rfl⟩, n, b2, by rw [c.ct], r, q' m' H' (.bl b2) E' S' (.bl b2)⟩
        · rintro rfl
          exact q' m' H' σ2 E' S' En'
    | nx _ _ => rw [z] at q'; exact q'
    | rt _ _ => rw [z] at q'; exact q'
    | bk _ _ => rw [z] at q'; exact q'
    | ct _ _ => rw [z] at q'; exact q'
    | bad => rw [z] at q'; exact q'
end
end DL

set_option Elab.async false
set_option linter.all false
set_option maxRecDepth 100000
/-! DLn: tuple * 0, tuple * 1, list * n. -/
namespace DL
open PySem PySem.Spec PyProof.Rows L2
set_option maxHeartbeats 4000000 in
theorem tuple_mul1 (l : Addr) (items : Array Value) (n : Nat) (dd : Option Addr) (sl : Array (Option Value)) (u : Tok) :
    Meets (Builtin.«tuple.__mul__» ⟨[.ref l, .int 1 u], []⟩) (fun _ R s => s.heap.get? l = some { cls := .type "tuple", dict := dd, data := .seq items n, slots := sl } ∧ R (.ok (.ret (Value.ref l))) s) :=
  .of_wp fun prog w A R s h => by
    obtain ⟨hp, g, d, tk, os⟩ := s
    obtain ⟨hl, h⟩ := h
    have f1 := AutoSeq1.idx_int
    have c1 : (items.isEmpty || (1 : Int) == 1) = true := by rw [show ((1 : Int) == 1) = true from rfl, Bool.or_true]
    wp_walk using wpAny_loadPart' hl
    exact ⟨_, rfl, h⟩
set_option maxHeartbeats 4000000 in
theorem tuple_mul0 (l : Addr) (items : Array Value) (n : Nat) (dd : Option Addr) (sl : Array (Option Value)) (u : Tok) (he : items.isEmpty = false) :
    Meets (Builtin.«tuple.__mul__» ⟨[.ref l, .int 0 u], []⟩) (fun _ R s => s.heap.get? l = some { cls := .type "tuple", dict := dd, data := .seq items n, slots := sl } ∧
      R (.ok (.ret (Value.ref s.heap.objs.size))) { s with heap := s.heap.push { cls := Value.type "tuple", data := Data.seq #[] }, toks := s.toks }) :=
  .of_wp fun prog w A R s h => by
    obtain ⟨hp, g, d, tk, os⟩ := s
    obtain ⟨hl, h⟩ := h
    have f1 := AutoSeq1.idx_int
    have c1 : (items.isEmpty || (0 : Int) == 1) = false := by rw [he]; rfl
    have c2 : (decide ((0 : Int) ≤ 0) || items.isEmpty) = true := by rw [he]; rfl
    wp_walk using wpAny_loadPart' hl
    repeat (first
      | (refine wpAny_ite_false (decide_eq_false (by rw [c1]; exact Bool.false_ne_true)) ?_; wp_walk using wpAny_loadPart' hl)
      | (refine wpAny_ite_true (decide_eq_true (by exact c2)) ?_; wp_walk using wpAny_loadPart' hl))
    exact ⟨_, rfl, h⟩
section
variable {X : Cx}
def rRep01 (K : PySem.W.Frag) : R2 := fun x y H Q => ∃ l k xs, x = .ref l ∧ y = .int k ∧ SqT K H l xs ∧ xs ≠ [] ∧ ((k = 1 ∧ Q (.ref l) H) ∨ (k = 0 ∧ ∀ p, H p = none → Q (.ref p) (upd H p (.tup []))))
theorem op_rep01 : OpR X (binaryOp .Mult) (rRep01 X.K) := by
  intro pins s σ H x y v u Q I rx ry h
  obtain ⟨l, k, xs, rfl, rfl, hT, hne, h⟩ := h
  cases rx
  obtain ⟨t, rfl⟩ := ry
  obtain ⟨its, r, ⟨⟨cls, dd, data, sl⟩, ho, hc, n, hd⟩, hs⟩ := I.tuple hT
  simp only at hc hd
  subst hc hd
  have hle : its.length = xs.length := r.length.symm
  have hn : its ≠ [] := fun e => hne (by
    rw [e] at hle
    exact List.eq_nil_of_length_eq_zero hle.symm)
  have hi : its.toArray.isEmpty = false := by
    cases its with
    | nil => exact absurd rfl hn
    | cons a b => rfl
  rcases h with ⟨rfl, q⟩ | ⟨rfl, q⟩
  · refine wpAny_binaryOp_repeat_ref (T := "tuple") (U := "int") (by decide) ⟨_, ho, rfl⟩ (fun s' => typeIs_int s' 1 t) noFill_tuple_mul F.fills_int_mul F.slot_int_rmul repeat_tuple F.slot_int_index.lookup
      (call_meets F.slot_int_rmul (typeIs_int s 1 t) F.entry_int_rmul (F.args_int_rmul_2 _ _) (int_rmul_tuple 1 t l its.toArray n dd sl)
        ⟨ho, rfl, ⟨_, ho, rfl⟩, call_meets F.slot_tuple_mul ⟨_, ho, rfl⟩ F.entry_tuple_mul (F.args_tuple_mul_2 _ _) (tuple_mul1 l its.toArray n dd sl t) ⟨ho, ?_⟩⟩)
    exact ⟨.ref l, H, I, rfl, q⟩
  · refine wpAny_binaryOp_repeat_ref (T := "tuple") (U := "int") (by decide) ⟨_, ho, rfl⟩ (fun s' => typeIs_int s' 0 t) noFill_tuple_mul F.fills_int_mul F.slot_int_rmul repeat_tuple F.slot_int_index.lookup
      (call_meets F.slot_int_rmul (typeIs_int s 0 t) F.entry_int_rmul (F.args_int_rmul_2 _ _) (int_rmul_tuple 0 t l its.toArray n dd sl)
        ⟨ho, rfl, ⟨_, ho, rfl⟩, call_meets F.slot_tuple_mul ⟨_, ho, rfl⟩ F.entry_tuple_mul (F.args_tuple_mul_2 _ _) (tuple_mul0 l its.toArray n dd sl t hi) ⟨ho, ?_⟩⟩)
    refine ⟨.ref s.heap.objs.size, _, I.laid (t' := s.toks) (o := .tup []) (fun b ob q => Heap.get?_push_of_some _ q) (Nat.le_refl _) ?_, rfl, q _ (I.hok.fresh (Nat.le_refl _))⟩
    exact ⟨Nat.zero_le _, [], .nil, IsTup.new _ _⟩
variable {T : Tb} {W : WX}
theorem PdA.rep {B : Tw} {L : Addr → Prop} {H : Hp} {vs : List V} {ds : List PyData} (a : PdA B L H vs ds) : ∀ n : Nat, PdA B L H (List.replicate n vs).flatten (List.replicate n ds).flatten
  | 0 => .nil
  | n + 1 => by
    rw [List.replicate_succ, List.replicate_succ, List.flatten_cons, List.flatten_cons]
    exact a.app (PdA.rep a n)
/-- * of whole numbers, a list times a number, a tuple times 0 or 1 -/
def gMulS : G2 := fun d e ah => match d, e with
  | .p (.list xs), .p (.int k) => if decide (0 ≤ k ∧ k ≤ 1000 ∧ xs.length ≤ 1000) then .ok (.p (.list (List.replicate k.toNat xs).flatten)) ah else .bad
  | .p (.tuple xs), .p (.int k) => if k = 1 ∧ xs ≠ [] then .ok (.p (.tuple xs)) ah else if k = 0 ∧ xs ≠ [] then .ok (.p (.tuple [])) ah else .bad
  | d, e => gMul d e ah
theorem od_mulS (hT : TX X T) : OpD X T W (binaryOp .Mult) gMulS := by
  refine ⟨fun pins s σ H x y v u Q m ah d e I rx ry S r1 r2 q => ?_⟩
  unfold gMulS at q
  split at q
  · rename_i xs k
    split at q
    · rename_i c
      have c := of_decide_eq_true c
      cases r2
      cases r1 with
      | lst n1 h1 a1 =>
        refine op_rep pins s σ H _ _ v u Q I rx ry ⟨_, _, _, rfl, rfl, h1, by omega, by omega, ?_, fun p hp => OkV.lst S q (a1.rep _) hp⟩
        rw [a1.len, sizeLine_eq]
        exact Nat.le_trans (Nat.mul_le_mul c.2.2 (show k.toNat ≤ 1000 by omega)) (by decide)
    · exact False.elim q
  · rename_i xs k
    cases r2
    cases r1 with
    | tup n1 h1 a1 =>
      have ne : ∀ {vs : List V}, PdA T.B (LV T m ah) H vs xs → xs ≠ [] → vs ≠ [] := fun {vs} a hx z => by
        have := a.len
        rw [z] at this
        exact hx (List.eq_nil_of_length_eq_zero this.symm)
      split at q
      · rename_i c
        obtain ⟨rfl, c⟩ := c
        exact op_rep01 pins s σ H _ _ v u Q I rx ry ⟨_, _, _, rfl, rfl, SqT.of h1, ne a1 c, .inl ⟨rfl, OkV.p S q (.tup n1 h1 a1)⟩⟩
      · split at q
        · rename_i c
          obtain ⟨rfl, c⟩ := c
          exact op_rep01 pins s σ H _ _ v u Q I rx ry ⟨_, _, _, rfl, rfl, SqT.of h1, ne a1 c, .inr ⟨rfl, fun p hp => OkV.tup S q .nil hp⟩⟩
        · exact False.elim q
  · exact (od_mul hT).run pins s σ H x y v u Q m ah _ _ I rx ry S r1 r2 q
end
end DL

set_option Elab.async false
set_option linter.all false
set_option maxRecDepth 100000
/-! DLo: t[::-1] of a tuple. -/
namespace DL
open PySem PySem.Spec PyProof.Rows L2 HT
section
variable {prog : Program} {w : World} {A : Around} {E : Value → Shared → Prop} {s : Shared}
theorem applied_rev {sl : Addr} {vl vu vs : Value} {n : Nat} {Q : Int × Int × Nat → Shared → Prop} (hs : s.heap.IsSliceOf sl vl vu vs) (pl : IsPart vl none) (pu : IsPart vu none) (ps : IsPart vs (some (-1)))
    (h : Q ((n : Int) - 1, -1, n) s) : wpAny (model prog w) A (Builtin.Slice.sliceApplied (.ref sl) (pure (n : Int))) Q E s := by
  obtain ⟨os, hos, hcs, hds⟩ := id hs
  unfold Builtin.Slice.sliceApplied Builtin.Slice.sliceFields
  refine wpAny_bind (wpAny_bind (wpAny_field hos hds (x := vl) rfl (wpAny_bind (wpAny_field hos hds (x := vu) rfl (wpAny_bind (wpAny_field hos hds (x := vs) rfl (wpAny_pure ?_)))))))
  refine wpAny_bind (slicePart_ ps ?_)
  show wpAny _ _ (if ((-1 : Int) == 0) = true then _ else _) _ _ s
  rw [if_neg (by decide)]
  refine wpAny_bind (slicePart_ pl (wpAny_bind (slicePart_ pu (wpAny_bind (wpAny_pure ?_)))))
  have e1 : Builtin.Slice.sliceAdjust none none (-1) (n : Int) = ((n : Int) - 1, -1) := rfl
  have e2 : Builtin.Slice.slicePlaces ((n : Int) - 1) (-1) (-1) = n := by
    unfold Builtin.Slice.slicePlaces
    rw [if_neg (by decide)]
    have h2 : (- -1 : Int) = 1 := by decide
    rw [h2, Int.ediv_one]
    split <;> omega
  show wpAny _ _ (match Builtin.Slice.sliceAdjust none none (-1) (n : Int) with | (lo, hi) => pure (lo, (-1 : Int), Builtin.Slice.slicePlaces lo hi (-1))) _ _ s
  rw [e1]
  show wpAny _ _ (pure ((n : Int) - 1, (-1 : Int), Builtin.Slice.slicePlaces ((n : Int) - 1) (-1) (-1))) _ _ s
  rw [e2]
  exact wpAny_pure h
theorem fm_congr {α β : Type} {f g : α → Option β} : ∀ {l : List α}, (∀ x ∈ l, f x = g x) → l.filterMap f = l.filterMap g
  | [], _ => rfl
  | x :: r, h => by
    rw [List.filterMap_cons, List.filterMap_cons, h x List.mem_cons_self, fm_congr fun y hy => h y (List.mem_cons_of_mem _ hy)]
theorem pick_rev (xs : Array Value) : ((List.range xs.size).filterMap fun (m : Nat) => xs[((xs.size : Int) - 1 + (m : Int) * (-1)).toNat]?).toArray = xs.toList.reverse.toArray := by
  have h := PySem.W.krv_all xs
  have e : ((List.range xs.size).filterMap fun (m : Nat) => xs[((xs.size : Int) - 1 + (m : Int) * (-1)).toNat]?) = (((List.range xs.size).map fun k => xs.size - 1 - k).filterMap (xs[·]?)) := by
    rw [List.filterMap_map]
    refine fm_congr fun m hm => ?_
    have := List.mem_range.mp hm
    show xs[_]? = xs[_]?
    congr 1
    first | omega | (simp only [Function.comp_apply]; omega)
  rw [e, PySem.W.krv_range, List.filterMap_reverse, h]
theorem getItem_tuple_rev {t sl : Addr} {items : Array Value} {vl vu vs : Value} {Q : Value → Shared → Prop} (ht : IsTup s.heap t items) (hs : s.heap.IsSliceOf sl vl vu vs) (pl : IsPart vl none) (pu : IsPart vu none) (ps : IsPart vs (some (-1))) (hz : items.size ≤ sizeLine)
    (h : Q (.ref s.heap.objs.size) { s with heap := s.heap.push { cls := .type "tuple", data := .seq items.toList.reverse.toArray } }) : wpAny (model prog w) A (getItem (.ref t) (.ref sl)) Q E s := by
  obtain ⟨os, hos, hcs, hds⟩ := id hs
  have hTs : s.TypeIs (.ref sl) "slice" := ⟨os, hos, hcs⟩
  unfold getItem
  try with_reducible refine wpAny_holding ?_
  first | refine wpAny_bind (wpAny_pure ?_) | skip
  refine wpAny_bind (wpAny_sequenceKey ht.typeIs (by decide) ?_)
  refine wpAny_bind (wpAny_callSpecial?_slot (name := Str.ofString "__getitem__") ht.typeIs PyProof.Rows.slot_tuple_getitem
    (wpAny_call_entry PyProof.Rows.slot_tuple_getitem ht.typeIs entry_tuple_getitem ?_ (args_tuple_getitem _ _)))
  show wpAny _ _ (Builtin.Tuple.tupleItemsOf (.ref t) >>= _) _ _ s
  refine wpAny_bind (tupleItemsOf_ ht ?_)
  refine wpAny_bind (wpAny_typeOf hTs ?_)
  rw [if_pos (by decide)]
  refine wpAny_bind (applied_rev hs pl pu ps ?_)
  have hno : ¬ (((items.size : Int) - 1 == 0 && (-1 : Int) == 1 && items.size == items.size) = true) := by
    have : ((-1 : Int) == 1) = false := rfl
    rw [this, Bool.and_false, Bool.false_and]
    exact Bool.false_ne_true
  show wpAny _ _ (if ((items.size : Int) - 1 == 0 && (-1 : Int) == 1 && items.size == items.size) = true then _ else _) _ _ s
  rw [if_neg hno]
  show wpAny _ _ (Builtin.Tuple.tupleExact _ >>= _) _ _ s
  rw [pick_rev]
  exact wpAny_bind (wpAny_newObj_type (wpAny_pure ⟨_, rfl, wpAny_pure h⟩) (by show items.toList.reverse.toArray.size ≤ sizeLine; rw [List.size_toArray, List.length_reverse, Array.length_toList]; exact hz))
end
section
variable {X : Cx}
def tRevT (K : PySem.W.Frag) (te : TE) : TE := fun σ H Q => te σ H fun x H1 => ∃ a xs, x = .ref a ∧ SqT K H1 a xs ∧ ∀ p, H1 p = none → Q (.ref p) (upd H1 p (.tup xs.reverse))
theorem pe_revT {e : Expr} {te : TE} {k : Nat} {p1 p2 p3 pos : Pos} (he : PE X e te) : PE X (.Subscript e (.Slice none none (some (.UnaryOp .USub (.Constant (.int 1) k p1) p2)) p3) pos) (tRevT X.K te) := by
  refine ⟨fun pins s σ H Q I h => ?_⟩
  refine Subscript_ (thn (he.run pins s σ H _ I h) fun v s1 ⟨x, H1, I1, r1, q1⟩ => ?_)
  obtain ⟨a, xs, ex, hx, q⟩ := q1
  subst ex
  cases r1
  have hst : PO X (some (.UnaryOp .USub (.Constant (.int 1) k p1) p2)) (tPart (tUn (rU fun i => .int (-i)) (tC (.int 1)))) := po_some (pe_un un_neg pe_int)
  refine wpAny_Slice (thn (po_none.run pins s1 σ H1 (fun o H2 => o = none ∧ H2 = H1) I1 ⟨rfl, rfl⟩) fun vl s2 ⟨l, H2, I2, pl, el, e2⟩ => ?_)
  subst el e2
  refine thn (po_none.run pins s2 σ H2 (fun o H3 => o = none ∧ H3 = H2) I2 ⟨rfl, rfl⟩) fun vu s3 ⟨u, H3, I3, pu, eu, e3⟩ => ?_
  subst eu e3
  refine thn (hst.run pins s3 σ H3 (fun o H4 => o = some (-1) ∧ H4 = H3) I3 ⟨1, rfl, -1, rfl, rfl, rfl⟩) fun vs s4 ⟨o, H4, I4, ps, eo, e4⟩ => ?_
  subst eo e4
  have I5 : Inv X pins σ H4 { s4 with heap := s4.heap.push { cls := .type "slice", data := .fields #[vl, vu, vs] } } := I4.kept (t' := s4.toks) fun b ob q => Heap.get?_push_of_some _ q
  obtain ⟨its, r, ht, hz⟩ := I5.tuple hx
  have hlen := r.length
  show wpAny (model X.prog X.w) X.A (subscriptTail e (.Slice none none (some (.UnaryOp .USub (.Constant (.int 1) k p1) p2)) p3) (.ref a) (.ref s4.heap.objs.size)) (EP X pins σ Q) X.xe { s4 with heap := s4.heap.push { cls := .type "slice", data := .fields #[vl, vu, vs] } }
  refine tail_any (ops := [.ref a, .ref s4.heap.objs.size]) ht.typeIs (PyProof.Rows.slot_tuple_getitem.lookup) ?_ (by with_unfolding_all rfl)
  refine getItem_tuple_rev ht (Heap.IsSliceOf.new _ vl vu vs) pl pu ps (by rw [List.size_toArray]; omega) ?_
  refine ⟨.ref _, _, I5.laid (t' := s4.toks) (o := .tup xs.reverse) (fun b ob q => Heap.get?_push_of_some _ q) (Nat.le_refl _) ?_, rfl, q _ (I5.hok.fresh (Nat.le_refl _))⟩
  exact ⟨by rw [List.length_reverse]; exact hz, _, r.reverse, IsTup.new _ _⟩
variable {T : Tb} {W : WX} {e : Expr} {fe : EF}
theorem PdA.rev {B : Tw} {L : Addr → Prop} {H : Hp} : ∀ {vs : List V} {ds : List PyData}, PdA B L H vs ds → PdA B L H vs.reverse ds.reverse
  | [], _, .nil => .nil
  | _ :: _, _, .cons h t => by
    rw [List.reverse_cons, List.reverse_cons]
    exact (PdA.rev t).app (.cons h .nil)
def fRevSlice (f : EF) : EF := fun σ ah => (f σ ah).bind fun d ah1 => match d with
  | .p (.tuple xs) => .ok (.p (.tuple xs.reverse)) ah1
  | _ => .bad
theorem de_revSlice {k : Nat} {p1 p2 p3 pos : Pos} (hT : TX X T) (h : DE X T W e fe) : DE X T W (.Subscript e (.Slice none none (some (.UnaryOp .USub (.Constant (.int 1) k p1) p2)) p3) pos) (fRevSlice fe) := by
  refine ⟨(pe_revT h.h).imp fun σ H Q q => ?_⟩
  obtain ⟨m, ah, σd, S, En, q⟩ := q
  refine ⟨m, ah, σd, S, En, (Ok.bind S.len q).mono fun m1 ah1 H1 d E1 S1 h1 v r => ?_⟩
  split at h1
  · cases r with
    | tup n1 g1 a1 => exact ⟨_, _, rfl, SqT.of g1, fun p hp => OkV.tup S1 h1 a1.rev hp⟩
  · exact False.elim h1
end
end DL

set_option Elab.async false
set_option linter.all false
set_option maxRecDepth 100000
/-! DLp: try .. except C as e: return [isinstance(e, A), isinstance(e, B)]. -/
namespace DL
open PySem PySem.Spec PyProof.Rows L2
section
variable {X : Cx} {T T0 : Tb} {W : WX} {k : Nat} {pos p p2 pos' np p1 : Pos} {x : Str}
theorem kit_own {K : PySem.W.Frag} {C D : Addr} {b : Bool} (hd : PySem.W.hasDictIn K D = true) (ty : PySem.W.typeIn K (.ref D) = some (.type "type")) (h2 : PySem.W.subIn K (.ref D) (.ref D) = some true) (h : PySem.W.subIn K (.ref C) (.ref D) = some b) : PySem.W.kitOne K (.ref C) (.ref D) = some b := by
  obtain ⟨cd, hc, _⟩ := PySem.W.any_some hd
  by_cases e : C = D
  · subst e
    rw [h2] at h
    cases h
    show (if (Value.ref C == Value.ref C) = true then some true else PySem.W.kitCls K (.ref C) (.ref C)) = some true
    rw [if_pos (by simp)]
  · show (if (Value.ref C == Value.ref D) = true then some true else if ((PySem.W.clsIn K D).isSome && PySem.W.typeIn K (.ref D) == some (.type "type")) = true then PySem.W.subIn K (.ref C) (.ref D) else none) = some b
    have e2 : ((PySem.W.clsIn K D).isSome && PySem.W.typeIn K (.ref D) == some (.type "type")) = true := by rw [hc, ty] <;> rfl
    rw [if_neg (by simp [e]), if_pos e2]
    exact h
def tryO2 (P : Nat → Option Bool) (R : Nat → Option (Bool × Bool)) (o : O) : O := match o with
  | .ex c σ ah => match P c with
    | some true => match R c with
      | some b => .rt (.p (.list [.bool b.1, .bool b.2])) ah
      | none => .bad
    | some false => .ex c σ ah
    | none => .bad
  | o => o
def sTryT2 (P : Nat → Option Bool) (R : Nat → Option (Bool × Bool)) (f : SF) : SF := fun σ ah => tryO2 P R (f σ ah)
theorem ds_tryIs2 {cv : Value} {P : Nat → Option Bool} {R : Nat → Option (Bool × Bool)} {body : List Stmt} {fb : SF} {n y1 y2 : Str} {t : String} {i a1 : Nat} {q1 q2 q3 q4 q5 q6 q7 q8 q9 : Pos} (c : CxO X T0 T W k) (hs : X.stack = X.env :: X.outer) (hf : X.env.frame = some X.env.locals) (hN : X.N.Nodup) (hi : X.N[i]? = some n) (hln : X.env.kindOf n = some .local) (hv : Vis X.env.scope n) (hc : Names X x cv)
    (hP : ∀ (n : Nat) (b : Bool), P n = some b → PySem.W.exmOne T0.K (.ref (T0.ct n)) cv = some b)
    (hR : ∀ (n : Nat) (b : Bool × Bool), R n = some b → ExcC T0.K (T0.ct n) ∧ PySem.W.kitOne T0.K (.ref (T0.ct n)) (.ref (T0.ct a1)) = some b.1 ∧ PySem.W.kitOne T0.K (.ref (T0.ct n)) (.type t) = some b.2)
    (g1 : Gl X "isinstance") (m1 : X.mg "isinstance" = none) (gA : Gl X y1) (mA : X.mg y1 = some (.ref (T0.ct a1))) (g2 : Gl X y2) (m2 : X.mg y2 = none) (hty : bootBuiltins y2 = some (.type t))
    (hb : ∀ (pn : List (Addr × Obj)) (xe : Value → Shared → Prop) (W' : WX), CxO (X.tr pn xe) T0 T W' k → DSs (X.tr pn xe) T W' body fb) (hyd1 : (y1 == ("__debug__" : Str)) = false := by decide) (hyn : y2 ≠ "__name__" := by decide) (hyd : (y2 == ("__debug__" : Str)) = false := by decide) (hnd : (n == ("__debug__" : Str)) = false := by decide) (hncd : (n == ("__classdict__" : Str)) = false := by decide)
    (s1 : starEach [.Name n q1, .Name y1 q2] X.env = (false, eval (.Name n q1) X.env) :: starEach [.Name y1 q2] X.env := by rfl) (hpl1 : (backTo q3 (starEach [.Name y1 q2] X.env)).any (·.1) = false := by rfl)
    (s2 : starEach [.Name n q5, .Name y2 q6] X.env = (false, eval (.Name n q5) X.env) :: starEach [.Name y2 q6] X.env := by rfl) (hpl2 : (backTo q7 (starEach [.Name y2 q6] X.env)).any (·.1) = false := by rfl)
    (s3 : starEach [.Call (.Name "isinstance" q4) [.Name n q1, .Name y1 q2] [] q3, .Call (.Name "isinstance" q8) [.Name n q5, .Name y2 q6] [] q7] X.env = (false, eval (.Call (.Name "isinstance" q4) [.Name n q1, .Name y1 q2] [] q3) X.env) :: starEach [.Call (.Name "isinstance" q8) [.Name n q5, .Name y2 q6] [] q7] X.env := by rfl) :
    DSt X T W (.Try body [.ExceptHandler (some (.Name x np)) (some n) [.Return (some (.List [.Call (.Name "isinstance" q4) [.Name n q1, .Name y1 q2] [] q3, .Call (.Name "isinstance" q8) [.Name n q5, .Name y2 q6] [] q7] q9)) p2] pos'] [] [] pos) (sTryT2 P R fb) := by
  have hK := c.K
  refine ⟨(ps_try_as (i := i) (tb := fun W' => tS T W' fb) (ts := fun a cls d D σ H => d = none ∧ (∃ σ0 : L2.St, σ = σ0.set i (some (.ref a))) ∧ ∃ (m : Nat) (b : Bool × Bool), cls = .ref (T0.ct m) ∧ R m = some b ∧ ∀ p, H p = none → D.rt (.ref p) (upd H p (.lst [.bl b.1, .bl b.2]))) hs hf hN hi hln hc c.tk (fun W' pn xe tk _ => (hb pn xe W' (tr_cx c tk)).h) (fun a oe cls d pn hz hd => ⟨fun pins s σ H D I h => ?_⟩)).imp fun Dn σ H q => ?_⟩
  · obtain ⟨rfl, ⟨σ0, rfl⟩, m, b, rfl, hr, hD⟩ := h
    have hσ : (σ0.set i (some (V.ref a)))[i]? = some (some (.ref a)) := by
      have hl : (σ0.set i (some (V.ref a))).length = X.N.length := I.len
      rw [List.length_set] at hl
      have hil := (List.getElem?_eq_some_iff.mp hi).1
      exact List.getElem?_set_self (by omega)
    obtain ⟨ec, hk1, hk2⟩ := hR m b hr
    rw [hK] at ec hk1 hk2
    have hp1 : PE (X.suite a ((a, oe) :: pn)) (.Call (.Name "isinstance" q4) [.Name n q1, .Name y1 q2] [] q3) _ :=
      pe_callB (X := X.suite a ((a, oe) :: pn)) (call_isE ec hz hd) g1 m1 PyProof.Rows.boot_isinstance (pa_cons (pe_var (i := i) hi hv hnd hncd) (pa_cons (pe_glob (v := .ref (T0.ct a1)) gA mA rfl hyd1) pa_nil) s1) (by decide) (by decide) s1 hpl1
    have hp2 : PE (X.suite a ((a, oe) :: pn)) (.Call (.Name "isinstance" q8) [.Name n q5, .Name y2 q6] [] q7) _ :=
      pe_callB (X := X.suite a ((a, oe) :: pn)) (call_isE ec hz hd) g1 m1 PyProof.Rows.boot_isinstance (pa_cons (pe_var (i := i) hi hv hnd hncd) (pa_cons (pe_bltn (v := .ty t) g2 m2 hty rfl hyn hyd) pa_nil) s2) (by decide) (by decide) s2 hpl2
    exact (pss_one (ps_ret (pe_lst (pa_cons hp1 (pa_cons hp2 pa_nil) s3)))).run pins s _ H D I ⟨.ref a, hσ, .ref (T0.ct a1), .ref (T0.ct a1), b.1, rfl, fun u hu => hu, hk1, .ref a, hσ, .ty t, .type t, b.2, rfl, fun u hu => hu, hk2, (by rw [sizeLine_eq]; exact (by decide : 2 ≤ 16777216)), hD⟩
  · obtain ⟨m1, ah, σd, S, En, q⟩ := q
    refine ⟨m1, ah, σd, S, En, ?_⟩
    have q' : Oo T W m1 ah H (tryO2 P R (fb σd ah)) Dn := q
    cases z : fb σd ah with
    | ex n σ' ah' =>
      rw [z] at q'
      unfold tryO2 at q'
      dsimp only at q'
      cases w : P n with
      | none => rw [w] at q'; exact False.elim q'
      | some b' =>
        rw [w] at q'
        intro m' H' σ2 E' S' En'
        refine ⟨b', ?_, ?_, ?_⟩
        · rw [← c.K, c.ct]; exact hP n b' w
        · rintro rfl a ha
          dsimp only at q'
          cases r : R n with
          | none => rw [r] at q'; exact False.elim q'
          | some b2 =>
            rw [r] at q'
            refine ⟨rfl, ⟨σ2, rfl⟩, n, b2, by rw [c.ct], r, fun p hp => ?_⟩
            exact q' m' _ (.ref p) (E'.trans (Ext.grow (grow_upd hp)) S.len S') (S'.grow (grow_upd hp)) (.lst (notLive_fresh S' hp) upd_same (.cons (.bl _) (.cons (.bl _) .nil)))
        · rintro rfl
          exact q' m' H' σ2 E' S' En'
    | nx _ _ => rw [z] at q'; exact q'
    | rt _ _ => rw [z] at q'; exact q'
    | bk _ _ => rw [z] at q'; exact q'
    | ct _ _ => rw [z] at q'; exact q'
    | bad => rw [z] at q'; exact q'
end
end DL

set_option Elab.async false
set_option linter.all false
set_option maxRecDepth 100000
/-! DLq: enumerate of a tuple. -/
namespace DL
open PySem PySem.Spec PyProof.Rows L2
section
open AutoSeq1 (wpAny_loadPart')
set_option maxHeartbeats 1000000 in
theorem meets_enumT (l : Addr) (items : Array Value) (n : Nat) (dct : Option Addr) (sl : Array (Option Value)) :
    Meets (Builtin.«enumerate.__new__» ⟨[.type "enumerate", .ref l], []⟩) (fun _ R s => s.heap.get? l = some { cls := .type "tuple", dict := dct, data := .seq items n, slots := sl } ∧
      R (.ok (.ret (.ref (s.heap.push { cls := .type "tuple_iterator", data := .fields #[.ref l, .int 0 0] }).objs.size)))
        { s with heap := (s.heap.push { cls := .type "tuple_iterator", data := .fields #[.ref l, .int 0 0] }).push { cls := .type "enumerate", data := .fields #[.none, .bool false, .ref s.heap.objs.size, rawInt 0, .none, .none] } }) :=
  .of_wp fun prog w A R s h => by
    obtain ⟨hp, g, d, tk, os⟩ := s; obtain ⟨hl, h⟩ := h
    have hsub := sub_enumerate
    have hL : Heap.IsTuple (Shared.heap ⟨hp, g, d, tk, os⟩) l items := ⟨_, hl, rfl, n, rfl⟩
    wp_walk using wpAny_loadPart' hl
    refine wpAny_stack_any fun st => wpAny_pure ?_
    split
    · rename_i c _ _ _ _ _
      cases (c == Value.type "enumerate")
      · wp_walk using wpAny_loadPart' hl, wpAny_pyIter_tuple hL
        exact ⟨_, rfl, h⟩
      · wp_walk using wpAny_loadPart' hl, wpAny_pyIter_tuple hL
        exact ⟨_, rfl, h⟩
    · wp_walk using wpAny_loadPart' hl, wpAny_pyIter_tuple hL
      exact ⟨_, rfl, h⟩
variable {prog : Program} {w : World} {A : Around} {E : Value → Shared → Prop} {s : Shared}
theorem call_enumT {l : Addr} {items : Array Value} {Q : Value → Shared → Prop} (hL : s.heap.IsTuple l items)
    (h : ∀ h', IsEnum h' (s.heap.objs.size + 1) s.heap.objs.size 0 .none → h'.IsTupleIter s.heap.objs.size l 0 → h'.objs.size = s.heap.objs.size + 2 →
      (∀ b o, s.heap.get? b = some o → h'.get? b = some o) → Q (.ref (s.heap.objs.size + 1)) { s with heap := h' }) :
    wpAny (model prog w) A (call (.type "enumerate") [.ref l]) Q E s := by
  obtain ⟨⟨c, dct, dt, sl⟩, hl, hc, n, hd⟩ := hL
  replace hc : c = .type "tuple" := hc
  replace hd : dt = .seq items n := hd
  subst hc hd
  refine callType_new F.called_enumerate (by decide) (F.typeCall_enumerate_1 _) (F.newCall_enumerate_1 _) (fun obj => F.args_object_init_2 obj _) F.entry_enumerate_new
    (meets_enumT l items n dct sl) ⟨hl, ?_⟩
  have hz : (s.heap.push { cls := .type "tuple_iterator", data := .fields #[.ref l, .int 0 0] }).objs.size = s.heap.objs.size + 1 := Heap.size_push ..
  show _ ∧ _
  rw [hz]
  have he : IsEnum ((s.heap.push { cls := .type "tuple_iterator", data := .fields #[.ref l, .int 0 0] }).push
      { cls := .type "enumerate", data := .fields #[.none, .bool false, .ref s.heap.objs.size, rawInt 0, .none, .none] }) (s.heap.objs.size + 1) s.heap.objs.size 0 .none := by
    have := Heap.get?_push_size (s.heap.push { cls := .type "tuple_iterator", data := .fields #[.ref l, .int 0 0] })
      (o := { cls := .type "enumerate", data := .fields #[.none, .bool false, .ref s.heap.objs.size, rawInt 0, .none, .none] }) rfl
    rw [hz] at this; exact this
  refine ⟨⟨_, he, rfl⟩, h _ he ⟨_, Heap.get?_push_of_some _ (Heap.get?_push_size _ rfl), rfl, rfl⟩ (by rw [Heap.size_push, hz]) fun b o x => Heap.get?_push_of_some _ (Heap.get?_push_of_some _ x)⟩
end
theorem enum_endT {prog : Program} {w : World} {A : Around} {E : Value → Shared → Prop} {s : Shared} {e it l : Addr} {i : Nat} {items : Array Value} {old : Value} {Q : Option Value → Shared → Prop} (hh : A.handled = none)
    (he : IsEnum s.heap e it ((i : Nat) : Int) old) (hit : s.heap.IsTupleIter it l i) (hl : s.heap.IsTuple l items) (hx : items[i]? = none)
    (hQ : ∀ h', Heap.ExtBut it s.heap h' → Q none { s with heap := h' }) : wpAny (model prog w) A (pyNext (.ref e)) Q E s := by
  have hT : s.TypeIs (.ref e) "enumerate" := ⟨_, he, rfl⟩
  unfold pyNext
  refine wpAny_bind (wpAny_attempt (wpAny_callSpecial?_slot (name := Str.ofString "__next__") hT F.slot_enumerate_next
    (wpAny_call_entry F.slot_enumerate_next hT F.entry_enumerate_next ?_ (F.args_enumerate_next_1 _))))
  show wpAny _ _ (field (.ref e) 2 >>= _) _ _ _
  refine wpAny_bind (wpAny_field he rfl (x := .ref it) rfl ?_)
  refine wpAny_bind (wpAny_nextOf_tuple_end (A := A.in1) hh hit hl hx fun h' x he' hx' => ?_)
  obtain ⟨o, ho, hc⟩ := hx'
  refine wpAny_bind (wpAny_isInstance (T := "StopIteration") (b := true) ⟨o, ho, hc⟩ isSubtype_stop ?_)
  exact wpAny_pure (hQ _ he')
/-- the tuple at a, each item in a new pair -/
def IteT (K : PySem.W.Frag) (a : Addr) : It :=
  ⟨fun i H => ∃ (xs : List V) (x : V), SqT K H a xs ∧ xs[i]? = some x, fun i H v H' => ∃ T x, v = .ref T ∧ H T = none ∧ H' = upd H T (.tup [.int (i : Nat), x]) ∧ ∀ xs, SqT K H a xs → xs[i]? = some x, fun i H => ∃ xs : List V, SqT K H a xs ∧ xs.length ≤ i⟩
theorem turn_enumT {P : Program} {w : World} {K : PySem.W.Frag} {elts : List Expr} {kk : Nat} {tpos : Pos} (a e it : Addr) :
    Turn P w K (.Tuple elts kk tpos) (IteT K a) [e, it] e (fun i h => (∃ old, IsEnum h e it ((i : Nat) : Int) old) ∧ h.IsTupleIter it a i ∧ e ≠ it) where
  mem := by simp
  obj := fun i h st b hb => by
    obtain ⟨⟨old, he⟩, ⟨o, ho, hc, hd⟩, _⟩ := st
    have e' : b = e ∨ b = it := by simpa using hb
    rcases e' with z | z
    · rw [z]; exact ⟨_, he, fun v q => nomatch q⟩
    · rw [z]; exact ⟨o, ho, fun v q => by rw [hd] at q; cases q⟩
  keep := fun i h h' st k => let ⟨⟨old, he⟩, hi, hne⟩ := st; ⟨⟨old, k e (by simp) _ he⟩, hi.at fun o q => k it (by simp) o q, hne⟩
  item := by
    intro X hP hw hK hc i pins s σ H E I hf st hg
    subst hP hw hK
    obtain ⟨⟨old, he⟩, hit, hne⟩ := st
    obtain ⟨xs, x, hq, hx⟩ := hg
    obtain ⟨its, rv, p, hz⟩ := I.tuple hq
    obtain ⟨u, hu, ru⟩ := rv.get hx
    have hel : e < s.heap.objs.size := Heap.lt_size he
    have hil : it < s.heap.objs.size := by obtain ⟨_, q, _⟩ := hit; exact Heap.lt_size q
    have hu' : its.toArray[i]? = some u := by simpa using hu
    have hlt : i < its.toArray.size := by
      have := (List.getElem?_eq_some_iff.mp hu).1
      simpa using this
    have hea : e ≠ a := fun z => by
      obtain ⟨o, ho, hcl, _⟩ := id p
      rw [← z] at ho
      have := he.symm.trans ho
      rw [Option.some.injEq] at this
      rw [← this] at hcl
      exact absurd (show Value.type "enumerate" = Value.type "tuple" from hcl) (by decide)
    have hai : a ≠ it := fun z => by
      obtain ⟨o, ho, hcl, _⟩ := id p
      obtain ⟨o2, ho2, hcl2, _⟩ := id hit
      rw [z] at ho
      have := ho.symm.trans ho2
      rw [Option.some.injEq] at this
      rw [← this, hcl] at hcl2
      exact absurd hcl2 (by decide)
    refine wpAny_pyNext_enum_itemD (Draws.tuple (A := X.A.in1) (I.ok.hd hc) it a hai its.toArray) he ⟨hit, p⟩ hlt hne (by simp [hne, hea]) fun y h' tk hPy ho hs' hT hsz hk => ?_
    have hyu : y = u := by
      have := hPy.symm.trans hu'
      cases this; rfl
    subst hyu
    refine ⟨_, rfl, wpAny_letOwnedTupleGo_enum (s := { s with heap := h', toks := tk + 1 }) ho fun h'' he' sb => ?_⟩
    have hT2 : h''.get? s.heap.objs.size = some { cls := .type "tuple", data := .seq #[.int i tk, y] } := (sb.2 _ (Nat.ne_of_gt hel)).trans hT
    have new : ObjOk X.prog X.w (upd H s.heap.objs.size (.tup [.int (i : Nat), x])) h'' s.heap.objs.size (.tup [.int (i : Nat), x]) :=
      ⟨by show 2 ≤ sizeLine; decide, [.int i tk, y], .cons ⟨_, rfl⟩ (.cons ru .nil), ⟨_, hT2, rfl, _, rfl⟩⟩
    have I1 : Inv X pins σ (upd H s.heap.objs.size (.tup [.int (i : Nat), x])) { s with heap := h'', toks := tk + 1 } :=
      I.turnedNew (ch := [e, it]) (fun b ob hb q => (sb.2 b (fun z => hb (by simp [z]))).trans (hk b ob (fun z => hb (by simp [z])) (fun z => hb (by simp [z])) q)) hf (Nat.le_refl _) new
    refine ⟨.ref s.heap.objs.size, _, I1, rfl, ⟨_, x, rfl, I.hok.fresh (Nat.le_refl _), rfl, fun ys hy => by rw [I.tuple_inj hy hq]; exact hx⟩, ⟨⟨y, ?_⟩, hs'.1.at fun o q => (sb.2 it (Ne.symm hne)).trans q, hne⟩, fun b hb => ?_⟩
    · have e1 : ((i + 1 : Nat) : Int) = (i : Int) + 1 := by omega
      rw [e1]; exact he'
    · have hb' : b < s.heap.objs.size := by
        have e' : b = e ∨ b = it := by simpa using hb
        rcases e' with z | z
        · rw [z]; exact hel
        · rw [z]; exact hil
      rw [upd_ne (Nat.ne_of_lt hb')]
      exact (hf b hb).1
  done := by
    intro X hP hw hK hc i pins s σ H E I hf st hg
    subst hP hw hK
    obtain ⟨⟨old, he⟩, hit, hne⟩ := st
    obtain ⟨xs, hq, hx⟩ := hg
    obtain ⟨its, rv, p, hz⟩ := I.tuple hq
    obtain ⟨f0, f1, f2, f3, f4, f5⟩ := hf it (by simp)
    have hl := rv.length
    have hai : a ≠ it := fun z => by
      obtain ⟨o, ho, hcl, _⟩ := id p
      obtain ⟨o2, ho2, hcl2, _⟩ := id hit
      rw [z] at ho
      have := ho.symm.trans ho2
      rw [Option.some.injEq] at this
      rw [← this, hcl] at hcl2
      exact absurd hcl2 (by decide)
    exact enum_endT (I.ok.hd hc) he hit p (by simp; omega) fun h' eb => ⟨rfl, I.turned (t' := s.toks) (fun b o hb q => eb b o hb q) f0 f1 f3 f4 f5⟩
  self := fun A i s Q E st h => let ⟨⟨_, he⟩, _⟩ := st; wpAny_pyIter_enum he h
def iEnumTt (K : PySem.W.Frag) (ta : TA) : TI := fun σ H R => ta σ H fun vs H1 => ∃ a xs, vs = [.ref a] ∧ SqT K H1 a xs ∧ R (IteT K a) H1
theorem pi_enumT {X : Cx} {e : Expr} {ta : TA} {p pos tpos : Pos} {elts : List Expr} {kk : Nat} (hg : Gl X "enumerate") (hm : X.mg "enumerate" = none) (ha : PA X [e] ta) (hs : starEach [e] X.env = [(false, eval e X.env)] := by rfl) :
    PI X (.Tuple elts kk tpos) (.Call (.Name "enumerate" p) [e] [] pos) (iEnumTt X.K ta) := by
  refine ⟨fun pins s σ H R I h => ?_⟩
  refine Call_ (ld_blt I hg hm boot_enumerate (PyProof.Rows.callWith_type1 (thn (ha.run pos pins s σ H _ I h) fun us s1 ⟨vs, H1, I1, r1, q1⟩ => ?_) hs rfl))
  obtain ⟨a, xs, ex, hq, q⟩ := q1
  subst ex
  cases r1 with
  | cons r rr =>
    cases rr
    cases r
    obtain ⟨its, rv, p', hz⟩ := I1.tuple hq
    refine call_enumT p' fun h' he hit hsz hk => wpAny_pyIter_enum he ?_
    have I2 : Inv X pins σ H1 { s1 with heap := h' } := I1.kept (t' := s1.toks) hk
    refine ⟨s1.heap.objs.size + 1, [s1.heap.objs.size + 1, s1.heap.objs.size], _, _, H1, rfl, I2, turn_enumT a (s1.heap.objs.size + 1) s1.heap.objs.size, ⟨⟨.none, he⟩, hit, Nat.succ_ne_self _⟩, fun b hb => ?_, q⟩
    have e' : b = s1.heap.objs.size + 1 ∨ b = s1.heap.objs.size := by simpa using hb
    have hle : s1.heap.objs.size ≤ b := by
      rcases e' with z | z
      · rw [z]; exact Nat.le_add_right _ _
      · rw [z]; exact Nat.le_refl _
    exact I1.fpOk hle (I1.hok.fresh hle)
section
variable {X : Cx} {T : Tb} {W : WX} {pos : Pos} {e : Expr} {fa : AF}
theorem jok_enumT {m : List Addr} {ah : AH} {H : Hp} {a : Addr} {vs : List V} {xs : List PyData} (S1 : Sim T m ah H) (n1 : ¬ LV T m ah a) (g1 : H a = some (.tup vs)) (a1 : PdA T.B (LV T m ah) H vs xs) : JOk T m ah H (enumD 0 xs) (IteT T.K a) := by
  intro m2 ah2 H2 i E S2
  have k1 := E.kept g1 n1
  have p1 := PdA.ext E S1.len _ _ a1
  refine ⟨fun d e => ?_, fun e => ⟨_, SqT.of k1, ?_⟩⟩
  · obtain ⟨z, e1, rfl⟩ := enum_get e
    obtain ⟨u1, hu1, q1⟩ := pdA_get p1 e1
    refine ⟨⟨_, _, SqT.of k1, hu1⟩, fun v H3 q => ?_⟩
    obtain ⟨Ta, x, rfl, hn, eH, f1⟩ := q
    have z1 := f1 _ (SqT.of k1)
    rw [hu1] at z1
    cases z1
    have := pair_new (u := .ref Ta) S2 hn eH (.int ((i : Nat) : Int)) q1
    simpa using this
  · rw [List.getElem?_eq_none_iff, enum_len] at e
    rw [a1.len]
    exact e
/-- of a tuple -/
def iEnumT (fa : AF) : IF := fun σ ah => (fa σ ah).bind fun ds ah1 => match ds with
  | [.p (.tuple xs)] => .ok (enumD 0 xs) ah1
  | _ => .bad
theorem di_enumT {p tpos : Pos} {elts : List Expr} {kk : Nat} (hT : TX X T) (hg : Gl X "enumerate") (hm : X.mg "enumerate" = none) (h : DA X T W [e] fa) (hs : starEach [e] X.env = [(false, eval e X.env)] := by rfl) :
    DI X T W (.Tuple elts kk tpos) (.Call (.Name "enumerate" p) [e] [] pos) (iEnumT fa) := by
  refine ⟨(pi_enumT hg hm h.h hs).imp fun σ H R q => ?_⟩
  obtain ⟨m, ah, σd, S, En, q⟩ := q
  refine ⟨m, ah, σd, S, En, (Ok.bind S.len q).mono fun m1 ah1 H1 ds E1 S1 h1 vs r => ?_⟩
  split at h1
  · rename_i xs
    cases r with
    | cons r1 r2 =>
      cases r2
      cases r1 with
      | tup n1 g1 a1 =>
        refine ⟨_, _, rfl, SqT.of g1, ?_⟩
        rw [← hT.K]
        exact h1.here S1 _ ⟨jok_enumT S1 n1 g1 a1, fun D o hD => jok_enumT (T := T.more D) (S1.more hD) (notLV_more hD _ (by rw [g1]; simp) n1) (grow_upd hD _ _ g1) (pdA_more hD a1)⟩
  · exact False.elim h1
end
end DL

set_option Elab.async false
set_option linter.all false
set_option maxRecDepth 100000
/-! DLr: defs as values; a dict display of one pair. -/
namespace DL
open PySem PySem.Spec PyProof.Rows L2
def fF (n : Nat) : EF := fun _ ah => .ok (.f n) ah
def fCallV (tab : Nat → Option DF) (i : Nat) (fa : AF) : EF := fun σ ah => match σ[i]? with
  | some (some (.f n)) => match tab n with
    | some F => (fa σ ah).bind fun ds ah1 => F ds ah1
    | none => .bad
  | _ => .bad
section
variable {X : Cx} {T T0 : Tb} {W : WX} {k : Nat} {pos p : Pos} {e : Expr} {es : List Expr} {fa : AF}
theorem de_fname {n : Nat} {x : Str} {f : Addr} (c : CxO X T0 T W k) (hg : Gl X x) (hm : X.mg x = some (.ref f)) (hf : T0.ft n = f) (hd : (x == ("__debug__" : Str)) = false := by decide) : DE X T W (.Name x pos) (fF n) := by
  have hT : T.ft = T0.ft := by obtain ⟨G, rfl⟩ := c.g; rfl
  refine ⟨(pe_glob (v := .ref f) hg hm rfl hd).imp fun σ H Q q => ?_⟩
  obtain ⟨m, ah, σd, S, En, q⟩ := q
  have q' := Ok.here (a := (.f n : D)) S q
  exact q' _ (by show V.ref f = .ref (T.ft n); rw [hT, hf])
theorem de_callVar {tab : Nat → Option DF} {i : Nat} {x : Str} (c : CxO X T0 T W k) (hN : X.N[i]? = some x) (hv : Vis X.env.scope x) (ha : DA X T W (e :: es) fa) (hl : ∀ σ ah ds ah', fa σ ah = .ok ds ah' → ds.length = (e :: es).length)
    (A : ∀ n F, tab n = some F → ∃ j nm fd ps, j ≤ k ∧ Def T0 X.mg X.base j nm (T0.ft n) fd ps F ∧ ps.length = (e :: es).length)
    (hdb : (x == ("__debug__" : Str)) = false := by decide) (hcd : (x == ("__classdict__" : Str)) = false := by decide)
    (he : starEach (e :: es) X.env = (false, eval e X.env) :: starEach es X.env := by rfl) (hpl : (backTo pos (starEach es X.env)).any (·.1) = false := by rfl) :
    DE X T W (.Call (.Name x p) (e :: es) [] pos) (fCallV tab i fa) := by
  have hft : T.ft = T0.ft := by obtain ⟨G, rfl⟩ := c.g; rfl
  have hK : T0.K = X.K := by
    have := c.t.K
    obtain ⟨G, h⟩ := c.g
    rw [h] at this
    exact this
  refine ⟨⟨fun pins s σ H Q I h => ?_⟩⟩
  obtain ⟨m, ah, σd, S, En, q⟩ := h
  unfold fCallV at q
  split at q
  · rename_i n hn
    split at q
    · rename_i F hF
      obtain ⟨j, nm, fd, ps, hj, d, hps⟩ := A n F hF
      obtain ⟨v, hs, hv2⟩ := En.2 i _ hn
      have hv2 : v = .ref (T.ft n) := hv2
      rw [hft] at hv2
      subst hv2
      obtain ⟨G, hG⟩ := c.g
      subst hG
      have ok := d.fn.ok G
      have e1 : T0.B.P = X.prog := c.t.P
      have e2 : T0.B.w = X.w := c.t.w
      have ok : FnOk X.prog X.w X.K X.mg X.base (L2.CX X.prog X.w) j (T0.ft n) fd ps (spD { T0 with G := G } ps.length F) := by rw [← e1, ← e2, ← hK]; exact ok
      refine wpAny_Call_Name_kw (thn ((pe_var (pos := p) hN hv hdb hcd).run pins s σ H (fun v H1 => v = .ref (T0.ft n) ∧ H1 = H) I ⟨.ref (T0.ft n), hs, rfl, rfl⟩) fun u s1 ⟨v, H1, I1, r1, q1⟩ => ?_)
      obtain ⟨rfl, rfl⟩ := q1
      cases r1
      have t : tA { T0 with G := G } W fa σ H1 fun vs H2 => spD { T0 with G := G } ps.length F vs H2 Q (WE W σ) := by
        refine ⟨m, ah, σd, S, En, ?_⟩
        have q' := Ok.bind S.len q
        cases z : fa σd ah with
        | bad => rw [z] at q'; exact q'
        | ex c ah' => rw [z] at q'; exact q'
        | ok ds ah' =>
          rw [z] at q'
          exact fun m1 H2 E1 S1 vs r => ⟨m1, ah', ds, S1, r, (hl _ _ _ _ z).trans hps.symm, ok_call (q' m1 H2 E1 S1)⟩
      refine PySem.W.callWith_K (h₀ := X.base) I1.ok.mod.kin (by rw [← hK]; exact d.kp) (thn (ha.h.run pos pins s1 σ _ _ I1 t) fun us s2 ⟨vs, H2, I2, r, q⟩ => ⟨I2.kIn, ?_⟩) he hpl
      exact run_fnS ok (c.hr.mono hj) (by rw [← hK]; exact d.b) (passAt c.tk σ) I2 r q
    · exact False.elim q
  · exact False.elim q
/-- {k: v} -/
def fDisp1 (fk fv : EF) : EF := fun σ ah => (fk σ (ah ++ [.dct []])).bind fun k ah1 => (fv σ ah1).bind fun v ah2 => match ah2[ah.length]? with
  | some (.dct []) => match gDPut (.r ah.length) k v ah2 with
    | some ah3 => .ok (.r ah.length) ah3
    | none => .bad
  | _ => .bad
theorem eval_disp1 {ke ve : Expr} {env : PySem.Env} : eval (.Dict [some ke] [ve] pos) env = (do
    standAt pos
    dictDisplay ([(eval ke env, (do let x ← eval ve env; standAt pos; pure x : Sem Value))].map fun p => (some p.1, p.2))) := by
  rw [arm_eval_Dict]
  rfl
theorem de_disp1 {ke ve : Expr} {fk fv : EF} (hT : TX X T) (hk : DE X T W ke fk) (hv : DE X T W ve fv) : DE X T W (.Dict [some ke] [ve] pos) (fDisp1 fk fv) := by
  refine ⟨⟨fun pins s σ H Q I h => ?_⟩⟩
  obtain ⟨m, ah, σd, S, En, h⟩ := h
  have hroom : (nestedKind X.prog X.w).room X.A := by
    show X.A.units + 8 < cLine
    have := hT.un
    omega
  have hn : H s.heap.objs.size = none := I.hok.fresh (Nat.le_refl _)
  have I1 : Inv X pins σ (upd H s.heap.objs.size (.ext fun h => h.get? s.heap.objs.size = some emptyD)) { s with heap := s.heap.push emptyD } :=
    I.laid (t' := s.toks) (fun _ _ q => Heap.get?_push_of_some _ q) (Nat.le_refl _) (ext_ok (Heap.get?_push_size _ rfl))
  have E0 := Ext.new (T := T) (o := HO.ext fun h => h.get? s.heap.objs.size = some emptyD) (x := .dct []) S hn
  have S0 : Sim T (m ++ [s.heap.objs.size]) (ah ++ [.dct []]) (upd H s.heap.objs.size (.ext fun h => h.get? s.heap.objs.size = some emptyD)) := S.new hn ⟨[], draw_new upd_same (sys_ne I), .nil⟩
  have En0 := En.ext E0 S.len
  have hat : (m ++ [s.heap.objs.size])[ah.length]? = some s.heap.objs.size := by
    rw [← S.len, List.getElem?_append_right (Nat.le_refl _)]
    simp
  have h' : Ok T W σ (m ++ [s.heap.objs.size]) (ah ++ [.dct []]) (upd H s.heap.objs.size (.ext fun h => h.get? s.heap.objs.size = some emptyD)) (fDisp1 fk fv σd ah) (fun m' ah' H' d => ∀ v, RD T m' ah' H' v d → Q v H') := by
    cases z : fDisp1 fk fv σd ah with
    | bad => rw [z] at h; exact h
    | ok a ah' => rw [z] at h; exact fun m' H' E' S' => h m' H' (E0.trans E' S.len S0) S'
    | ex c ah' => rw [z] at h; exact fun m' H' E' S' => h m' H' (E0.trans E' S.len S0) S'
  clear h
  unfold fDisp1 at h'
  rw [eval_disp1]
  rw [dictDisplay_pairs _ (by simp) (by simp)]
  refine wpAny_bind (wpAny_standAt ?_)
  refine wpAny_bind ?_
  refine wpAny_subDictH (knd := nestedKind X.prog X.w) (Q := fun d s' => wpAny (model X.prog X.w) X.A (pure (Value.ref d)) (EP X pins σ Q) X.xe s') hroom (Nat.le_of_ble_eq_true rfl) ?_
  have t : tD T W fk σ (upd H s.heap.objs.size (.ext fun h => h.get? s.heap.objs.size = some emptyD)) fun y H1 => tD T W fv σ H1 fun z H2 => ∃ m2 ah2 d v ah3, Sim T m2 ah2 H2 ∧ RD T m2 ah2 H2 y d ∧ RD T m2 ah2 H2 z v ∧ m2[ah.length]? = some s.heap.objs.size ∧ ah2[ah.length]? = some (.dct []) ∧ gDPut (.r ah.length) d v ah2 = some ah3 ∧ Ok T W σ m2 ah2 H2 (.ok (.r ah.length) ah3) (fun m' ah' H' d => ∀ v, RD T m' ah' H' v d → Q v H') := by
    refine ⟨_, _, σd, S0, En0, (Ok.bind S0.len h').mono fun m1 ah1 H1 d E1 S1 h1 y ry => ?_⟩
    refine ⟨m1, ah1, σd, S1, En0.ext E1 S0.len, (Ok.bind S1.len h1).mono fun m2 ah2 H2 v E2 S2 h2 z rz => ?_⟩
    split at h2
    · rename_i hd
      split at h2
      · rename_i ah3 hp
        exact ⟨m2, ah2, d, v, ah3, S2, RD.ext E2 S1.len ry, rz, E2.at_ (E1.at_ hat), hd, hp, h2⟩
      · exact False.elim h2
    · exact False.elim h2
  refine evalPairs_cons (thn (hk.h.run pins _ σ _ _ I1 t) fun u s1 ⟨y, H1, I2, ry, t1⟩ => wpAny_bind (thn (hv.h.run pins s1 σ H1 _ I2 t1) fun r s2 ⟨z, H2, I3, rz, m2, ah2, d, v, ah3, S2, g1, g2, ha, hd, hp, q⟩ => ?_))
  refine wpAny_bind (wpAny_standAt (wpAny_pure (evalPairs_nil ?_)))
  obtain ⟨xs, x1, x2⟩ := S2.at_ _ _ _ ha hd
  cases x2
  have x1' := x1
  obtain ⟨o, es2, ep, ys, hH, hx, hdat, he, hnn, hs, hz, hpp⟩ := x1
  cases hpp
  have ho : s2.heap.get? s.heap.objs.size = some o := (I3.hok _ _ hH).1
  unfold gDPut at hp
  split at hp
  case h_2 => cases hp
  rename_i i kd hi
  cases hi
  rw [hd] at hp
  dsimp only at hp
  split at hp
  case isFalse => cases hp
  rename_i cc
  cases hp
  rw [Bool.and_eq_true, decide_eq_true_eq] at cc
  obtain ⟨ka, rfl, hkk⟩ := keyOk_is I3 g1 cc.1
  cases ry
  refine ⟨[(nk kd, ka, r)], ⟨rfl, rfl, hkk, trivial⟩, ⟨o, es2, ep, ho, hx, hdat, he, (fun x hx => nomatch hx), List.nodup_nil⟩, fun h3 tk hm sb => wpAny_pure ?_⟩
  obtain ⟨o', es', ep', ho', hx', hd', he', _, hn'⟩ := hm
  have I' : Inv X pins σ (upd H2 s.heap.objs.size (.ext fun h => h.get? s.heap.objs.size = some o')) { s2 with heap := h3, toks := tk } :=
    I3.write (t' := tk) (e := s.heap.objs.size) (by rw [hH]; exact True.intro) (.inl rfl) (fun b ob hb e => (sb.2 b hb).trans e) ⟨o', ho'⟩ (ext_ok ho')
  have hkp : kput ([] : List (PyData × D)) kd v = [(kd, v)] := rfl
  have E' := Ext.write (o := HO.ext fun h => h.get? s.heap.objs.size = some o') (y := .dct [(kd, v)]) S2 ha hd (by intro z; cases z)
  have hst : storedAllH ([] : List (NestedKey × Addr × Value)) [(nk kd, ka, r)] = [(nk kd, ka, r)] := rfl
  rw [hst] at he' hn'
  have S' := S2.write (o := HO.ext fun h => h.get? s.heap.objs.size = some o') (y := .dct [(kd, v)]) ha hd (by intro z; cases z) ⟨[(nk kd, ka, z)], ⟨o', es', ep', _, upd_same, hx', hd', by rw [hT.P, hT.w]; exact he', hn', hs, by rw [sizeLine_eq]; exact (show 1 ≤ 16777216 by decide), .cons ⟨rfl, rfl, rz⟩ .nil⟩, .cons ⟨rfl, cc.1, RD.ext E' S2.len g1, RD.ext E' S2.len g2⟩ .nil⟩
  rw [hkp] at q
  exact ⟨.ref s.heap.objs.size, _, I', rfl, q m2 _ E' S' _ ⟨_, ha, rfl⟩⟩
end
end DL

set_option Elab.async false
set_option linter.all false
set_option maxRecDepth 100000
/-! ML: squares, floors, stones as data. -/
namespace DL
open PySem PySem.Spec PyProof.Rows L2
abbrev Sq := Int × Int
def esq (s : Sq) : PyData := .tuple [.int s.1, .int s.2]
def efl (l : List Sq) : PyData := .tuple (l.map esq)
theorem eqv_esq (a b : Sq) : PyData.eqv (esq a) (esq b) = decide (a = b) := by
  obtain ⟨a1, a2⟩ := a
  obtain ⟨b1, b2⟩ := b
  simp only [esq, PyData.eqv, PyData.eqvAll, Bool.and_true, Prod.mk.injEq]
  by_cases h1 : a1 = b1 <;> by_cases h2 : a2 = b2 <;> simp [h1, h2]
theorem any_esq (l : List Sq) (a : Sq) : ((l.map esq).any fun y => PyData.eqv y (esq a)) = decide (a ∈ l) := by
  induction l with
  | nil => rfl
  | cons b r ih =>
    rw [List.map_cons, List.any_cons, ih, eqv_esq]
    by_cases h : b = a
    · subst h; simp
    · have h' : a ≠ b := fun z => h z.symm
      simp [h, h']
theorem lay_esqs : ∀ l : List Sq, PyData.canLayAll0 (l.map esq) = true
  | [] => rfl
  | a :: r => by
    rw [List.map_cons, PyData.canLayAll0, lay_esqs r]
    rfl
theorem depth_esqs : ∀ l : List Sq, PyData.depthAll (l.map esq) ≤ 1
  | [] => by simp [PyData.depthAll]
  | a :: r => by
    have := depth_esqs r
    have h : (esq a).depth ≤ 1 := by simp [esq, PyData.depth, PyData.depthAll]
    simp only [List.map_cons, PyData.depthAll]
    omega
theorem shaped_esq (a : Sq) : SeqAt.shaped (esq a) = true := by
  simp [SeqAt.shaped, esq, PyData.canLay0, PyData.canLayAll0, PyData.depth, PyData.depthAll]
theorem shaped_efl (l : List Sq) : SeqAt.shaped (efl l) = true := by
  have := depth_esqs l
  unfold SeqAt.shaped efl
  rw [PyData.canLay0, lay_esqs, PyData.depth, Bool.true_and]
  exact decide_eq_true (by omega)
theorem shaped_tup (l : List Sq) : SeqAt.shaped (.tuple (l.map esq)) = true := shaped_efl l
theorem shaped_lst (l : List Sq) : SeqAt.shaped (.list (l.map esq)) = true := by
  have := depth_esqs l
  unfold SeqAt.shaped
  rw [PyData.canLay0, lay_esqs, PyData.depth, Bool.true_and]
  exact decide_eq_true (by omega)
/-! keys -/
theorem nk_esq (a b : Sq) : nk (esq a) = nk (esq b) ↔ a = b := by
  obtain ⟨a1, a2⟩ := a
  obtain ⟨b1, b2⟩ := b
  simp [esq, nk, nks]
theorem nks_esqs : ∀ l k : List Sq, nks (l.map esq) = nks (k.map esq) ↔ l = k
  | [], [] => by simp
  | [], b :: k => by simp [nks]
  | a :: l, [] => by simp [nks]
  | a :: l, b :: k => by
    rw [List.map_cons, List.map_cons, nks, nks, List.cons.injEq, List.cons.injEq, nk_esq, nks_esqs l k]
theorem nk_efl (l k : List Sq) : nk (efl l) = nk (efl k) ↔ l = k := by
  simp only [efl, nk, NestedKey.tup.injEq, nks_esqs]
theorem keyables_esqs : ∀ l : List Sq, keyables (l.map esq) = true
  | [] => rfl
  | a :: r => by
    rw [List.map_cons, keyables, keyables_esqs r]
    rfl
theorem nkdepth_esqs : ∀ l : List Sq, NestedKey.depthAll (nks (l.map esq)) ≤ 1
  | [] => by simp [nks, NestedKey.depthAll]
  | a :: r => by
    have := nkdepth_esqs r
    have h : (nk (esq a)).depth ≤ 1 := by simp [esq, nk, nks, NestedKey.depth, NestedKey.depthAll]
    simp only [List.map_cons, nks, NestedKey.depthAll]
    omega
theorem keyOk_esq (a : Sq) : keyOk (esq a) = true := by
  simp [keyOk, isTup, esq, keyable, keyables, nk, nks, NestedKey.depth, NestedKey.depthAll]
theorem keyOk_efl (l : List Sq) : keyOk (efl l) = true := by
  have := nkdepth_esqs l
  simp only [keyOk, efl, isTup, keyable, keyables_esqs, Bool.true_and, nk, NestedKey.depth, decide_eq_true_eq]
  omega
end DL

set_option Elab.async false
set_option linter.all false
set_option maxRecDepth 100000
/-! DLs: sorted(set(squares)), len(set(squares)). -/
namespace DL
open PySem PySem.Spec PyProof.Rows L2
def lxS (a b : Sq) : Prop := a.1 < b.1 ∨ (a.1 = b.1 ∧ a.2 < b.2)
instance (a b : Sq) : Decidable (lxS a b) := by unfold lxS; infer_instance
theorem lxS_irr {a : Sq} (h : lxS a a) : False := by unfold lxS at h; omega
theorem lxS_trans {a b c : Sq} (h : lxS a b) (k : lxS b c) : lxS a c := by unfold lxS at *; omega
theorem lxS_tri (a b : Sq) (h : ¬ lxS b a) : a = b ∨ lxS a b := by
  obtain ⟨a1, a2⟩ := a
  obtain ⟨b1, b2⟩ := b
  unfold lxS at *
  rw [Prod.mk.injEq]
  simp only at *
  omega
def ddS : List Sq → List Sq
  | [] => []
  | a :: r => if a ∈ ddS r then ddS r else a :: ddS r
theorem ddS_mem {x : Sq} : ∀ {l : List Sq}, x ∈ ddS l ↔ x ∈ l
  | [] => by simp [ddS]
  | a :: r => by
    have ih := ddS_mem (x := x) (l := r)
    unfold ddS
    split
    · rename_i c
      rw [ih, List.mem_cons]
      constructor
      · exact .inr
      · rintro (rfl | h)
        · exact ddS_mem.mp c
        · exact h
    · rw [List.mem_cons, List.mem_cons, ih]
theorem ddS_nd : ∀ l : List Sq, (ddS l).Nodup
  | [] => List.nodup_nil
  | a :: r => by
    unfold ddS
    split
    · exact ddS_nd r
    · rename_i c
      exact List.nodup_cons.mpr ⟨c, ddS_nd r⟩
def sdd (l : List Sq) : List Sq := (ddS l).mergeSort fun a b => !decide (lxS b a)
theorem sdd_perm (l : List Sq) : (sdd l).Perm (ddS l) := List.mergeSort_perm ..
theorem sdd_mem {x : Sq} {l : List Sq} : x ∈ sdd l ↔ x ∈ l := by rw [(sdd_perm l).mem_iff, ddS_mem]
theorem sdd_up (l : List Sq) : (sdd l).Pairwise lxS := by
  have h1 : (sdd l).Pairwise fun a b => (!decide (lxS b a)) = true := List.pairwise_mergeSort (fun a b c h k => by
    simp only [Bool.not_eq_true', decide_eq_false_iff_not] at *
    intro z
    rcases lxS_tri a b h with rfl | h
    · exact k z
    · rcases lxS_tri b c k with rfl | k
      · exact lxS_irr (lxS_trans z h)
      · exact lxS_irr (lxS_trans z (lxS_trans h k))) (fun a b => by
    by_cases z : lxS b a
    · have : ¬ lxS a b := fun y => lxS_irr (lxS_trans z y)
      simp [this]
    · simp [z]) (ddS l)
  have h2 : (sdd l).Nodup := (sdd_perm l).nodup_iff.mpr (ddS_nd l)
  unfold List.Nodup at h2
  refine (h1.and h2).imp fun {a b} ⟨x, y⟩ => ?_
  simp only [Bool.not_eq_true', decide_eq_false_iff_not] at x
  rcases lxS_tri a b x with z | z
  · exact absurd z y
  · exact z
theorem lxS_nd {l : List Sq} (h : l.Pairwise lxS) : l.Nodup := by
  unfold List.Nodup
  exact h.imp fun {a b} hab (z : a = b) => by subst z; exact lxS_irr hab
theorem sdd_uniq {k l : List Sq} (h : k.Pairwise lxS) (e : ∀ x, x ∈ k ↔ x ∈ l) : k = sdd l :=
  List.Perm.eq_of_pairwise (fun a b _ _ x y => (lxS_irr (lxS_trans x y)).elim) h (sdd_up l) ((List.perm_ext_iff_of_nodup (lxS_nd h) (lxS_nd (sdd_up l))).mpr fun x => by rw [e, sdd_mem])
def decS : PyData → Option Sq
  | .tuple [.int a, .int b] => if 0 ≤ a ∧ a < 64 ∧ 0 ≤ b ∧ b < 64 then some (a, b) else none
  | _ => none
def decL : List PyData → Option (List Sq)
  | [] => some []
  | x :: r => match decS x, decL r with
    | some s, some l => some (s :: l)
    | _, _ => none
theorem decS_some {x : PyData} {s : Sq} (h : decS x = some s) : x = esq s ∧ 0 ≤ s.1 ∧ s.1 < 64 ∧ 0 ≤ s.2 ∧ s.2 < 64 := by
  unfold decS at h
  split at h
  · split at h
    · rename_i c
      cases h
      exact ⟨rfl, c⟩
    · cases h
  · cases h
theorem decS_esq {s : Sq} (h : 0 ≤ s.1 ∧ s.1 < 64 ∧ 0 ≤ s.2 ∧ s.2 < 64) : decS (esq s) = some s := by
  show (if 0 ≤ s.1 ∧ s.1 < 64 ∧ 0 ≤ s.2 ∧ s.2 < 64 then some (s.1, s.2) else none) = _
  rw [if_pos h]
theorem decL_esqs : ∀ {l : List Sq}, (∀ s ∈ l, 0 ≤ s.1 ∧ s.1 < 64 ∧ 0 ≤ s.2 ∧ s.2 < 64) → decL (l.map esq) = some l
  | [], _ => rfl
  | s :: l, h => by
    rw [List.map_cons, decL, decS_esq (h s List.mem_cons_self), decL_esqs fun t ht => h t (List.mem_cons_of_mem _ ht)]
def srcOf (ah : AH) : D → Option (List PyData)
  | .p (.list xs) => some xs
  | .r i => match ah[i]? with
    | some (.lst ds) => pures ds
    | _ => none
  | _ => none
theorem src_pd {T : Tb} {m : List Addr} {ah : AH} {H : Hp} (S : Sim T m ah H) {v : V} {d : D} {xs : List PyData} (r : RD T m ah H v d) (e : srcOf ah d = some xs) : ∃ a vs, v = .ref a ∧ H a = some (.lst vs) ∧ PdA T.B (LV T m ah) H vs xs := by
  cases d with
  | p x =>
    cases x with
    | list ys =>
      cases e
      cases r with
      | lst n h a => exact ⟨_, _, rfl, h, a⟩
    | _ => cases e
  | r i =>
    obtain ⟨b, h1, rfl⟩ := r
    unfold srcOf at e
    cases q : ah[i]? with
    | none => simp only [q] at e; cases e
    | some o =>
      simp only [q] at e
      cases o with
      | dead => cases e
      | dct _ => cases e
      | lst l =>
        obtain ⟨vs, g1, g2⟩ := S.at_ i b _ h1 q
        exact ⟨b, vs, rfl, g1, pures_pd g2 e⟩
  | f _ => cases e
  | s _ => cases e
theorem pd_esq {B : Tw} {L : Addr → Prop} {H : Hp} {v : V} {s : Sq} (h : Pd B L H v (esq s)) : ∃ a, v = .ref a ∧ H a = some (.tup [.int s.1, .int s.2]) := by
  cases h with
  | tup n r a =>
    cases a with
    | cons h1 a =>
      cases a with
      | cons h2 a =>
        cases a
        cases h1
        cases h2
        exact ⟨_, rfl, r⟩
theorem pda_ks {B : Tw} {L : Addr → Prop} {H : Hp} : ∀ {xs : List PyData} {vs : List V} {l : List Sq}, PdA B L H vs xs → decL xs = some l →
    ∃ ks : List (Addr × List Int), vs = ks.map (fun p => V.ref p.1) ∧ ks.map (·.2) = l.map (fun s => [s.1, s.2]) ∧ ∀ p ∈ ks, ∃ s : Sq, s ∈ l ∧ p.2 = [s.1, s.2] ∧ Pd B L H (.ref p.1) (esq s) ∧ 0 ≤ s.1 ∧ s.1 < 64 ∧ 0 ≤ s.2 ∧ s.2 < 64
  | [], _, _, .nil, e => by
    cases e
    exact ⟨[], rfl, rfl, fun p hp => nomatch hp⟩
  | x :: xs, _, l, .cons h t, e => by
    unfold decL at e
    split at e
    · rename_i s l' e1 e2
      cases e
      obtain ⟨rfl, b⟩ := decS_some e1
      obtain ⟨ks, k1, k2, k3⟩ := pda_ks t e2
      obtain ⟨a, rfl, _⟩ := pd_esq h
      refine ⟨(a, [s.1, s.2]) :: ks, by rw [List.map_cons, k1], by rw [List.map_cons, List.map_cons, k2], fun p hp => ?_⟩
      rcases List.mem_cons.mp hp with rfl | hp
      · exact ⟨s, List.mem_cons_self, rfl, h, b⟩
      · obtain ⟨s', z1, z2⟩ := k3 p hp
        exact ⟨s', List.mem_cons_of_mem _ z1, z2⟩
    · cases e
def fSSet (fe : EF) : EF := fun σ ah => (fe σ ah).bind fun d ah1 => match srcOf ah1 d with
  | some xs => match decL xs with
    | some l => if l.length < 64 then .ok (.p (.list ((sdd l).map esq))) ah1 else .bad
    | none => .bad
  | none => .bad
def fLSet (fe : EF) : EF := fun σ ah => (fe σ ah).bind fun d ah1 => match srcOf ah1 d with
  | some xs => match decL xs with
    | some l => if l.length < 64 then .ok (.p (.int (sdd l).length)) ah1 else .bad
    | none => .bad
  | none => .bad
theorem two_inj {s t : Sq} (h : ([s.1, s.2] : List Int) = [t.1, t.2]) : s = t := by
  injection h with h1 h2
  injection h2 with h2 _
  exact Prod.ext h1 h2
/-- what is picked out of the items -/
theorem pick_pd {B : Tw} {L : Addr → Prop} {H : Hp} : ∀ {ps : List (Addr × List Int)}, (∀ p ∈ ps, ∃ s : Sq, p.2 = [s.1, s.2] ∧ Pd B L H (.ref p.1) (esq s)) → ∃ k : List Sq, ps.map (·.2) = k.map (fun s => [s.1, s.2]) ∧ PdA B L H (ps.map fun p => V.ref p.1) (k.map esq)
  | [], _ => ⟨[], rfl, .nil⟩
  | p :: ps, h => by
    obtain ⟨s, h1, h2⟩ := h p List.mem_cons_self
    obtain ⟨k, k1, k2⟩ := pick_pd fun q hq => h q (List.mem_cons_of_mem _ hq)
    exact ⟨s :: k, by rw [List.map_cons, List.map_cons, k1, h1], .cons h2 k2⟩
section
variable {X : Cx} {T : Tb} {W : WX} {e : Expr} {fe : EF} {p p2 q pos : Pos}
theorem de_sset (hT : TX X T) (hg1 : Gl X "sorted") (hm1 : X.mg "sorted" = none) (hg2 : Gl X "set") (hm2 : X.mg "set" = none) (he : DE X T W e fe)
    (s1 : starEach [e] X.env = (false, eval e X.env) :: starEach [] X.env := by rfl) (s2 : starEach [.Call (.Name "set" p2) [e] [] q] X.env = (false, eval (.Call (.Name "set" p2) [e] [] q) X.env) :: starEach [] X.env := by rfl) :
    DE X T W (.Call (.Name "sorted" p) [.Call (.Name "set" p2) [e] [] q] [] pos) (fSSet fe) := by
  have hu : X.A.units + 64 < cLine := by have := hT.un; omega
  have i1 := pe_callTy (pos := q) (p := p2) (cr_setOfT hT.calm hu) hg2 hm2 PyProof.Rows.boot_set (pa_cons he.h pa_nil s1) (by decide) (by decide) s1 rfl
  refine ⟨(pe_callB (pos := pos) (p := p) (cr_sortedT hT.calm) hg1 hm1 PyProof.Rows.boot_sorted (pa_cons i1 pa_nil s2) (by decide) (by decide) s2 rfl).imp fun σ H Q h => ?_⟩
  obtain ⟨m, ah, σd, S, En, h⟩ := h
  refine ⟨m, ah, σd, S, En, (Ok.bind S.len h).mono fun m1 ah1 H1 d E1 S1 h1 v r => ?_⟩
  split at h1
  case h_2 => exact False.elim h1
  rename_i xs hx
  split at h1
  case h_2 => exact False.elim h1
  rename_i l hl
  split at h1
  case isFalse => exact False.elim h1
  rename_i hlen
  obtain ⟨a, vs, rfl, ha, hp⟩ := src_pd S1 r hx
  obtain ⟨ks, k1, k2, k3⟩ := pda_ks hp hl
  subst k1
  have hkl : ks.length = l.length := by have := congrArg List.length k2; simpa using this
  have hsq : ∀ p ∈ ks, SqT X.K H1 p.1 (p.2.map V.int) := fun p hp' => by
    obtain ⟨s, _, z1, z2, _⟩ := k3 p hp'
    obtain ⟨b, hb, z3⟩ := pd_esq z2
    cases hb
    rw [z1]
    exact SqT.of z3
  refine ⟨a, ks, rfl, SqL.of ha, hsq, by omega, fun b L hb hL1 hL2 => ?_⟩
  have hsq2 : ∀ p ∈ L, SqT X.K (upd H1 b (SetTO X.prog X.w b L)) p.1 (p.2.map V.int) := fun p hp' => by
    obtain ⟨s, _, z1, z2, _⟩ := k3 p (hL1 p hp')
    obtain ⟨c, hc, z3⟩ := pd_esq z2
    cases hc
    rw [z1]
    exact SqT.of (grow_upd hb _ _ z3)
  refine ⟨b, L, 2, 64, rfl, upd_same, hsq2, by decide, fun p hp' => ?_, fun L' c pm nd _ pw hc => ?_⟩
  · obtain ⟨s, _, z1, _, b1, b2, b3, b4⟩ := k3 p (hL1 p hp')
    rw [z1]
    refine ⟨rfl, fun x hx' => ?_⟩
    simp only [List.mem_cons, List.not_mem_nil, or_false] at hx'
    rcases hx' with rfl | rfl
    · exact ⟨b1, b2⟩
    · exact ⟨b3, b4⟩
  · have S2 := S1.grow (grow_upd (o := SetTO X.prog X.w b L) hb)
    have E2 : Ext m1 ah1 H1 m1 ah1 (upd H1 b (SetTO X.prog X.w b L)) := Ext.grow (grow_upd hb)
    have hin : ∀ p ∈ L', p ∈ ks := fun p hp' => hL1 p (pm.mem_iff.mp hp')
    obtain ⟨k, g1, g2⟩ := pick_pd (B := T.B) (L := LV T m1 ah1) (H := H1) (ps := L') fun p hp' => by
      obtain ⟨s, _, z1, z2, _⟩ := k3 p (hin p hp')
      exact ⟨s, z1, z2⟩
    have hbd : ∀ s ∈ k, s ∈ l ∧ 0 ≤ s.1 ∧ s.1 < 64 ∧ 0 ≤ s.2 ∧ s.2 < 64 := fun s hs => by
      have : ([s.1, s.2] : List Int) ∈ L'.map (·.2) := by rw [g1]; exact List.mem_map.mpr ⟨s, hs, rfl⟩
      obtain ⟨p, hp', e'⟩ := List.mem_map.mp this
      obtain ⟨t, z0, z1, _, z3⟩ := k3 p (hin p hp')
      rw [z1] at e'
      have := two_inj e'
      subst this
      exact ⟨z0, z3⟩
    have hk : k = sdd l := by
      refine sdd_uniq ?_ fun x => ⟨fun hx' => (hbd x hx').1, fun hx' => ?_⟩
      · have pw2 : (L'.map (·.2)).Pairwise fun a b => TS.code 64 a ≤ TS.code 64 b := by rw [List.pairwise_map]; exact pw
        have nd2 := nd
        unfold List.Nodup at nd2
        rw [g1, List.pairwise_map] at pw2 nd2
        refine (List.Pairwise.and_mem.mp (pw2.and nd2)).imp fun {x y} ⟨hx', hy', h1, h2⟩ => ?_
        obtain ⟨_, a1, a2, a3, a4⟩ := hbd x hx'
        obtain ⟨_, b1, b2, b3, b4⟩ := hbd y hy'
        exact pair_lt h1 h2 ⟨a1, a2⟩ ⟨a3, a4⟩ ⟨b1, b2⟩ ⟨b3, b4⟩
      · have : ([x.1, x.2] : List Int) ∈ ks.map (·.2) := by rw [k2]; exact List.mem_map.mpr ⟨x, hx', rfl⟩
        obtain ⟨p, hp', e'⟩ := List.mem_map.mp this
        have h2 := hL2 p hp'
        have h3 : p.2 ∈ L'.map (·.2) := (pm.map (·.2)).mem_iff.mpr h2
        rw [g1] at h3
        obtain ⟨y, hy, e2⟩ := List.mem_map.mp h3
        have : y = x := two_inj (e2.trans e')
        rw [← this]
        exact hy
    subst hk
    have E3 : Ext m1 ah1 (upd H1 b (SetTO X.prog X.w b L)) m1 ah1 (upd (upd H1 b (SetTO X.prog X.w b L)) c (.lst (L'.map fun q => V.ref q.1))) := Ext.grow (grow_upd hc)
    have S3 := S2.grow (grow_upd (o := HO.lst (L'.map fun q => V.ref q.1)) hc)
    refine h1 m1 _ (E2.trans E3 S1.len S2) S3 _ (.lst (notLive_fresh S2 hc) upd_same (PdA.ext (E2.trans E3 S1.len S2) S1.len _ _ g2))
theorem de_lset (hT : TX X T) (hg1 : Gl X "len") (hm1 : X.mg "len" = none) (hg2 : Gl X "set") (hm2 : X.mg "set" = none) (he : DE X T W e fe)
    (s1 : starEach [e] X.env = (false, eval e X.env) :: starEach [] X.env := by rfl) (s2 : starEach [.Call (.Name "set" p2) [e] [] q] X.env = (false, eval (.Call (.Name "set" p2) [e] [] q) X.env) :: starEach [] X.env := by rfl) :
    DE X T W (.Call (.Name "len" p) [.Call (.Name "set" p2) [e] [] q] [] pos) (fLSet fe) := by
  have hu : X.A.units + 64 < cLine := by have := hT.un; omega
  have i1 := pe_callTy (pos := q) (p := p2) (cr_setOfT hT.calm hu) hg2 hm2 PyProof.Rows.boot_set (pa_cons he.h pa_nil s1) (by decide) (by decide) s1 rfl
  have cl : CallR X (.builtin "len") (fun vs H Q => ∃ (a : Addr) (L : List (Addr × List Int)), vs = [V.ref a] ∧ H a = some (SetTO X.prog X.w a L) ∧ (∀ p ∈ L, SqT X.K H p.1 (p.2.map V.int)) ∧ ((L.map (·.2)).Nodup → L.length < 64 → Q (.int L.length) H)) := by
    intro pins s σ H vs us Q I r h
    obtain ⟨a, L, rfl, ha, hk, hq⟩ := h
    have R0 : SetT0 X.prog X.w s.heap a L := (I.hok a _ ha).1
    obtain ⟨es, ep, t, R⟩ := R0.full fun p hp => I.isT (hk p hp)
    rw [Vals.ref1 r]
    obtain ⟨o, ho, hex, hd⟩ := R.ob
    have hsz := R.size
    have hf := R.few
    refine call_len_set ho hex hd R.fits (by omega) ⟨.int L.length, H, I.tok _, ⟨_, by rw [hsz]⟩, hq R.nd hf⟩
  refine ⟨(pe_callB (pos := pos) (p := p) cl hg1 hm1 PySem.boot_len (pa_cons i1 pa_nil s2) (by decide) (by decide) s2 rfl).imp fun σ H Q h => ?_⟩
  obtain ⟨m, ah, σd, S, En, h⟩ := h
  refine ⟨m, ah, σd, S, En, (Ok.bind S.len h).mono fun m1 ah1 H1 d E1 S1 h1 v r => ?_⟩
  split at h1
  case h_2 => exact False.elim h1
  rename_i xs hx
  split at h1
  case h_2 => exact False.elim h1
  rename_i l hl
  split at h1
  case isFalse => exact False.elim h1
  rename_i hlen
  obtain ⟨a, vs, rfl, ha, hp⟩ := src_pd S1 r hx
  obtain ⟨ks, k1, k2, k3⟩ := pda_ks hp hl
  subst k1
  have hkl : ks.length = l.length := by have := congrArg List.length k2; simpa using this
  have hsq : ∀ p ∈ ks, SqT X.K H1 p.1 (p.2.map V.int) := fun p hp' => by
    obtain ⟨s, _, z1, z2, _⟩ := k3 p hp'
    obtain ⟨b, hb, z3⟩ := pd_esq z2
    cases hb
    rw [z1]
    exact SqT.of z3
  refine ⟨a, ks, rfl, SqL.of ha, hsq, by omega, fun b L hb hL1 hL2 => ?_⟩
  have hsq2 : ∀ p ∈ L, SqT X.K (upd H1 b (SetTO X.prog X.w b L)) p.1 (p.2.map V.int) := fun p hp' => by
    obtain ⟨s, _, z1, z2, _⟩ := k3 p (hL1 p hp')
    obtain ⟨c, hc, z3⟩ := pd_esq z2
    cases hc
    rw [z1]
    exact SqT.of (grow_upd hb _ _ z3)
  refine ⟨b, L, rfl, upd_same, hsq2, fun nd _ => ?_⟩
  have hlenL : L.length = (sdd l).length := by
    have p1 : (L.map (·.2)).Perm ((sdd l).map fun s => [s.1, s.2]) := by
      refine (List.perm_ext_iff_of_nodup nd ?_).mpr fun x => ?_
      · have h2 := lxS_nd (sdd_up l)
        unfold List.Nodup at h2 ⊢
        rw [List.pairwise_map]
        exact h2.imp fun {a b} h z => h (two_inj z)
      · constructor
        · intro hx'
          obtain ⟨p, hp', rfl⟩ := List.mem_map.mp hx'
          obtain ⟨s, z0, z1, _⟩ := k3 p (hL1 p hp')
          rw [List.mem_map]
          exact ⟨s, sdd_mem.mpr z0, z1.symm⟩
        · intro hx'
          obtain ⟨s, hs, rfl⟩ := List.mem_map.mp hx'
          have : ([s.1, s.2] : List Int) ∈ ks.map (·.2) := by rw [k2]; exact List.mem_map.mpr ⟨s, sdd_mem.mp hs, rfl⟩
          obtain ⟨p, hp', e'⟩ := List.mem_map.mp this
          have := hL2 p hp'
          rw [e'] at this
          exact this
    have := p1.length_eq
    simpa using this
  rw [hlenL]
  have E2 : Ext m1 ah1 H1 m1 ah1 (upd H1 b (SetTO X.prog X.w b L)) := Ext.grow (grow_upd hb)
  exact h1 m1 _ E2 (S1.grow (grow_upd hb)) _ (.int _)
end
end DL

set_option Elab.async false
set_option linter.all false
set_option maxRecDepth 100000
/-! DLt: sum, min, max of data; range with a step; a comprehension that is a mutable list. -/
namespace DL
open PySem PySem.Spec PyProof.Rows L2
def decI : List PyData → Option (List Int)
  | [] => some []
  | .int i :: r => (decI r).map (i :: ·)
  | _ :: _ => none
theorem decI_map : ∀ ns : List Int, decI (ns.map .int) = some ns
  | [] => rfl
  | n :: r => by rw [List.map_cons, decI, decI_map r]; rfl
theorem pda_ints {B : Tw} {L : Addr → Prop} {H : Hp} : ∀ {xs : List PyData} {vs : List V} {ns : List Int}, PdA B L H vs xs → decI xs = some ns → vs = ns.map V.int
  | [], _, _, .nil, e => by cases e; rfl
  | x :: xs, _, ns, .cons h t, e => by
    cases x with
    | int i =>
      unfold decI at e
      obtain ⟨r, hr, rfl⟩ := Option.map_eq_some_iff.mp e
      cases h
      rw [pda_ints t hr]
      rfl
    | _ => cases e
def gSum : DF := fun ds ah => match ds with
  | [.p (.tuple xs)] => match decI xs with
    | some ns => .ok (.p (.int ns.sum)) ah
    | none => .bad
  | [d] => match srcOf ah d with
    | some xs => match decI xs with
      | some ns => .ok (.p (.int ns.sum)) ah
      | none => .bad
    | none => .bad
  | _ => .bad
def maxI (n : Int) (ns : List Int) : Int := ns.foldl (fun a b => if a < b then b else a) n
def minI (n : Int) (ns : List Int) : Int := ns.foldl (fun a b => if b < a then b else a) n
theorem maxI_mem : ∀ (ns : List Int) (n : Int), maxI n ns ∈ n :: ns
  | [], n => List.mem_cons_self
  | k :: r, n => by
    have := maxI_mem r (if n < k then k else n)
    unfold maxI at this ⊢
    rw [List.foldl_cons]
    rcases List.mem_cons.mp this with h | h
    · rw [h]
      split
      · simp
      · simp
    · exact List.mem_cons_of_mem _ (List.mem_cons_of_mem _ h)
theorem maxI_ge : ∀ (ns : List Int) (n : Int), ∀ y ∈ n :: ns, y ≤ maxI n ns
  | [], n, y, h => by rw [List.mem_singleton] at h; rw [h]; exact Int.le_refl _
  | k :: r, n, y, h => by
    have ih := maxI_ge r (if n < k then k else n)
    have e : maxI n (k :: r) = maxI (if n < k then k else n) r := rfl
    rw [e]
    have h0 := ih (if n < k then k else n) List.mem_cons_self
    rcases List.mem_cons.mp h with rfl | h
    · split at h0 <;> split <;> omega
    · rcases List.mem_cons.mp h with rfl | h
      · split at h0 <;> split <;> omega
      · exact ih y (List.mem_cons_of_mem _ h)
theorem minI_mem : ∀ (ns : List Int) (n : Int), minI n ns ∈ n :: ns
  | [], n => List.mem_cons_self
  | k :: r, n => by
    have := minI_mem r (if k < n then k else n)
    unfold minI at this ⊢
    rw [List.foldl_cons]
    rcases List.mem_cons.mp this with h | h
    · rw [h]
      split
      · simp
      · simp
    · exact List.mem_cons_of_mem _ (List.mem_cons_of_mem _ h)
theorem minI_le : ∀ (ns : List Int) (n : Int), ∀ y ∈ n :: ns, minI n ns ≤ y
  | [], n, y, h => by rw [List.mem_singleton] at h; rw [h]; exact Int.le_refl _
  | k :: r, n, y, h => by
    have ih := minI_le r (if k < n then k else n)
    have e : minI n (k :: r) = minI (if k < n then k else n) r := rfl
    rw [e]
    have h0 := ih (if k < n then k else n) List.mem_cons_self
    rcases List.mem_cons.mp h with rfl | h
    · split at h0 <;> split <;> omega
    · rcases List.mem_cons.mp h with rfl | h
      · split at h0 <;> split <;> omega
      · exact ih y (List.mem_cons_of_mem _ h)
def gMax1 : DF := fun ds ah => match ds with
  | [d] => match srcOf ah d with
    | some xs => match decI xs with
      | some (n :: ns) => .ok (.p (.int (maxI n ns))) ah
      | _ => .bad
    | none => .bad
  | _ => .bad
/-- the least square -/
def minS (n : Sq) (ns : List Sq) : Sq := ns.foldl (fun a b => if lxS b a then b else a) n
def gMin1 : DF := fun ds ah => match ds with
  | [d] => match srcOf ah d with
    | some xs => match decL xs with
      | some (n :: ns) => .ok (.p (esq (minS n ns))) ah
      | _ => .bad
    | none => .bad
  | _ => .bad
section
variable {X : Cx} {T : Tb} {W : WX}
theorem cd_sum (hT : TX X T) : CallD X T W (.builtin "sum") gSum := by
  refine ⟨fun pins s σ σ0 H xs us Q m ah ds I r S rd q => ?_⟩
  unfold gSum at q
  split at q
  · rename_i ys
    split at q
    case h_2 => exact False.elim q
    rename_i ns hns
    cases rd with
    | cons h t =>
      cases t
      cases h with
      | tup n g p =>
        have hv := pda_ints p hns
        subst hv
        obtain ⟨u, rfl, ru⟩ := vals1 r
        cases ru
        obtain ⟨its, rv, pl, hz⟩ := I.tuple (SqT.of (K := X.K) g)
        obtain ⟨zs, e⟩ := rv.ints.allInts.items
        have hn : numsOf (intItems zs).toList = ns := by rw [← e]; exact rv.ints.numsOf
        rw [nums_intItems] at hn
        rw [e] at pl
        refine PySem.W.ktm_sumG (I.ok.hd hT.calm) pl fun h' tk t' hk => ?_
        rw [preSum_eq, List.take_of_length_le (by simp), hn]
        exact ⟨.int ns.sum, H, I.kept hk, ⟨_, rfl⟩, OkV.int S q⟩
  · rename_i d _
    split at q
    case h_2 => exact False.elim q
    rename_i ys hys
    split at q
    case h_2 => exact False.elim q
    rename_i ns hns
    cases rd with
    | cons h t =>
      cases t
      obtain ⟨a, vs, rfl, ha, hp⟩ := src_pd S h hys
      have hv := pda_ints hp hns
      subst hv
      exact cr_sum hT.calm pins s σ H _ us Q I r ⟨a, ns, rfl, SqL.of ha, OkV.int S q⟩
  · exact False.elim q
theorem cd_max1 (hT : TX X T) : CallD X T W (.builtin "max") gMax1 := by
  refine ⟨fun pins s σ σ0 H xs us Q m ah ds I r S rd q => ?_⟩
  unfold gMax1 at q
  split at q
  case h_2 => exact False.elim q
  rename_i d
  split at q
  case h_2 => exact False.elim q
  rename_i ys hys
  split at q
  case h_2 => exact False.elim q
  rename_i n ns hns
  cases rd with
  | cons h t =>
    cases t
    obtain ⟨a, vs, rfl, ha, hp⟩ := src_pd S h hys
    have hv := pda_ints hp hns
    subst hv
    refine cr_max hT.calm pins s σ H _ us Q I r ⟨a, n :: ns, rfl, SqL.of ha, by simp, fun M h1 h2 => ?_⟩
    have e : M = maxI n ns := Int.le_antisymm (maxI_ge ns n M h1) (h2 _ (maxI_mem ns n))
    rw [e]
    exact OkV.int S q
end
/-! ### a step -/
def rangeC (lo c : Int) (n : Nat) : List D := (List.range n).map fun (i : Nat) => .p (.int (lo + (i : Int) * c))
def iRange3 (fa : AF) : IF := fun σ ah => (fa σ ah).bind fun ds ah1 => match ds with
  | [.p (.int i), .p (.int j), .p (.int c)] => if decide (c ≠ 0 ∧ c.natAbs < 1073741824 ∧ Builtin.Range.small i j c = true ∧ 0 ≤ Builtin.Range.rangeSize i j c) then .ok (rangeC i c (Builtin.Range.rangeSize i j c).toNat) ah1 else .bad
  | _ => .bad
section
variable {X : Cx} {T : Tb} {W : WX} {tg : Expr} {pos : Pos} {fa : AF}
theorem jok_rangeC {m : List Addr} {ah : AH} {H : Hp} {lo c : Int} {n : Nat} (S : Sim T m ah H) : JOk T m ah H (rangeC lo c n) (Itc lo c n) := by
  intro m2 ah2 H2 i E S2
  refine ⟨fun d e => ?_, fun e => ?_⟩
  · obtain ⟨x, e1, rfl⟩ := map_get e
    obtain ⟨hl, e2⟩ := List.getElem?_eq_some_iff.mp e1
    rw [List.length_range] at hl
    rw [List.getElem_range] at e2
    subst e2
    refine ⟨hl, fun y H3 q => ?_⟩
    obtain ⟨rfl, rfl⟩ := q
    exact ⟨Ext.refl, S2, .int _⟩
  · have := map_none e
    rw [List.length_range] at this
    exact this
theorem di_range3 {a b c : Expr} {p : Pos} (hg : Gl X "range") (hm : X.mg "range" = none) (h : DA X T W [a, b, c] fa) (hs : starEach [a, b, c] X.env = (false, eval a X.env) :: starEach [b, c] X.env := by rfl) (hpl : (backTo pos (starEach [b, c] X.env)).any (·.1) = false := by rfl) :
    DI X T W tg (.Call (.Name "range" p) [a, b, c] [] pos) (iRange3 fa) := by
  refine ⟨(pi_range3 hg hm h.h hs hpl).imp fun σ H R q => ?_⟩
  obtain ⟨m, ah, σd, S, En, q⟩ := q
  refine ⟨m, ah, σd, S, En, (Ok.bind S.len q).mono fun m1 ah1 H1 ds E1 S1 h1 vs r => ?_⟩
  split at h1
  · rename_i i j k
    split at h1
    · rename_i cc
      have cc := of_decide_eq_true cc
      cases r with
      | cons r1 r2 =>
        cases r2 with
        | cons r2 r3 =>
          cases r3 with
          | cons r3 r4 =>
            cases r4
            cases r1
            cases r2
            cases r3
            exact ⟨i, j, k, (Builtin.Range.rangeSize i j k).toNat, rfl, ⟨cc.1, cc.2.1, cc.2.2.1, by omega⟩, h1.here S1 _ ⟨jok_rangeC S1, fun D o hD => jok_rangeC (T := T.more D) (S1.more hD)⟩⟩
    · exact False.elim h1
  · exact False.elim h1
end
/-! ### a mutable list, made by a comprehension -/
def fLcM (fi : IF) (i : Nat) (ct : TF) (fe : EF) : EF := fun σ ah => (fi σ ah).bind fun ds ah1 => if ds.length ≤ 16777216 then (lcL i ct fe ds σ ah1).only fun ys ah2 => .ok (.r ah2.length) (ah2 ++ [.lst (ys.map .p)]) else .bad
section
variable {X : Cx} {T : Tb} {W : WX} {pos : Pos}
theorem newM {N : Addr} {m1 m2 : List Addr} {ah1 ah2 : AH} {H1 H2 : Hp} {σ : L2.St} {σd : DS} {vs : List V} {acc : List PyData} (L : LcSt T N m1 ah1 H1 σ m2 ah2 H2 σd vs acc) (nm : N ∉ m2) (hN : H1 N = none) (S1 : Sim T m1 ah1 H1) :
    Ext m1 ah1 H1 (m2 ++ [N]) (ah2 ++ [.lst (acc.map .p)]) H2 ∧ Sim T (m2 ++ [N]) (ah2 ++ [.lst (acc.map .p)]) H2 := by
  have hlen := L.S.len
  have hLV : ∀ a, LV T (m2 ++ [N]) (ah2 ++ [.lst (acc.map .p)]) a → LV (T.more N) m2 ah2 a := by
    rintro a (⟨i, h1, h2⟩ | hg)
    · by_cases hi : i < m2.length
      · rw [List.getElem?_append_left hi] at h1
        rw [List.getElem?_append_left (by omega)] at h2
        exact .inl ⟨i, h1, h2⟩
      · rw [List.getElem?_append_right (by omega)] at h1
        have := List.mem_of_getElem? h1
        rw [List.mem_singleton] at this
        rw [this]
        exact .inr List.mem_cons_self
    · exact .inr (List.mem_cons_of_mem _ hg)
  have hPd : ∀ (d : PyData) (v : V), Pd T.B (LV (T.more N) m2 ah2) H2 v d → Pd T.B (LV T (m2 ++ [N]) (ah2 ++ [.lst (acc.map .p)])) H2 v d := fun d v => Pd.mono (fun _ _ q _ => q) (fun a _ n z => n (hLV a z)) d v
  have hRD : ∀ (d : D) (v : V), RD (T.more N) m2 ah2 H2 v d → RD T (m2 ++ [N]) (ah2 ++ [.lst (acc.map .p)]) H2 v d := by
    intro d v r
    cases d with
    | p d => exact hPd d v r
    | r i =>
      obtain ⟨a, h1, h2⟩ := r
      exact ⟨a, by rw [List.getElem?_append_left (List.getElem?_eq_some_iff.mp h1).1]; exact h1, h2⟩
    | f i => exact r
    | s ns =>
      obtain ⟨h1, h2⟩ := r
      refine ⟨h1, ?_⟩
      rcases h2 with ⟨n, q⟩ | q
      · exact .inl ⟨fun z => n (hLV _ z), q⟩
      · exact .inr q
  refine ⟨⟨?_, fun i h => ?_, L.E.keep⟩, ⟨by simp [hlen], ?_, fun i a h => ?_, fun a ha => ?_, fun i a o h1 h2 => ?_⟩⟩
  · obtain ⟨t, e, f⟩ := L.E.pre
    refine ⟨t ++ [N], by rw [e, List.append_assoc], fun a ha => ?_⟩
    rcases List.mem_append.mp ha with h | h
    · exact f a h
    · rw [List.mem_singleton.mp h]; exact hN
  · have := L.E.dead i h
    rw [List.getElem?_append_left (List.getElem?_eq_some_iff.mp this).1]
    exact this
  · rw [List.nodup_append]
    refine ⟨L.S.nd, by simp, fun a ha b hb => ?_⟩
    rw [List.mem_singleton] at hb
    rw [hb]
    rintro rfl
    exact nm ha
  · by_cases hi : i < m2.length
    · rw [List.getElem?_append_left hi] at h
      exact L.S.trk i a h
    · rw [List.getElem?_append_right (by omega)] at h
      have := List.mem_of_getElem? h
      rw [List.mem_singleton] at this
      rw [this, L.at_]
      simp
  · have q := L.S.gs a (List.mem_cons_of_mem _ ha)
    refine ⟨q.1, fun z => ?_⟩
    rcases List.mem_append.mp z with z | z
    · exact q.2 z
    · rw [List.mem_singleton] at z
      rw [z] at ha
      exact (S1.gs N ha).1 hN
  · by_cases hi : i < m2.length
    · rw [List.getElem?_append_left hi] at h1
      rw [List.getElem?_append_left (by omega)] at h2
      have q := L.S.at_ i a o h1 h2
      cases o with
      | dead => trivial
      | lst ds =>
        obtain ⟨vs, g1, g2⟩ := q
        exact ⟨vs, g1, Paired.mapR g2 fun _ _ z => hRD _ _ z⟩
      | dct kvs =>
        obtain ⟨xs, g1, g2⟩ := q
        exact ⟨xs, g1, Paired.mapR g2 fun x kv z => ⟨z.1, z.2.1, hPd _ _ z.2.2.1, hRD _ _ z.2.2.2⟩⟩
    · have hi2 : i = m2.length := by
        have := (List.getElem?_eq_some_iff.mp h1).1
        simp at this
        omega
      subst hi2
      rw [List.getElem?_append_right (Nat.le_refl _)] at h1
      rw [hlen, List.getElem?_append_right (Nat.le_refl _)] at h2
      simp at h1 h2
      subst h1 h2
      refine ⟨vs, L.at_, ?_⟩
      exact Paired.mapR (pd_pures (T := T.more N) L.acc) fun _ _ z => hRD _ _ z
theorem lc_readM (hT : TX X T) {i : Nat} {fi : IF} {ct : TF} {fe : EF} {σ : L2.St} {H : Hp} {Q : VK} (h : tD T W (fLcM fi i ct fe) σ H Q) :
    tLc (tI T W fi) (gName i) (fun σ H Q => ∃ N, tT (T.more N) W0 ct σ H Q) (fun σ H Q => ∃ N, tD (T.more N) W0 fe σ H Q) [i] σ H Q := by
  obtain ⟨m, ah, σd, S, En, h⟩ := h
  refine ⟨m, ah, σd, S, En, (Ok.bind S.len h).mono fun m1 ah1 H1 ds E1 S1 h1 J hJ => ?_⟩
  have En1 := En.ext E1 S.len
  split at h1
  · rename_i hsz
    intro N hN
    have E01 := Ext.grow (m := m1) (ah := ah1) (grow_upd (o := HO.lst []) hN)
    -- what holds ahead of turn k
    let Z : Nat → Hp → Prop := fun k H => ∃ m2 ah2 vs acc, LcSt T N m1 ah1 H1 σ m2 ah2 H σd vs acc ∧ vs.length ≤ k ∧
      Ok T W σ m1 ah1 H1 ((lcL i ct fe (ds.drop k) σd ah2).only fun ys ah3 => .ok (.r ah3.length) (ah3 ++ [.lst ((acc ++ ys).map .p)])) (fun m' ah' H' d => ∀ v, RD T m' ah' H' v d → Q v H')
    refine ⟨fun k mm H => mm = ds.length - k ∧ k ≤ ds.length ∧ Z k H, ⟨ds.length, by simp, Nat.zero_le _, m1, ah1, [], [], ⟨E01, S1.more hN, En1.more hN, upd_same, .nil⟩, Nat.le_refl _, ?_⟩, ?_⟩
    · rw [List.drop_zero]
      simpa using h1
    · rintro k mm H2 ⟨rfl, hk, m2, ah2, vs, acc, L, hv, ho⟩
      have nm : N ∉ m2 := (L.S.gs N List.mem_cons_self).2
      obtain ⟨j1, j2⟩ := hJ.2 N (.lst vs) hN m2 ah2 H2 k (ext_at L.E L.at_ nm) L.S
      by_cases hlt : k < ds.length
      · refine .inr ?_
        have e : ds[k]? = some ds[k] := List.getElem?_eq_getElem hlt
        have ed : ds.drop k = ds[k] :: ds.drop (k + 1) := by rw [List.drop_eq_getElem_cons hlt]
        obtain ⟨go, yl⟩ := j1 _ e
        refine ⟨go, fun H => Z (k + 1) H, fun H' z => ⟨ds.length - (k + 1), by omega, rfl, hlt, z⟩, fun x H3 y => ?_⟩
        obtain ⟨E3, S3, r3⟩ := yl x H3 y
        rw [ed] at ho
        unfold lcL at ho
        obtain ⟨w1, w2⟩ := wipe1 σ i x
        refine ⟨w2, N, m2, ah2, σd.set i (some ds[k]), S3, ?_, ?_⟩
        · rw [w1]
          exact (L.En.ext E3 L.S.len).set i r3
        · cases q : ct (σd.set i (some ds[k])) ah2 with
          | bad => rw [q] at ho; exact False.elim ho
          | ex _ _ => rw [q] at ho; exact False.elim ho
          | ok b ah4 =>
            rw [q, R.only_ok] at ho
            intro m4 H4 E4 S4
            have E34 : Ext m2 ah2 H2 m4 ah4 H4 := E3.trans E4 L.S.len S3
            have En4 : EnvR (T.more N) m4 ah4 H4 σ σd := L.En.ext E34 L.S.len
            have at4 : H4 N = some (.lst vs) := E34.keep N _ L.at_ fun ⟨j, hj, _⟩ => nm (List.mem_of_getElem? hj)
            have E14 : Ext m1 ah1 H1 m4 ah4 H4 := L.E.trans E34 S1.len L.S
            dsimp only
            cases b with
            | false =>
              rw [if_neg Bool.false_ne_true] at ho ⊢
              exact ⟨m4, ah4, vs, acc, ⟨E14, S4, En4, at4, PdA.ext (T := T.more N) E34 L.S.len _ _ L.acc⟩, Nat.le_succ_of_le hv, ho⟩
            | true =>
              rw [if_pos rfl] at ho ⊢
              refine ⟨N, m4, ah4, σd.set i (some ds[k]), S4, ?_, ?_⟩
              · rw [w1]
                exact En4.set i (RD.ext E4 S3.len r3)
              · cases q2 : fe (σd.set i (some ds[k])) ah4 with
                | bad => rw [q2] at ho; exact False.elim ho
                | ex _ _ => rw [q2] at ho; exact False.elim ho
                | ok z ah5 =>
                  rw [q2, R.only_ok] at ho
                  intro m5 H5 E5 S5 v rv
                  cases z with
                  | r _ => exact False.elim ho
                  | f _ => exact False.elim ho
                  | s _ => exact False.elim ho
                  | p y =>
                    have E25 : Ext m2 ah2 H2 m5 ah5 H5 := E34.trans E5 L.S.len S4
                    have at5 : H5 N = some (.lst vs) := E25.keep N _ L.at_ fun ⟨j, hj, _⟩ => nm (List.mem_of_getElem? hj)
                    refine ⟨vs, at5, ?_, m5, ah5, vs ++ [v], acc ++ [y], ⟨?_, S5.writeG, (L.En.ext E25 L.S.len).writeG, upd_same, ?_⟩, ?_, ?_⟩
                    · rw [sizeLine_eq]; omega
                    · have E15 : Ext m1 ah1 H1 m5 ah5 H5 := L.E.trans E25 S1.len L.S
                      refine ⟨E15.pre, E15.dead, fun a u q n => ?_⟩
                      have ne : a ≠ N := ne_of_none q hN
                      rw [upd_ne ne]
                      exact E15.keep a u q n
                    · exact pdA_write ((PdA.ext (T := T.more N) E25 L.S.len _ _ L.acc).snoc rv)
                    · rw [List.length_append]
                      exact Nat.succ_le_succ hv
                    · cases q3 : lcL i ct fe (ds.drop (k + 1)) σd ah5 with
                      | bad => dsimp only at ho; rw [q3] at ho; exact False.elim ho
                      | ex _ _ => dsimp only at ho; rw [q3] at ho; exact False.elim ho
                      | ok ys ah6 =>
                        dsimp only at ho
                        rw [q3, R.only_ok, R.only_ok] at ho
                        rw [R.only_ok, List.append_assoc]
                        exact ho
      · have ek : k = ds.length := by omega
        refine .inl ⟨j2 (List.getElem?_eq_none (by omega)), ?_⟩
        rw [ek, List.drop_length] at ho
        unfold lcL at ho
        rw [R.only_ok, List.append_nil] at ho
        have En2 := newM L nm hN S1
        exact ho (m2 ++ [N]) H2 En2.1 En2.2 (.ref N) ⟨N, by rw [← L.S.len, List.getElem?_append_right (Nat.le_refl _)]; simp, rfl⟩
  · exact False.elim h1
/-- [elt for x in iter if ..], a mutable list -/
theorem de_lcM {i : Nat} {x : Str} {px : Pos} {elt iter : Expr} {ifs : List Expr} {scope : Scope} {fi : IF} {ct : TF} {fe : EF} (hT : TX X T) (hN : X.N.Nodup) (hi : DI X T W (.Name x px) iter fi) (ok : BlkOk X.N X.env.scope scope [(x, i)])
    (hg : ∀ (s : Shared) (H : Hp) (C : Addr) (cl : List (Str × Addr)) (fp : List Addr), PG (X.blk s H scope (compEnvC scope cl C X.env) fp) (.Name x px) (gName i))
    (ht : ∀ (N : Addr) (s : Shared) (H : Hp) (C : Addr) (cl : List (Str × Addr)) (fp : List Addr), DTs (X.blk s H scope (compEnvC scope cl C X.env) fp) (T.more N) W0 ifs ct)
    (he : ∀ (N : Addr) (s : Shared) (H : Hp) (C : Addr) (cl : List (Str × Addr)) (fp : List Addr), DE (X.blk s H scope (compEnvC scope cl C X.env) fp) (T.more N) W0 elt fe) (hs : ∀ x, foldedSetIterable iter X.env x = pure x := by intro _; rfl) :
    DE X T W (.ListComp elt [⟨.Name x px, iter, ifs, 0⟩] scope pos) (fLcM fi i ct fe) :=
  ⟨(pe_lc hT.calm hN hi.h ok hg (fun s H C cl fp => ⟨fun pins s' σ H' Q I ⟨N, q⟩ => (ht N s H C cl fp).h.run pins s' σ H' Q I q⟩) (fun s H C cl fp => ⟨fun pins s' σ H' Q I ⟨N, q⟩ => (he N s H C cl fp).h.run pins s' σ H' Q I q⟩) hs).imp fun σ H Q q => lc_readM hT q⟩
/-- y = [elt for x in iter if ..] on one line -/
theorem ds_setLcM {j i : Nat} {y x : Str} {py px : Pos} {elt iter : Expr} {ifs : List Expr} {scope : Scope} {fi : IF} {ct : TF} {fe : EF} {spos : Pos} (hT : TX X T) (hN : X.N.Nodup) (hy : X.N[j]? = some y) (hyl : X.env.scope.names.lookup y = some .local)
    (hsw : swapsWith (.ListComp elt [⟨.Name x px, iter, ifs, 0⟩] scope pos) (some (.Name y py)) spos.line X.env = pure true) (hi : DI X T W (.Name x px) iter fi) (ok : BlkOk X.N X.env.scope scope [(x, i)])
    (hg : ∀ (s : Shared) (H : Hp) (C : Addr) (cl : List (Str × Addr)) (fp : List Addr), PG (X.blk s H scope (compEnvC scope cl C X.env) fp) (.Name x px) (gName i))
    (ht : ∀ (N : Addr) (s : Shared) (H : Hp) (C : Addr) (cl : List (Str × Addr)) (fp : List Addr), DTs (X.blk s H scope (compEnvC scope cl C X.env) fp) (T.more N) W0 ifs ct)
    (he : ∀ (N : Addr) (s : Shared) (H : Hp) (C : Addr) (cl : List (Str × Addr)) (fp : List Addr), DE (X.blk s H scope (compEnvC scope cl C X.env) fp) (T.more N) W0 elt fe) (hs : ∀ x, foldedSetIterable iter X.env x = pure x := by intro _; rfl) :
    DSt X T W (.Assign [.Name y py] (.ListComp elt [⟨.Name x px, iter, ifs, 0⟩] scope pos) spos) (sSet j (fLcM fi i ct fe)) := by
  refine ⟨(ps_setLc (wi := tI T W fi) (g := gName i) (tt := fun σ H Q => ∃ N, tT (T.more N) W0 ct σ H Q) (te := fun σ H Q => ∃ N, tD (T.more N) W0 fe σ H Q) hT.calm hN hy hyl hsw hi.h ok hg (fun s H C cl fp => ⟨fun pins s' σ H' Q I ⟨N, q⟩ => (ht N s H C cl fp).h.run pins s' σ H' Q I q⟩) (fun s H C cl fp => ⟨fun pins s' σ H' Q I ⟨N, q⟩ => (he N s H C cl fp).h.run pins s' σ H' Q I q⟩) hs).imp fun D σ H q => ?_⟩
  obtain ⟨m, ah, σd, S, En, q⟩ := q
  refine lc_readM hT ⟨m, ah, σd, S, En, (Oo.then S.len En q).mono fun m1 ah1 H1 d E1 S1 h1 v r => ?_⟩
  exact h1 m1 H1 _ Ext.refl S1 ((En.ext E1 S.len).set j r)
end
section
variable {X : Cx} {T T0 : Tb} {W : WX} {k : Nat} {pos p : Pos}
theorem de_lcMC {i : Nat} {x : Str} {px : Pos} {elt iter : Expr} {ifs : List Expr} {scope : Scope} {fi : IF} {ct : TF} {fe : EF} (c : CxO X T0 T W k) (hN : X.N.Nodup) (hi : DI X T W (.Name x px) iter fi) (ok : BlkOk X.N X.env.scope scope [(x, i)])
    (hg : ∀ (s : Shared) (H : Hp) (C : Addr) (cl : List (Str × Addr)) (fp : List Addr), PG (X.blk s H scope (compEnvC scope cl C X.env) fp) (.Name x px) (gName i))
    (ht : ∀ (N : Addr) (s : Shared) (H : Hp) (C : Addr) (cl : List (Str × Addr)) (fp : List Addr), CxO (X.blk s H scope (compEnvC scope cl C X.env) fp) T0 (T.more N) W0 k → DTs (X.blk s H scope (compEnvC scope cl C X.env) fp) (T.more N) W0 ifs ct)
    (he : ∀ (N : Addr) (s : Shared) (H : Hp) (C : Addr) (cl : List (Str × Addr)) (fp : List Addr), CxO (X.blk s H scope (compEnvC scope cl C X.env) fp) T0 (T.more N) W0 k → DE (X.blk s H scope (compEnvC scope cl C X.env) fp) (T.more N) W0 elt fe) (hs : ∀ x, foldedSetIterable iter X.env x = pure x := by intro _; rfl) :
    DE X T W (.ListComp elt [⟨.Name x px, iter, ifs, 0⟩] scope pos) (fLcM fi i ct fe) :=
  de_lcM c.t hN hi ok hg (fun N s H C cl fp => ht N s H C cl fp (c.blk ..)) (fun N s H C cl fp => he N s H C cl fp (c.blk ..)) hs
theorem ds_setLcMC {j i : Nat} {y x : Str} {py px : Pos} {elt iter : Expr} {ifs : List Expr} {scope : Scope} {fi : IF} {ct : TF} {fe : EF} {spos : Pos} (c : CxO X T0 T W k) (hN : X.N.Nodup) (hy : X.N[j]? = some y) (hyl : X.env.scope.names.lookup y = some .local)
    (hsw : swapsWith (.ListComp elt [⟨.Name x px, iter, ifs, 0⟩] scope pos) (some (.Name y py)) spos.line X.env = pure true) (hi : DI X T W (.Name x px) iter fi) (ok : BlkOk X.N X.env.scope scope [(x, i)])
    (hg : ∀ (s : Shared) (H : Hp) (C : Addr) (cl : List (Str × Addr)) (fp : List Addr), PG (X.blk s H scope (compEnvC scope cl C X.env) fp) (.Name x px) (gName i))
    (ht : ∀ (N : Addr) (s : Shared) (H : Hp) (C : Addr) (cl : List (Str × Addr)) (fp : List Addr), CxO (X.blk s H scope (compEnvC scope cl C X.env) fp) T0 (T.more N) W0 k → DTs (X.blk s H scope (compEnvC scope cl C X.env) fp) (T.more N) W0 ifs ct)
    (he : ∀ (N : Addr) (s : Shared) (H : Hp) (C : Addr) (cl : List (Str × Addr)) (fp : List Addr), CxO (X.blk s H scope (compEnvC scope cl C X.env) fp) T0 (T.more N) W0 k → DE (X.blk s H scope (compEnvC scope cl C X.env) fp) (T.more N) W0 elt fe) (hs : ∀ x, foldedSetIterable iter X.env x = pure x := by intro _; rfl) :
    DSt X T W (.Assign [.Name y py] (.ListComp elt [⟨.Name x px, iter, ifs, 0⟩] scope pos) spos) (sSet j (fLcM fi i ct fe)) :=
  ds_setLcM c.t hN hy hyl hsw hi ok hg (fun N s H C cl fp => ht N s H C cl fp (c.blk ..)) (fun N s H C cl fp => he N s H C cl fp (c.blk ..)) hs
end
end DL

set_option Elab.async false
set_option linter.all false
set_option maxRecDepth 100000
/-! DLu: min of a list of squares, of a dict's keys. -/
namespace DL
open PySem PySem.Spec PyProof.Rows L2
theorem lt_pairD (x y x' y' : PyData) (h1 : PySem.W.alike x x' = true) (h2 : PySem.W.alike y y' = true) :
    PySem.W.dataLt (.tuple [x, y]) (.tuple [x', y']) = if PyData.eqv x x' = true then (if PyData.eqv y y' = true then false else PySem.W.dataLt y y') else PySem.W.dataLt x x' := by
  rw [PySem.W.dataLt_tuple]
  by_cases e1 : PyData.eqv x x' = true
  · rw [if_pos e1, PySem.W.dataLt_all_yes h1 e1]
    by_cases e2 : PyData.eqv y y' = true
    · rw [if_pos e2, PySem.W.dataLt_all_yes h2 e2]
      exact PySem.W.lex_pre [.inl 0] [] []
    · rw [if_neg e2, PySem.W.dataLt_all_no h2 (by simpa using e2)]
  · rw [if_neg e1, PySem.W.dataLt_all_no h1 (by simpa using e1)]
theorem lt_esqD (a b : Sq) : PySem.W.dataLt (esq a) (esq b) = decide (lxS a b) := by
  obtain ⟨a1, a2⟩ := a
  obtain ⟨b1, b2⟩ := b
  unfold esq
  rw [lt_pairD _ _ _ _ rfl rfl, PySem.W.dataLt_int, PySem.W.dataLt_int]
  simp only [PyData.eqv, decide_eq_true_eq, lxS, beq_iff_eq]
  by_cases h1 : a1 = b1
  · subst h1
    by_cases h2 : a2 = b2
    · subst h2; simp
    · simp [h2]
  · simp [h1]
theorem minD_esq : ∀ (ns : List Sq) (n : Sq), PySem.W.minD (esq n) (ns.map esq) = esq (minS n ns)
  | [], n => rfl
  | k :: r, n => by
    have e : PySem.W.minD (esq n) ((k :: r).map esq) = PySem.W.minD (if PySem.W.dataLt (esq k) (esq n) then esq k else esq n) (r.map esq) := rfl
    have e2 : minS n (k :: r) = minS (if lxS k n then k else n) r := rfl
    rw [e, e2, lt_esqD]
    by_cases c : lxS k n
    · rw [if_pos c, decide_eq_true c, if_pos rfl, minD_esq r k]
    · rw [if_neg c, decide_eq_false c, if_neg Bool.false_ne_true, minD_esq r n]
theorem decL_eq : ∀ {xs : List PyData} {l : List Sq}, decL xs = some l → xs = l.map esq
  | [], _, e => by cases e; rfl
  | x :: xs, l, e => by
    unfold decL at e
    split at e
    · rename_i s l' e1 e2
      cases e
      obtain ⟨rfl, _⟩ := decS_some e1
      rw [decL_eq e2]
      rfl
    · cases e
theorem pda_at {B : Tw} {L : Addr → Prop} {H : Hp} : ∀ {ds : List PyData} {vs : List V} {i : Nat} {v : V}, PdA B L H vs ds → vs[i]? = some v → ∃ d, ds[i]? = some d ∧ Pd B L H v d
  | [], _, i, v, .nil, h => by simp at h
  | d :: ds, _, 0, v, .cons h t, e => by simp at e; subst e; exact ⟨d, rfl, h⟩
  | d :: ds, _, i + 1, v, .cons h t, e => by
    simp only [List.getElem?_cons_succ] at e ⊢
    exact pda_at t e
theorem lay_esq (s : Sq) : (esq s).canLay0 = true := rfl
theorem vals_back : ∀ {xs : List V} {us : List Value} {i : Nat} {u : Value}, Vals xs us → us[i]? = some u → ∃ x, xs[i]? = some x ∧ RelV x u
  | _, _, _, _, .nil, h => by simp at h
  | _, _, 0, _, .cons r _, h => by simp at h; subst h; exact ⟨_, rfl, r⟩
  | _, _, i + 1, _, .cons _ t, h => by
    simp only [List.getElem?_cons_succ] at h ⊢
    exact vals_back t h
theorem depth_sqs2 : ∀ l : List Sq, PyData.depthAll (l.map esq) ≤ 1
  | [] => by simp [PyData.depthAll]
  | a :: r => by
    have := depth_sqs2 r
    have h : (esq a).depth ≤ 1 := by simp [esq, PyData.depth, PyData.depthAll]
    simp only [List.map_cons, PyData.depthAll]
    omega
section
variable {X : Cx} {T : Tb} {W : WX}
theorem cd_min1 (hT : TX X T) : CallD X T W (.builtin "min") gMin1 := by
  refine ⟨fun pins s σ σ0 H xs us Q m ah ds I r S rd q => ?_⟩
  unfold gMin1 at q
  split at q
  case h_2 => exact False.elim q
  rename_i d
  split at q
  case h_2 => exact False.elim q
  rename_i ys hys
  split at q
  case h_2 => exact False.elim q
  rename_i n ns hns
  cases rd with
  | cons h t =>
    cases t
    obtain ⟨a, vs, rfl, ha, hp⟩ := src_pd S h hys
    have hy := decL_eq hns
    subst hy
    obtain ⟨u, rfl, ru⟩ := vals1 r
    cases ru
    obtain ⟨its, rv, pl, hz⟩ := I.list (SqL.of (K := X.K) ha)
    have hdp := PdA.dp (T := T) _ _ hp (lay_esqs (n :: ns))
    rw [hT.K] at hdp
    obtain ⟨as, hr⟩ := Dp.readsAll I _ _ _ hdp rv
    have hal : PySem.W.AlikeAll (esq n :: ns.map esq) := by
      refine ⟨fun x hx y hy => ?_, fun x hx => ?_⟩
      · obtain ⟨x', _, rfl⟩ := List.mem_map.mp (show x ∈ (n :: ns).map esq from hx)
        obtain ⟨y', _, rfl⟩ := List.mem_map.mp (show y ∈ (n :: ns).map esq from hy)
        rfl
      · obtain ⟨x', _, rfl⟩ := List.mem_map.mp (show x ∈ (n :: ns).map esq from hx)
        intro z
        cases z
    have hun := hT.un
    have hdd := depth_sqs2 (n :: ns)
    refine PySem.W.min_list_data (I.ok.hd hT.calm) pl.isList hr hal (by
      have : PyData.depthAll (esq n :: ns.map esq) ≤ 1 := hdd
      omega) fun i v h' tk bs hv hrd hk => ?_
    obtain ⟨x, hx, rx⟩ := vals_back rv (show its[i]? = some v by simpa using hv)
    obtain ⟨d', hd', pd⟩ := pda_at hp hx
    rw [List.getElem?_map] at hd'
    obtain ⟨s', _, rfl⟩ := Option.map_eq_some_iff.mp hd'
    have z := Pd.dp (T := T) _ _ pd (lay_esq s')
    rw [hT.K] at z
    obtain ⟨as2, hr2⟩ := Dp.reads I _ _ _ z rx
    have hr3 := PySem.W.reads_keeps hk hr2
    rw [minD_esq] at hrd
    have e := (hr3.unique _ _ hrd).1
    rw [e] at pd
    exact ⟨x, H, I.kept hk, rx, OkV.p S q pd⟩
end
end DL

set_option Elab.async false
set_option linter.all false
set_option maxRecDepth 100000
/-! DLv: sorted(d), min(d) of a dict's keys. -/
namespace DL
open PySem PySem.Spec PyProof.Rows L2
theorem rawSrc {P : Program} {w : World} {d : Addr} {es : Array DictEntry} {ep : Nat} (lo : (d == sysModules) = false) : PySem.W.KdlSrc P w "dict" d d es.size (fun i v => ∃ hi : i < es.size, v = es[i].key) (fun h => h.DictRaw d es ep) where
  type := fun _ hm => hm.typeIs
  there := fun _ hm => let ⟨_, ho, _⟩ := hm; ⟨Heap.lt_size ho, Heap.lt_size ho⟩
  keep := fun _ _ hm hk => hm.at fun o e => hk d (.inl rfl) o e
  notList := by decide
  notTuple := by decide
  hint := fun _ _ _ _ hm hq => PySem.W.kdl_hint_dict hm.typeIs hq
  iter := fun A s hh hm => by
    obtain ⟨o, ho, hx⟩ := id hm
    exact ⟨_, _, (fun E Q hq => wpAny_pyIter_dict_raw lo hm hq), Walks.rawKeys hh _ d (Nat.ne_of_lt (Heap.lt_size ho)) es ep, ⟨⟨_, Heap.get?_push_size _ rfl, rfl, by simp [rawInt]⟩, hm.at fun o e => Heap.get?_push_of_some _ e⟩⟩
theorem keys_each {T : Tb} {m : List Addr} {ah : AH} {H : Hp} : ∀ {xs : List (NestedKey × Addr × V)} {ys : List (NestedKey × Addr × Value)} {kvs : List (PyData × D)}, Paired (fun (x : NestedKey × Addr × V) (y : NestedKey × Addr × Value) => x.1 = y.1 ∧ x.2.1 = y.2.1 ∧ RelV x.2.2 y.2.2) xs ys → Paired (RKv T m ah H) xs kvs →
    PySem.W.EachIs (fun u d => ∃ v, RelV v u ∧ Pd T.B (LV T m ah) H v d) (ys.map fun y => Value.ref y.2.1) (kvs.map (·.1))
  | _, _, _, .nil, .nil => .nil
  | _, _, _, .cons h t, .cons h2 t2 => .cons ⟨.ref _, (by show Value.ref _ = Value.ref _; rw [h.2.1]), h2.2.2.1⟩ (keys_each t t2)
def gSortedK : DF := fun ds ah => match ds with
  | [d] => match dctOf ah d with
    | some kvs => if sortOk (kvs.map (·.1)) then .ok (.p (.list (sortD (kvs.map (·.1))))) ah else .bad
    | none => .bad
  | _ => .bad
theorem reads_each {X : Cx} {T : Tb} {L : Addr → Prop} {pins : List (Addr × Obj)} {σ : L2.St} {H : Hp} {s : Shared} (hT : TX X T) (I : Inv X pins σ H s) : ∀ {vs : List V} {us : List Value} {ds : List PyData}, Vals vs us → PdA T.B L H vs ds → (∀ d ∈ ds, d.canLay0 = true) → PySem.W.EachIs (fun u (d : PyData) => ∃ as, Reads s.heap u (id d) as) us ds
  | _, _, [], .nil, .nil, _ => .nil
  | _, _, _ :: _, .cons h t, .cons h1 h2, hd => by
    have z := Pd.dp (T := T) _ _ h1 (hd _ List.mem_cons_self)
    rw [hT.K] at z
    exact .cons (Dp.reads I _ _ _ z h) (reads_each hT I t h2 fun d hd' => hd d (List.mem_cons_of_mem _ hd'))
section
variable {X : Cx} {T : Tb} {W : WX}
theorem cd_sortedK (hT : TX X T) : CallD X T W (.builtin "sorted") gSortedK := by
  refine ⟨fun pins s σ σ0 H xs us Q m ah ds I r S rd q => ?_⟩
  unfold gSortedK at q
  split at q
  case h_2 => exact False.elim q
  rename_i d
  split at q
  case h_2 => exact False.elim q
  rename_i kvs e1
  split at q
  case isFalse => exact False.elim q
  rename_i c
  cases rd with
  | cons h t =>
    cases t
    obtain ⟨u, rfl, ru⟩ := vals1 r
    obtain ⟨a, rows, rfl, g1, g2⟩ := dct_raw S h e1
    cases ru
    obtain ⟨o, es, ep, ys, hH, hx, hd, he, hn, hs, hz, hp⟩ := g1
    have ho : s.heap.get? a = some o := (I.hok a _ hH).1
    have hraw : s.heap.DictRaw a es ep := ⟨o, ho, hx, hd⟩
    have ek := keys_each hp g2
    have hsz : es.size = ys.length := by rw [← Array.length_toList, he, List.length_map]
    have hyl : ys.length = kvs.length := by rw [← paired_len hp, paired_len g2]
    obtain ⟨c1, c2, c3, c4⟩ := sort_parts c
    have hklen : (kvs.map (·.1)).length = kvs.length := List.length_map _
    have hun := hT.un
    refine Calls.call_function_entry PyProof.Rows.kind_sorted PyProof.Rows.plain_sorted PyProof.Rows.entry_sorted (PyProof.Rows.args_sorted1 _) ?_
    unfold Builtin.«sorted»
    refine wpAny_bind (m := checkCount "sorted" 1 1 _) (wpAny_pure ?_)
    refine wpAny_bind (PySem.W.kdu_collect (A := X.A.in1) (rawSrc hs) (I.ok.hd hT.calm) hraw (by rw [sizeLine_eq]; omega) fun h' tk acc hk hacc => ?_)
    have hal : acc.toList = ys.map fun y => Value.ref y.2.1 := by
      apply List.ext_getElem?
      intro i
      cases q1 : acc.toList[i]? with
      | none =>
        have h1 : acc.toList.length ≤ i := List.getElem?_eq_none_iff.mp q1
        rw [Array.length_toList, hacc.1] at h1
        rw [List.getElem?_eq_none (by rw [List.length_map]; omega)]
      | some v =>
        obtain ⟨hi, rfl⟩ := hacc.2 i v (by rw [← Array.getElem?_toList]; exact q1)
        obtain ⟨y, y1, y2⟩ := keyAt he i es[i] (Array.getElem?_eq_getElem hi)
        rw [List.getElem?_map, y1, y2]
        rfl
    have I1 : Inv X pins σ H { s with heap := h', toks := tk } := I.kept hk
    rw [hal]
    obtain ⟨vs, rv, pa⟩ := each_vals ek
    have er := reads_each hT I1 rv pa fun d hd => (mem_shaped c3 d hd).1
    have hul : (ys.map fun y => Value.ref y.2.1).length = ys.length := List.length_map _
    refine wpAny_bind (wpAny_newList ?_ (by rw [hul, sizeLine_eq]; omega))
    have hoL : (h'.push (seqObj "list" (ys.map fun y => Value.ref y.2.1).toArray 0)).get? h'.objs.size = some (seqObj "list" (ys.map fun y => Value.ref y.2.1).toArray 0) := Heap.get?_push_size _ rfl
    show wpAny _ _ _ _ _ { s with heap := h'.push (seqObj "list" (ys.map fun y => Value.ref y.2.1).toArray 0), toks := tk }
    have er2 : PySem.W.EachIs (fun v (b : PyData) => ∃ as, Reads (h'.push (seqObj "list" (ys.map fun y => Value.ref y.2.1).toArray 0)) v (id b) as ∧ h'.objs.size ∉ as) (ys.map fun y => Value.ref y.2.1) (kvs.map (·.1)) := er.mono fun v b ⟨as, hr⟩ => ⟨as, PyProof.Rows.Reads.keeps (fun b o e => Heap.get?_push_of_some _ e) hr, fun hm => by
      obtain ⟨o, ho⟩ := PyProof.On.reads_mem_get hr _ hm
      exact absurd (Heap.lt_size ho) (Nat.lt_irrefl _)⟩
    refine wpAny_bind (wpAny_holding (PySem.W.list_sort_data (s := { s with heap := h'.push (seqObj "list" (ys.map fun y => Value.ref y.2.1).toArray 0), toks := tk }) hoL ek er2 c1 c2 (by rw [sizeLine_eq]; exact c4) (fun b hb => ?_) fun out ho2 eo => ?_))
    · have := (mem_shaped c3 b hb).2
      show X.A.units + 1 + 1 + b.depth < cLine
      omega
    · obtain ⟨ws, w1, w2⟩ := each_vals eo
      obtain ⟨ce, hce⟩ := PyProof.Rows.sortedHeap_at (vs := ys.map fun y => Value.ref y.2.1) (out := out.toArray) hoL
      have hz2 : ws.length ≤ sizeLine := by
        rw [w1.length, ho2, sizeLine_eq]
        omega
      refine wpAny_pure ⟨_, rfl, .ref h'.objs.size, upd H h'.objs.size (.lst ws), I1.laid (t' := tk) (fun b u e => ?_) (Nat.le_refl _) (show ObjOk X.prog X.w _ _ _ (.lst ws) from ⟨hz2, out, ce, w1, hce⟩), rfl, OkV.lst S q w2 (I1.hok.fresh (Nat.le_refl _))⟩
      have hb : b < h'.objs.size := Heap.lt_size e
      rw [PyProof.Rows.sortedHeap_old (Nat.ne_of_lt hb) (by rw [size_push']; exact Nat.lt_succ_of_lt hb)]
      exact Heap.get?_push_of_some _ e
end
end DL

set_option Elab.async false
set_option linter.all false
set_option maxRecDepth 100000
namespace DL
open PySem PySem.Spec PyProof.Rows L2
def g_is_within : SF := (sRet (fAnd (fIsi "int" (fVar 0)) (fAnd (fNot (fIsi "bool" (fVar 0))) (fChain gLe gLe (fVar 1) (fVar 0) (fVar 2)))))
def F_is_within : DF := fDef 3 g_is_within
theorem E_is_within (d0 d1 d2 : D) (ah : AH) : F_is_within [d0, d1, d2] ah = (g_is_within [some d0, some d1, some d2] ah).fin := rfl
def g_is_square : SF := (sSeq (sIf (tOrF (tNotF (tTru (fIsi "tuple" (fVar 0)))) (tB (f2 gNe (fCall gLen (aCons (fVar 0) aNil)) (fC (.int 2))))) (sRet (fC (.bool false))) sNx) (sRet (fAnd (fCall F_is_within (aCons (f2 gSub2 (fVar 0) (fC (.int 0))) (aCons (fC (.int 0)) (aCons (fC (.int 7)) aNil)))) (fCall F_is_within (aCons (f2 gSub2 (fVar 0) (fC (.int 1))) (aCons (fC (.int 0)) (aCons (fC (.int 7)) aNil)))))))
def F_is_square : DF := fDef 1 g_is_square
theorem E_is_square (d0 : D) (ah : AH) : F_is_square [d0] ah = (g_is_square [some d0] ah).fin := rfl
def g_rises : SF := (sSeq (sFor (iRange2 (aCons (fC (.int 1)) (aCons (fCall gLen (aCons (fVar 0) aNil)) aNil))) (gN 1) (sIf (tB (f2 gLe (f2 gSub2 (fVar 0) (fVar 1)) (f2 gSub2 (fVar 0) (f2 gSub (fVar 1) (fC (.int 1)))))) (sRet (fC (.bool false))) sNx)) (sRet (fC (.bool true))))
def F_rises : DF := fDef 2 g_rises
theorem E_rises (d0 : D) (ah : AH) : F_rises [d0] ah = (g_rises [some d0, none] ah).fin := rfl
def g_checked : SF := (sSeq (sIf (tOrF (tNotF (tTru (fIsi "tuple" (fVar 0)))) (tNotF (tB (fChain gLe gLe (fC (.int 1)) (fCall gLen (aCons (fVar 0) aNil)) (fC (.int 24)))))) (sRaise 1) sNx) (sSeq (sFor (iAny (fVar 0)) (gN 1) (sIf (tNotF (tTru (fCall F_is_square (aCons (fVar 1) aNil)))) (sRaise 1) sNx)) (sSeq (sIf (tNotF (tTru (fCall F_rises (aCons (fVar 0) aNil)))) (sRaise 1) sNx) (sRet (fVar 0)))))
def F_checked : DF := fDef 2 g_checked
theorem E_checked (d0 : D) (ah : AH) : F_checked [d0] ah = (g_checked [some d0, none] ah).fin := rfl
def g__law_cell : SF := (sSeq (sIf (tB (f2 gLt (fVar 1) (fCall gLen (aCons (fVar 0) aNil)))) (sRet (f2 gSub2 (fVar 0) (fVar 1))) sNx) (sRet (fC (.int 0))))
def F__law_cell : DF := fDef 2 g__law_cell
theorem E__law_cell (d0 d1 : D) (ah : AH) : F__law_cell [d0, d1] ah = (g__law_cell [some d0, some d1] ah).fin := rfl
def g__law_mix : SF := (sRet (f2 gMod (f2 gMod (f2 gMulS (fVar 0) (fC (.int 48271))) (fVar 1)) (fVar 2)))
def F__law_mix : DF := fDef 3 g__law_mix
theorem E__law_mix (d0 d1 d2 : D) (ah : AH) : F__law_mix [d0, d1, d2] ah = (g__law_mix [some d0, some d1, some d2] ah).fin := rfl
def g__law_floor : SF := (sSeq (sSet 2 (fCall F__law_cell (aCons (fVar 0) (aCons (fVar 1) aNil)))) (sSeq (sSet 3 (f2 gAdd (fC (.int 1)) (fCall F__law_mix (aCons (fVar 2) (aCons (fC (.int 9973)) (aCons (fC (.int 4)) aNil)))))) (sSeq (sSet 4 (f2 gAdd (fC (.int 1)) (fCall F__law_mix (aCons (fVar 2) (aCons (fC (.int 9967)) (aCons (fC (.int 5)) aNil)))))) (sSeq (sIf (tB (f2 gEq (fCall F__law_mix (aCons (fVar 2) (aCons (fC (.int 9901)) (aCons (fC (.int 8)) aNil)))) (fC (.int 3)))) (sSeq (sSet 3 (f2 gSub2 (fLst (aCons (fC (.int 2)) (aCons (fC (.int 3)) (aCons (fC (.int 8)) (aCons (fC (.int 6)) aNil))))) (fCall F__law_mix (aCons (fVar 2) (aCons (fC (.int 9887)) (aCons (fC (.int 4)) aNil)))))) (sSet 4 (f2 gDiv (fC (.int 24)) (fVar 3)))) sNx) (sSeq (sSet 5 (fCall F__law_mix (aCons (fCall F__law_cell (aCons (fVar 0) (aCons (f2 gAdd (fVar 1) (fC (.int 1))) aNil))) (aCons (fC (.int 9949)) (aCons (f2 gSub (fC (.int 9)) (fVar 3)) aNil))))) (sSeq (sSet 6 (fCall F__law_mix (aCons (fCall F__law_cell (aCons (fVar 0) (aCons (f2 gAdd (fVar 1) (fC (.int 1))) aNil))) (aCons (fC (.int 9941)) (aCons (fCall gMax2 (aCons (fC (.int 1)) (aCons (f2 gSub (fC (.int 9)) (fVar 4)) aNil))) aNil))))) (sSeq (sSet 7 (fLst aNil)) (sSeq (sFor (iRange1 (aCons (fVar 3) aNil)) (gN 8) (sSet 7 (f2 gAdd (fVar 7) (fLc (iRange1 (aCons (fCall gMin2 (aCons (fVar 4) (aCons (fC (.int 8)) aNil))) aNil)) 14 tYesF (fTup (aCons (f2 gAdd (fVar 5) (fVar 8)) (aCons (f2 gAdd (fVar 6) (fVar 14)) aNil))))))) (sSeq (sSet 9 (fLstM aNil)) (sSeq (sFor (iRange1 (aCons (fCall F__law_mix (aCons (fCall F__law_cell (aCons (fVar 0) (aCons (f2 gAdd (fVar 1) (fC (.int 2))) aNil))) (aCons (fC (.int 9931)) (aCons (fC (.int 4)) aNil)))) aNil)) (gN 10) (sSeq (sSet 11 (f2 gAdd (fCall F__law_cell (aCons (fVar 0) (aCons (f2 gAdd (f2 gAdd (fVar 1) (fC (.int 3))) (fVar 10)) aNil))) (f2 gMulS (f2 gMulS (fC (.int 17)) (fVar 10)) (fVar 10)))) (sSeq (sSet 12 (f2 gSub2 (fVar 7) (fCall F__law_mix (aCons (fVar 11) (aCons (fC (.int 9929)) (aCons (fCall gLen (aCons (fVar 7) aNil)) aNil)))))) (sSeq (sExpr (fMt isL gAppend (fVar 9) (aCons (fVar 12) aNil))) (sIf (tB (f2 gGt (fCall F__law_mix (aCons (fVar 11) (aCons (fC (.int 9923)) (aCons (fC (.int 3)) aNil)))) (fC (.int 0)))) (sExpr (fMt isL gAppend (fVar 9) (aCons (fTup (aCons (f2 gSub2 (fVar 12) (fC (.int 0))) (aCons (f2 gAdd (f2 gSub2 (fVar 12) (fC (.int 1))) (fC (.int 1))) aNil))) aNil))) sNx))))) (sSeq (sSet 13 (fCall gTuple (aCons (fLc (iAny (fVar 7)) 12 (tB (f2 gNotIn (fVar 12) (fVar 9))) (fVar 12)) aNil))) (sSeq (sIf (tTru (fVar 13)) (sRet (fVar 13)) sNx) (sRet (fCall gTuple (aCons (fVar 7) aNil)))))))))))))))
def F__law_floor : DF := fDef 15 g__law_floor
theorem E__law_floor (d0 d1 : D) (ah : AH) : F__law_floor [d0, d1] ah = (g__law_floor [some d0, some d1, none, none, none, none, none, none, none, none, none, none, none, none, none] ah).fin := rfl
def g_beside : SF := (sSeq (sAsg (fVar 0) (gPair 1 2)) (sRet (fLst (aCons (fTup (aCons (f2 gSub (fVar 1) (fC (.int 1))) (aCons (fVar 2) aNil))) (aCons (fTup (aCons (fVar 1) (aCons (f2 gSub (fVar 2) (fC (.int 1))) aNil))) (aCons (fTup (aCons (fVar 1) (aCons (f2 gAdd (fVar 2) (fC (.int 1))) aNil))) (aCons (fTup (aCons (f2 gAdd (fVar 1) (fC (.int 1))) (aCons (fVar 2) aNil))) aNil)))))))
def F_beside : DF := fDef 3 g_beside
theorem E_beside (d0 : D) (ah : AH) : F_beside [d0] ah = (g_beside [some d0, none, none] ah).fin := rfl
def g_is_stone : SF := (sSeq (sIf (tOrF (tNotF (tTru (fIsi "tuple" (fVar 0)))) (tOrF (tB (f2 gNe (fCall gLen (aCons (fVar 0) aNil)) (fC (.int 2)))) (tOrF (tNotF (tTru (fCall F_is_square (aCons (f2 gSub2 (fVar 0) (fC (.int 0))) aNil)))) (tNotF (tTru (fCall F_is_square (aCons (f2 gSub2 (fVar 0) (fC (.int 1))) aNil))))))) (sRet (fC (.bool false))) sNx) (sRet (fAnd (f2 gIn (f2 gSub2 (fVar 0) (fC (.int 1))) (fCall F_beside (aCons (f2 gSub2 (fVar 0) (fC (.int 0))) aNil))) (f2 gLt (f2 gSub2 (fVar 0) (fC (.int 0))) (f2 gSub2 (fVar 0) (fC (.int 1)))))))
def F_is_stone : DF := fDef 1 g_is_stone
theorem E_is_stone (d0 : D) (ah : AH) : F_is_stone [d0] ah = (g_is_stone [some d0] ah).fin := rfl
def g_checked_laying : SF := (sSeq (sIf (tNotF (tTru (fIsi "tuple" (fVar 1)))) (sRaise 2) sNx) (sSeq (sSet 2 (fLstM aNil)) (sSeq (sFor (iAny (fVar 1)) (gN 3) (sSeq (sIf (tNotF (tTru (fCall F_is_stone (aCons (fVar 3) aNil)))) (sRaise 2) sNx) (sExpr (fMt isL gExtend (fVar 2) (aCons (fVar 3) aNil))))) (sSeq (sIf (tOrF (tNotF (tTru (fCall F_rises (aCons (fVar 1) aNil)))) (tB (f2 gNe (fCall gTuple (aCons (fCall gSortedL (aCons (fVar 2) aNil)) aNil)) (fVar 0)))) (sRaise 2) sNx) (sRet (fVar 1))))))
def F_checked_laying : DF := fDef 4 g_checked_laying
theorem E_checked_laying (d0 d1 : D) (ah : AH) : F_checked_laying [d0, d1] ah = (g_checked_laying [some d0, some d1, none, none] ah).fin := rfl
def g__law_near : SF := (sSeq (sAsg (fVar 1) (gPair 2 3)) (sRet (fLc (iAny (fLst (aCons (fTup (aCons (f2 gSub (fVar 2) (fC (.int 1))) (aCons (fVar 3) aNil))) (aCons (fTup (aCons (fVar 2) (aCons (f2 gSub (fVar 3) (fC (.int 1))) aNil))) (aCons (fTup (aCons (fVar 2) (aCons (f2 gAdd (fVar 3) (fC (.int 1))) aNil))) (aCons (fTup (aCons (f2 gAdd (fVar 2) (fC (.int 1))) (aCons (fVar 3) aNil))) aNil)))))) 4 (tB (f2 gIn (fVar 4) (fVar 0))) (fVar 4))))
def F__law_near : DF := fDef 5 g__law_near
theorem E__law_near (d0 d1 : D) (ah : AH) : F__law_near [d0, d1] ah = (g__law_near [some d0, some d1, none, none, none] ah).fin := rfl
def g__law_every (Fr : DF) : SF := (sSeq (sIf (tNotF (tTru (fVar 0))) (sRet (fLst (aCons (fLst aNil) aNil))) sNx) (sSeq (sIf (tB (f2 gNotIn (fVar 0) (fVar 1))) (sSeq (sSet 2 (fLst aNil)) (sSeq (sSet 3 (f2 gSub2 (fVar 0) (fNeg (fC (.int 1))))) (sSeq (sFor (iAny (fCall F__law_near (aCons (fVar 0) (aCons (fVar 3) aNil)))) (gN 4) (sSeq (sSet 5 (fCall gTuple (aCons (fLc (iAny (fVar 0)) 6 (tAndF (tB (f2 gNe (fVar 6) (fVar 3))) (tB (f2 gNe (fVar 6) (fVar 4)))) (fVar 6)) aNil))) (sSet 2 (f2 gAdd (fVar 2) (fLc (iAny (fCall Fr (aCons (fVar 5) (aCons (fVar 1) aNil)))) 7 tYesF (f2 gAdd (fVar 7) (fLst (aCons (fTup (aCons (fVar 4) (aCons (fVar 3) aNil))) aNil)))))))) (sDPut (fVar 1) (fVar 0) (fVar 2))))) sNx) (sRet (f2 gSub2 (fVar 1) (fVar 0)))))
def F__law_every : Nat → DF
  | 0 => fun _ _ => .bad
  | n + 1 => fDef 8 (g__law_every (F__law_every n))
theorem E__law_every (n : Nat) (d0 d1 : D) (ah : AH) : F__law_every (n + 1) [d0, d1] ah = (g__law_every (F__law_every n) [some d0, some d1, none, none, none, none, none, none] ah).fin := rfl
def g__law_all : SF := (sRet (fCall gSortedL (aCons (fLc (iAny (fCall (F__law_every 26) (aCons (fVar 0) (aCons fDict aNil)))) 1 tYesF (fCall gTuple (aCons (fCall gSortedL (aCons (fVar 1) aNil)) aNil))) aNil)))
def F__law_all : DF := fDef 2 g__law_all
theorem E__law_all (d0 : D) (ah : AH) : F__law_all [d0] ah = (g__law_all [some d0, none] ah).fin := rfl
def g_is_light : SF := (sRet (f2 gEq (f2 gMod (f2 gAdd (f2 gSub2 (fVar 0) (fC (.int 0))) (f2 gSub2 (fVar 0) (fC (.int 1)))) (fC (.int 2))) (fC (.int 0))))
def F_is_light : DF := fDef 1 g_is_light
theorem E_is_light (d0 : D) (ah : AH) : F_is_light [d0] ah = (g_is_light [some d0] ah).fin := rfl
def g_neighbours : SF := (sRet (fLc (iAny (fCall F_beside (aCons (fVar 1) aNil))) 2 (tB (f2 gIn (fVar 2) (fVar 0))) (fVar 2)))
def F_neighbours : DF := fDef 3 g_neighbours
theorem E_neighbours (d0 d1 : D) (ah : AH) : F_neighbours [d0, d1] ah = (g_neighbours [some d0, some d1, none] ah).fin := rfl
def g_stone_of : SF := (sSeq (sIf (tB (f2 gLt (fVar 0) (fVar 1))) (sRet (fTup (aCons (fVar 0) (aCons (fVar 1) aNil)))) sNx) (sRet (fTup (aCons (fVar 1) (aCons (fVar 0) aNil)))))
def F_stone_of : DF := fDef 2 g_stone_of
theorem E_stone_of (d0 d1 : D) (ah : AH) : F_stone_of [d0, d1] ah = (g_stone_of [some d0, some d1] ah).fin := rfl
def g_way_on : SF := (sSeq (sSet 3 fDict) (sSeq (sSet 4 (fLstM (aCons (fVar 1) aNil))) (sSeq (sWhile (tTru (fVar 4)) (sSeq (sSet 5 (fMt isL gPopAt (fVar 4) (aCons (fC (.int 0)) aNil))) (sFor (iAny (fCall F_neighbours (aCons (fVar 0) (aCons (fVar 5) aNil)))) (gN 6) (sIf (tB (f2 gNotIn (fVar 6) (fVar 3))) (sSeq (sDPut (fVar 3) (fVar 6) (fVar 5)) (sSeq (sIf (tB (f2 gNotIn (fVar 6) (fVar 2))) (sRet (fTup (aCons (fVar 6) (aCons (fFrz (fVar 3)) aNil)))) sNx) (sExpr (fMt isL gAppend (fVar 4) (aCons (f2 gSub2 (fVar 2) (fVar 6)) aNil))))) sNx))) 100000) (sRet (fTup (aCons (fC .none) (aCons (fFrz (fVar 3)) aNil)))))))
def F_way_on : DF := fDef 7 g_way_on
theorem E_way_on (d0 d1 d2 : D) (ah : AH) : F_way_on [d0, d1, d2] ah = (g_way_on [some d0, some d1, some d2, none, none, none, none] ah).fin := rfl
def g_hold : SF := (sWhile (tTru (fC (.bool true))) (sSeq (sSet 4 (f2 gSub2 (fVar 2) (fVar 1))) (sSeq (sSet 5 (fLc (iAny (fVar 3)) 6 (tB (f2 gEq (f2 gSub2 (fVar 3) (fVar 6)) (fVar 4))) (fVar 6))) (sSeq (sDPut (fVar 3) (fVar 1) (fVar 4)) (sSeq (sIf (tB (f2 gEq (fVar 4) (fVar 0))) sRetN sNx) (sSet 1 (f2 gSub2 (fVar 5) (fC (.int 0)))))))) 100000)
def F_hold : DF := fDef 7 g_hold
theorem E_hold (d0 d1 d2 d3 : D) (ah : AH) : F_hold [d0, d1, d2, d3] ah = (g_hold [some d0, some d1, some d2, some d3, none, none, none] ah).fin := rfl
def g_dark_crowd : SF := (sSeq (sSet 3 fDict) (sSeq (sFor (iAny (fVar 2)) (gN 4) (sDPut (fVar 3) (f2 gSub2 (fVar 2) (fVar 4)) (fVar 4))) (sSeq (sSet 5 (fDisp1 (fVar 1) (fC (.bool true)))) (sSeq (sSet 6 (fLstM (aCons (fVar 1) aNil))) (sSeq (sWhile (tTru (fVar 6)) (sFor (iAny (fCall F_neighbours (aCons (fVar 0) (aCons (fMt0 isL gPop (fVar 6)) aNil)))) (gN 7) (sIf (tB (f2 gNotIn (f2 gSub2 (fVar 3) (fVar 7)) (fVar 5))) (sSeq (sDPut (fVar 5) (f2 gSub2 (fVar 3) (fVar 7)) (fC (.bool true))) (sExpr (fMt isL gAppend (fVar 6) (aCons (f2 gSub2 (fVar 3) (fVar 7)) aNil)))) sNx)) 100000) (sRet (fCall gSortedK (aCons (fVar 5) aNil))))))))
def F_dark_crowd : DF := fDef 8 g_dark_crowd
theorem E_dark_crowd (d0 d1 d2 : D) (ah : AH) : F_dark_crowd [d0, d1, d2] ah = (g_dark_crowd [some d0, some d1, some d2, none, none, none, none, none] ah).fin := rfl
def g_laid : SF := (sSeq (sSet 1 fDict) (sSeq (sFor (iAny (fVar 0)) (gN 2) (sIf (tTru (fCall F_is_light (aCons (fVar 2) aNil))) (sSeq (sAsg (fCall F_way_on (aCons (fVar 0) (aCons (fVar 2) (aCons (fVar 1) aNil)))) (gPair 3 4)) (sSeq (sIf (tB (f2 gIs (fVar 3) (fC .none))) (sRet (fTup (aCons (fC (.str "crowd")) (aCons (fCall gSortedL (aCons (f2 gAdd (fLst (aCons (fVar 2) aNil)) (fLc (iAny (fVar 4)) 6 tYesF (f2 gSub2 (fVar 1) (fVar 6)))) aNil)) aNil)))) sNx) (sExpr (fCall F_hold (aCons (fVar 2) (aCons (fVar 3) (aCons (fVar 4) (aCons (fVar 1) aNil)))))))) sNx)) (sSeq (sSet 5 (fLc (iAny (fVar 0)) 2 (tAndF (tNotF (tTru (fCall F_is_light (aCons (fVar 2) aNil)))) (tB (f2 gNotIn (fVar 2) (fVar 1)))) (fVar 2))) (sSeq (sFrz 1) (sSeq (sIf (tTru (fVar 5)) (sRet (fTup (aCons (fC (.str "crowd")) (aCons (fCall F_dark_crowd (aCons (fVar 0) (aCons (f2 gSub2 (fVar 5) (fC (.int 0))) (aCons (fVar 1) aNil)))) aNil)))) sNx) (sRet (fTup (aCons (fC (.str "laid")) (aCons (fCall gTuple (aCons (fCall gSortedL (aCons (fLc (iAny (fVar 1)) 2 tYesF (fCall F_stone_of (aCons (fVar 2) (aCons (f2 gSub2 (fVar 1) (fVar 2)) aNil)))) aNil)) aNil)) aNil)))))))))
def F_laid : DF := fDef 7 g_laid
theorem E_laid (d0 : D) (ah : AH) : F_laid [d0] ah = (g_laid [some d0, none, none, none, none, none, none] ah).fin := rfl
def g__law_is_laying : SF := (sSeq (sIf (tNotF (tTru (fIsi "tuple" (fVar 1)))) (sRet (fC (.bool false))) sNx) (sSeq (sSet 2 (fLst aNil)) (sSeq (sFor (iEnumT (aCons (fVar 1) aNil)) (gPair 3 4) (sSeq (sIf (tOrF (tNotF (tTru (fIsi "tuple" (fVar 4)))) (tOrF (tB (f2 gNe (fCall gLen (aCons (fVar 4) aNil)) (fC (.int 2)))) (tNotF (tB (f2 gLt (f2 gSub2 (fVar 4) (fC (.int 0))) (f2 gSub2 (fVar 4) (fC (.int 1)))))))) (sRet (fC (.bool false))) sNx) (sSeq (sIf (tOrF (tB (f2 gNotIn (f2 gSub2 (fVar 4) (fC (.int 1))) (fCall F__law_near (aCons (fVar 0) (aCons (f2 gSub2 (fVar 4) (fC (.int 0))) aNil))))) (tAndF (tB (f2 gGt (fVar 3) (fC (.int 0)))) (tB (f2 gLe (fVar 4) (f2 gSub2 (fVar 1) (f2 gSub (fVar 3) (fC (.int 1)))))))) (sRet (fC (.bool false))) sNx) (sSet 2 (f2 gAdd (fVar 2) (fLst (aCons (f2 gSub2 (fVar 4) (fC (.int 0))) (aCons (f2 gSub2 (fVar 4) (fC (.int 1))) aNil)))))))) (sRet (f2 gEq (fCall gSortedL (aCons (fVar 2) aNil)) (fCall gList (aCons (fVar 0) aNil)))))))
def F__law_is_laying : DF := fDef 5 g__law_is_laying
theorem E__law_is_laying (d0 d1 : D) (ah : AH) : F__law_is_laying [d0, d1] ah = (g__law_is_laying [some d0, some d1, none, none, none] ah).fin := rfl
def g__law_is_crowd : SF := (sSeq (sIf (tOrF (tNotF (tTru (fIsi "list" (fVar 1)))) (tB (f2 gNe (fVar 1) (fSSet (fVar 1))))) (sRet (fC (.bool false))) sNx) (sSeq (sIf (tTru (fLc (iAny (fVar 1)) 3 (tOrF (tB (f2 gNotIn (fVar 3) (fVar 0))) (tB (f2 gNe (f2 gMod (fCall gSum (aCons (fVar 3) aNil)) (fC (.int 2))) (f2 gMod (fCall gSum (aCons (f2 gSub2 (fVar 1) (fC (.int 0))) aNil)) (fC (.int 2)))))) (fVar 3))) (sRet (fC (.bool false))) sNx) (sSeq (sSet 2 (fLst aNil)) (sSeq (sFor (iAny (fVar 1)) (gN 3) (sSet 2 (f2 gAdd (fVar 2) (fCall F__law_near (aCons (fVar 0) (aCons (fVar 3) aNil)))))) (sRet (f2 gLt (fLSet (fVar 2)) (fCall gLen (aCons (fVar 1) aNil))))))))
def F__law_is_crowd : DF := fDef 4 g__law_is_crowd
theorem E__law_is_crowd (d0 d1 : D) (ah : AH) : F__law_is_crowd [d0, d1] ah = (g__law_is_crowd [some d0, some d1, none, none] ah).fin := rfl
def g_after (Fr : DF) : SF := (sSeq (sIf (tNotF (tTru (fVar 0))) (sRet (fC (.int 1))) sNx) (sSeq (sIf (tB (f2 gNotIn (fVar 0) (fVar 1))) (sSeq (sSet 2 (fC (.int 0))) (sSeq (sFor (iAny (fCall F_neighbours (aCons (fVar 0) (aCons (f2 gSub2 (fVar 0) (fC (.int 0))) aNil)))) (gN 3) (sSeq (sSet 4 (fCall gTuple (aCons (fLc (iAny (fSlice (fVar 0) (pSome (fC (.int 1))) pNo)) 5 (tB (f2 gNe (fVar 5) (fVar 3))) (fVar 5)) aNil))) (sSet 2 (f2 gAdd (fVar 2) (fCall Fr (aCons (fVar 4) (aCons (fVar 1) aNil))))))) (sDPut (fVar 1) (fVar 0) (fVar 2)))) sNx) (sRet (f2 gSub2 (fVar 1) (fVar 0)))))
def F_after : Nat → DF
  | 0 => fun _ _ => .bad
  | n + 1 => fDef 6 (g_after (F_after n))
theorem E_after (n : Nat) (d0 d1 : D) (ah : AH) : F_after (n + 1) [d0, d1] ah = (g_after (F_after n) [some d0, some d1, none, none, none, none] ah).fin := rfl
def g_count : SF := (sRet (fCall (F_after 26) (aCons (fVar 0) (aCons fDict aNil))))
def F_count : DF := fDef 1 g_count
theorem E_count (d0 : D) (ah : AH) : F_count [d0] ah = (g_count [some d0] ah).fin := rfl
def g_ways (Fr : DF) : SF := (sSeq (sIf (tNotF (tTru (fVar 0))) (sRet (fLst (aCons (fLst aNil) aNil))) sNx) (sSeq (sSet 1 (fLstM aNil)) (sSeq (sFor (iAny (fCall F_neighbours (aCons (fVar 0) (aCons (f2 gSub2 (fVar 0) (fC (.int 0))) aNil)))) (gN 2) (sSeq (sSet 3 (fCall gTuple (aCons (fLc (iAny (fSlice (fVar 0) (pSome (fC (.int 1))) pNo)) 4 (tB (f2 gNe (fVar 4) (fVar 2))) (fVar 4)) aNil))) (sExpr (fMt isL gExtend (fVar 1) (aCons (fLc (iAny (fCall Fr (aCons (fVar 3) aNil))) 5 tYesF (f2 gAdd (fLst (aCons (fTup (aCons (f2 gSub2 (fVar 0) (fC (.int 0))) (aCons (fVar 2) aNil))) aNil)) (fVar 5))) aNil))))) (sRet (fFrz (fVar 1))))))
def F_ways : Nat → DF
  | 0 => fun _ _ => .bad
  | n + 1 => fDef 6 (g_ways (F_ways n))
theorem E_ways (n : Nat) (d0 : D) (ah : AH) : F_ways (n + 1) [d0] ah = (g_ways (F_ways n) [some d0, none, none, none, none, none] ah).fin := rfl
def g_all_layings : SF := (sSeq (sIf (tB (f2 gGt (fCall F_count (aCons (fVar 0) aNil)) (fC (.int 200)))) (sRaise 3) sNx) (sRet (fCall gSortedL (aCons (fLc (iAny (fCall (F_ways 26) (aCons (fVar 0) aNil))) 1 tYesF (fCall gTuple (aCons (fCall gSortedL (aCons (fVar 1) aNil)) aNil))) aNil))))
def F_all_layings : DF := fDef 2 g_all_layings
theorem E_all_layings (d0 : D) (ah : AH) : F_all_layings [d0] ah = (g_all_layings [some d0, none] ah).fin := rfl
def g__law_whole : SF := (sRet (fAnd (fIsi "int" (fVar 0)) (fNot (fIsi "bool" (fVar 0)))))
def F__law_whole : DF := fDef 1 g__law_whole
theorem E__law_whole (d0 : D) (ah : AH) : F__law_whole [d0] ah = (g__law_whole [some d0] ah).fin := rfl
def g__law_whole_floor : SF := (sSeq (sSet 4 (fLst aNil)) (sSeq (sFor (iRange1 (aCons (fVar 0) aNil)) (gN 5) (sSet 4 (f2 gAdd (fVar 4) (fLc (iRange1 (aCons (fVar 1) aNil)) 6 tYesF (fTup (aCons (f2 gAdd (fVar 2) (fVar 5)) (aCons (f2 gAdd (fVar 3) (fVar 6)) aNil))))))) (sRet (fCall gTuple (aCons (fVar 4) aNil)))))
def F__law_whole_floor : DF := fDef 7 g__law_whole_floor
theorem E__law_whole_floor (d0 d1 d2 d3 : D) (ah : AH) : F__law_whole_floor [d0, d1, d2, d3] ah = (g__law_whole_floor [some d0, some d1, some d2, some d3, none, none, none] ah).fin := rfl
def g_fixed : SF := (sSeq (sSet 1 (fCall F_count (aCons (fVar 0) aNil))) (sSeq (sSet 2 (fLstM aNil)) (sSeq (sFor (iAny (fVar 0)) (gN 3) (sFor (iAny (fCall F_neighbours (aCons (fVar 0) (aCons (fVar 3) aNil)))) (gN 4) (sSeq (sSet 5 (fCall gTuple (aCons (fLc (iAny (fVar 0)) 6 (tAndF (tB (f2 gNe (fVar 6) (fVar 3))) (tB (f2 gNe (fVar 6) (fVar 4)))) (fVar 6)) aNil))) (sIf (tAndF (tB (f2 gLt (fVar 3) (fVar 4))) (tAndF (tB (f2 gGt (fVar 1) (fC (.int 0)))) (tB (f2 gEq (fCall F_count (aCons (fVar 5) aNil)) (fVar 1))))) (sExpr (fMt isL gAppend (fVar 2) (aCons (fTup (aCons (fVar 3) (aCons (fVar 4) aNil))) aNil))) sNx)))) (sRet (fFrz (fVar 2))))))
def F_fixed : DF := fDef 7 g_fixed
theorem E_fixed (d0 : D) (ah : AH) : F_fixed [d0] ah = (g_fixed [some d0, none, none, none, none, none, none] ah).fin := rfl
def g_lying : SF := (sSeq (sAsg (fVar 0) (gPair 1 2)) (sSeq (sSet 3 (fTup (aCons (fVar 1) (aCons (f2 gAdd (fVar 2) (fC (.int 1))) aNil)))) (sSeq (sSet 4 (fTup (aCons (f2 gAdd (fVar 1) (fC (.int 1))) (aCons (fVar 2) aNil)))) (sSeq (sSet 5 (fTup (aCons (f2 gAdd (fVar 1) (fC (.int 1))) (aCons (f2 gAdd (fVar 2) (fC (.int 1))) aNil)))) (sRet (fTup (aCons (fLst (aCons (fTup (aCons (fVar 0) (aCons (fVar 3) aNil))) (aCons (fTup (aCons (fVar 4) (aCons (fVar 5) aNil))) aNil))) (aCons (fLst (aCons (fTup (aCons (fVar 0) (aCons (fVar 4) aNil))) (aCons (fTup (aCons (fVar 3) (aCons (fVar 5) aNil))) aNil))) aNil))))))))
def F_lying : DF := fDef 6 g_lying
theorem E_lying (d0 : D) (ah : AH) : F_lying [d0] ah = (g_lying [some d0, none, none, none, none, none] ah).fin := rfl
def g_has_all : SF := (sRet (fAnd (f2 gIn (f2 gSub2 (fVar 1) (fC (.int 0))) (fVar 0)) (f2 gIn (f2 gSub2 (fVar 1) (fC (.int 1))) (fVar 0))))
def F_has_all : DF := fDef 2 g_has_all
theorem E_has_all (d0 d1 : D) (ah : AH) : F_has_all [d0, d1] ah = (g_has_all [some d0, some d1] ah).fin := rfl
def g_turns : SF := (sSeq (sSet 1 (fLstM aNil)) (sSeq (sFor (iAny (fVar 0)) (gN 2) (sSeq (sAsg (fCall F_lying (aCons (f2 gSub2 (fVar 2) (fC (.int 0))) aNil)) (gPair 3 4)) (sIf (tOrF (tTru (fCall F_has_all (aCons (fVar 0) (aCons (fVar 3) aNil)))) (tTru (fCall F_has_all (aCons (fVar 0) (aCons (fVar 4) aNil))))) (sExpr (fMt isL gAppend (fVar 1) (aCons (f2 gSub2 (fVar 2) (fC (.int 0))) aNil))) sNx))) (sRet (fCall gSortedL (aCons (fVar 1) aNil)))))
def F_turns : DF := fDef 5 g_turns
theorem E_turns (d0 : D) (ah : AH) : F_turns [d0] ah = (g_turns [some d0, none, none, none, none] ah).fin := rfl
def g_exchanged : SF := (sRet (fCall gTuple (aCons (fCall gSortedL (aCons (f2 gAdd (fLc (iAny (fVar 0)) 3 (tB (f2 gNotIn (fVar 3) (fVar 1))) (fVar 3)) (fVar 2)) aNil)) aNil)))
def F_exchanged : DF := fDef 4 g_exchanged
theorem E_exchanged (d0 d1 d2 : D) (ah : AH) : F_exchanged [d0, d1, d2] ah = (g_exchanged [some d0, some d1, some d2, none] ah).fin := rfl
def g_turned : SF := (sSeq (sIf (tOrF (tNotF (tTru (fCall F_is_square (aCons (fVar 1) aNil)))) (tB (f2 gNotIn (fVar 1) (fCall F_turns (aCons (fVar 0) aNil))))) (sRaise 4) sNx) (sSeq (sAsg (fCall F_lying (aCons (fVar 1) aNil)) (gPair 2 3)) (sSeq (sIf (tTru (fCall F_has_all (aCons (fVar 0) (aCons (fVar 2) aNil)))) (sRet (fCall F_exchanged (aCons (fVar 0) (aCons (fVar 2) (aCons (fVar 3) aNil))))) sNx) (sRet (fCall F_exchanged (aCons (fVar 0) (aCons (fVar 3) (aCons (fVar 2) aNil))))))))
def F_turned : DF := fDef 4 g_turned
theorem E_turned (d0 d1 : D) (ah : AH) : F_turned [d0, d1] ah = (g_turned [some d0, some d1, none, none] ah).fin := rfl
def g__law_four : SF := (sSeq (sAsg (fVar 0) (gPair 1 2)) (sSeq (sSet 3 (fLst (aCons (fTup (aCons (fTup (aCons (fVar 1) (aCons (fVar 2) aNil))) (aCons (fTup (aCons (fVar 1) (aCons (f2 gAdd (fVar 2) (fC (.int 1))) aNil))) aNil))) (aCons (fTup (aCons (fTup (aCons (f2 gAdd (fVar 1) (fC (.int 1))) (aCons (fVar 2) aNil))) (aCons (fTup (aCons (f2 gAdd (fVar 1) (fC (.int 1))) (aCons (f2 gAdd (fVar 2) (fC (.int 1))) aNil))) aNil))) aNil)))) (sRet (fTup (aCons (fVar 3) (aCons (fLst (aCons (fTup (aCons (fTup (aCons (fVar 1) (aCons (fVar 2) aNil))) (aCons (fTup (aCons (f2 gAdd (fVar 1) (fC (.int 1))) (aCons (fVar 2) aNil))) aNil))) (aCons (fTup (aCons (fTup (aCons (fVar 1) (aCons (f2 gAdd (fVar 2) (fC (.int 1))) aNil))) (aCons (fTup (aCons (f2 gAdd (fVar 1) (fC (.int 1))) (aCons (f2 gAdd (fVar 2) (fC (.int 1))) aNil))) aNil))) aNil))) aNil))))))
def F__law_four : DF := fDef 4 g__law_four
theorem E__law_four (d0 : D) (ah : AH) : F__law_four [d0] ah = (g__law_four [some d0, none, none, none] ah).fin := rfl
def g__law_turns : SF := (sSeq (sSet 1 (fLstM aNil)) (sSeq (sFor (iRange1 (aCons (fC (.int 8)) aNil)) (gN 2) (sFor (iRange1 (aCons (fC (.int 8)) aNil)) (gN 3) (sSeq (sAsg (fCall F__law_four (aCons (fTup (aCons (fVar 2) (aCons (fVar 3) aNil))) aNil)) (gPair 4 5)) (sSeq (sSet 6 (fCall gLen (aCons (fLc (iAny (fVar 4)) 7 (tB (f2 gIn (fVar 7) (fVar 0))) (fVar 7)) aNil))) (sIf (tOrF (tB (f2 gEq (fVar 6) (fC (.int 2)))) (tB (f2 gEq (fCall gLen (aCons (fLc (iAny (fVar 5)) 7 (tB (f2 gIn (fVar 7) (fVar 0))) (fVar 7)) aNil)) (fC (.int 2))))) (sExpr (fMt isL gAppend (fVar 1) (aCons (fTup (aCons (fVar 2) (aCons (fVar 3) aNil))) aNil))) sNx))))) (sRet (fFrz (fVar 1)))))
def F__law_turns : DF := fDef 8 g__law_turns
theorem E__law_turns (d0 : D) (ah : AH) : F__law_turns [d0] ah = (g__law_turns [some d0, none, none, none, none, none, none, none] ah).fin := rfl
def g__law_turned : SF := (sSeq (sAsg (fCall F__law_four (aCons (fVar 1) aNil)) (gPair 2 3)) (sSeq (sIf (tB (f2 gIn (f2 gSub2 (fVar 2) (fC (.int 0))) (fVar 0))) (sRet (fCall gTuple (aCons (fCall gSortedL (aCons (f2 gAdd (fLc (iAny (fVar 0)) 4 (tB (f2 gNotIn (fVar 4) (fVar 2))) (fVar 4)) (fVar 3)) aNil)) aNil))) sNx) (sRet (fCall gTuple (aCons (fCall gSortedL (aCons (f2 gAdd (fLc (iAny (fVar 0)) 4 (tB (f2 gNotIn (fVar 4) (fVar 3))) (fVar 4)) (fVar 2)) aNil)) aNil)))))
def F__law_turned : DF := fDef 5 g__law_turned
theorem E__law_turned (d0 d1 : D) (ah : AH) : F__law_turned [d0, d1] ah = (g__law_turned [some d0, some d1, none, none, none] ah).fin := rfl
def g_road : SF := (sSeq (sSet 3 (fCall gLen (aCons (fCall F_all_layings (aCons (fVar 0) aNil)) aNil))) (sSeq (sSet 4 (fDisp1 (fVar 1) (fC .none))) (sSeq (sSet 5 (fLstM (aCons (fVar 1) aNil))) (sSeq (sWhile (tAndF (tTru (fVar 5)) (tAndF (tB (f2 gNotIn (fVar 2) (fVar 4))) (tB (f2 gLt (fCall gLen (aCons (fVar 4) aNil)) (fVar 3))))) (sSeq (sSet 6 (fMt isL gPopAt (fVar 5) (aCons (fC (.int 0)) aNil))) (sFor (iAny (fCall F_turns (aCons (fVar 6) aNil))) (gN 7) (sSeq (sSet 8 (fCall F_turned (aCons (fVar 6) (aCons (fVar 7) aNil)))) (sIf (tB (f2 gNotIn (fVar 8) (fVar 4))) (sSeq (sDPut (fVar 4) (fVar 8) (fTup (aCons (fVar 6) (aCons (fVar 7) aNil)))) (sExpr (fMt isL gAppend (fVar 5) (aCons (fVar 8) aNil)))) sNx)))) 100000) (sSeq (sIf (tB (f2 gNotIn (fVar 2) (fVar 4))) (sRet (fC .none)) sNx) (sSeq (sSet 9 (fLstM aNil)) (sSeq (sWhile (tB (f2 gIsNot (f2 gSub2 (fVar 4) (fVar 2)) (fC .none))) (sSeq (sAsg (f2 gSub2 (fVar 4) (fVar 2)) (gPair 2 7)) (sExpr (fMt isL gAppend (fVar 9) (aCons (fVar 7) aNil)))) 100000) (sSeq (sExpr (fMt0 isL gReverse (fVar 9))) (sRet (fFrz (fVar 9)))))))))))
def F_road : DF := fDef 10 g_road
theorem E_road (d0 d1 d2 : D) (ah : AH) : F_road [d0, d1, d2] ah = (g_road [some d0, some d1, some d2, none, none, none, none, none, none, none] ah).fin := rfl
def g__law_far : SF := (sSeq (sSet 2 (fDisp1 (fVar 0) (fC (.int 0)))) (sSeq (sSet 3 (fLstM (aCons (fVar 0) aNil))) (sSeq (sWhile (tTru (fVar 3)) (sSeq (sSet 4 (fMt isL gPopAt (fVar 3) (aCons (fC (.int 0)) aNil))) (sSeq (sIf (tB (f2 gEq (fVar 4) (fVar 1))) (sRet (f2 gSub2 (fVar 2) (fVar 4))) sNx) (sFor (iAny (fCall F__law_turns (aCons (fVar 4) aNil))) (gN 5) (sSeq (sSet 6 (fCall F__law_turned (aCons (fVar 4) (aCons (fVar 5) aNil)))) (sIf (tB (f2 gNotIn (fVar 6) (fVar 2))) (sSeq (sDPut (fVar 2) (fVar 6) (f2 gAdd (f2 gSub2 (fVar 2) (fVar 4)) (fC (.int 1)))) (sExpr (fMt isL gAppend (fVar 3) (aCons (fVar 6) aNil)))) sNx))))) 100000) (sRet (fC .none)))))
def F__law_far : DF := fDef 7 g__law_far
theorem E__law_far (d0 d1 : D) (ah : AH) : F__law_far [d0, d1] ah = (g__law_far [some d0, some d1, none, none, none, none, none] ah).fin := rfl
def g_around : SF := (sSeq (sAsg (fVar 0) (gPair 1 2)) (sSeq (sSet 3 (fLstM aNil)) (sSeq (sFor (iAny (fTup (aCons (fNeg (fC (.int 1))) (aCons (fC (.int 0)) (aCons (fC (.int 1)) aNil))))) (gN 4) (sExpr (fMt isL gExtend (fVar 3) (aCons (fLc (iAny (fTup (aCons (fNeg (fC (.int 1))) (aCons (fC (.int 0)) (aCons (fC (.int 1)) aNil))))) 5 tYesF (fTup (aCons (f2 gAdd (fVar 1) (fVar 4)) (aCons (f2 gAdd (fVar 2) (fVar 5)) aNil)))) aNil)))) (sSeq (sFrz 3) (sRet (fLc (iAny (fVar 3)) 6 (tB (f2 gNe (fVar 6) (fVar 0))) (fVar 6)))))))
def F_around : DF := fDef 7 g_around
theorem E_around (d0 : D) (ah : AH) : F_around [d0] ah = (g_around [some d0, none, none, none, none, none, none] ah).fin := rfl
def tab_reached : Nat → Option DF := fun n => match n with | 0 => some F_beside | 1 => some F_around | _ => none
def g_reached : SF := (sSeq (sSet 3 (fDisp1 (fVar 1) (fC (.bool true)))) (sSeq (sSet 4 (fLstM (aCons (fVar 1) aNil))) (sSeq (sWhile (tTru (fVar 4)) (sFor (iAny (fCallV tab_reached 2 (aCons (fMt0 isL gPop (fVar 4)) aNil))) (gN 5) (sIf (tAndF (tB (f2 gIn (fVar 5) (fVar 0))) (tB (f2 gNotIn (fVar 5) (fVar 3)))) (sSeq (sDPut (fVar 3) (fVar 5) (fC (.bool true))) (sExpr (fMt isL gAppend (fVar 4) (aCons (fVar 5) aNil)))) sNx)) 100000) (sRet (fFrz (fVar 3))))))
def F_reached : DF := fDef 6 g_reached
theorem E_reached (d0 d1 d2 : D) (ah : AH) : F_reached [d0, d1, d2] ah = (g_reached [some d0, some d1, some d2, none, none, none] ah).fin := rfl
def g_is_pinched : SF := (sSeq (sFor (iRange1 (aCons (fC (.int 7)) aNil)) (gN 1) (sFor (iRange1 (aCons (fC (.int 7)) aNil)) (gN 2) (sSeq (sSet 3 (fLst (aCons (f2 gIn (fTup (aCons (fVar 1) (aCons (fVar 2) aNil))) (fVar 0)) (aCons (f2 gIn (fTup (aCons (f2 gAdd (fVar 1) (fC (.int 1))) (aCons (f2 gAdd (fVar 2) (fC (.int 1))) aNil))) (fVar 0)) aNil)))) (sSeq (sSet 4 (fLst (aCons (f2 gIn (fTup (aCons (fVar 1) (aCons (f2 gAdd (fVar 2) (fC (.int 1))) aNil))) (fVar 0)) (aCons (f2 gIn (fTup (aCons (f2 gAdd (fVar 1) (fC (.int 1))) (aCons (fVar 2) aNil))) (fVar 0)) aNil)))) (sIf (tAndF (tB (f2 gEq (f2 gSub2 (fVar 3) (fC (.int 0))) (f2 gSub2 (fVar 3) (fC (.int 1))))) (tAndF (tB (f2 gEq (f2 gSub2 (fVar 4) (fC (.int 0))) (f2 gSub2 (fVar 4) (fC (.int 1))))) (tB (f2 gNe (f2 gSub2 (fVar 3) (fC (.int 0))) (f2 gSub2 (fVar 4) (fC (.int 0))))))) (sRet (fC (.bool true))) sNx))))) (sRet (fC (.bool false))))
def F_is_pinched : DF := fDef 5 g_is_pinched
theorem E_is_pinched (d0 : D) (ah : AH) : F_is_pinched [d0] ah = (g_is_pinched [some d0, none, none, none, none] ah).fin := rfl
def g_is_plain : SF := (sSeq (sIf (tOrF (tB (f2 gLt (fCall gLen (aCons (fCall F_reached (aCons (fVar 0) (aCons (f2 gSub2 (fVar 0) (fC (.int 0))) (aCons (fF 0) aNil)))) aNil)) (fCall gLen (aCons (fVar 0) aNil)))) (tTru (fCall F_is_pinched (aCons (fVar 0) aNil)))) (sRet (fC (.bool false))) sNx) (sSeq (sSet 1 (fLstM aNil)) (sSeq (sFor (iRange2 (aCons (fNeg (fC (.int 1))) (aCons (f2 gAdd (fC (.int 7)) (fC (.int 2))) aNil))) (gN 2) (sExpr (fMt isL gExtend (fVar 1) (aCons (fLc (iRange2 (aCons (fNeg (fC (.int 1))) (aCons (f2 gAdd (fC (.int 7)) (fC (.int 2))) aNil))) 3 (tB (f2 gNotIn (fTup (aCons (fVar 2) (aCons (fVar 3) aNil))) (fVar 0))) (fTup (aCons (fVar 2) (aCons (fVar 3) aNil)))) aNil)))) (sRet (f2 gEq (fCall gLen (aCons (fCall F_reached (aCons (fVar 1) (aCons (fTup (aCons (fNeg (fC (.int 1))) (aCons (fNeg (fC (.int 1))) aNil))) (aCons (fF 1) aNil)))) aNil)) (fCall gLen (aCons (fVar 1) aNil)))))))
def F_is_plain : DF := fDef 4 g_is_plain
theorem E_is_plain (d0 : D) (ah : AH) : F_is_plain [d0] ah = (g_is_plain [some d0, none, none, none] ah).fin := rfl
def g__law_hangs : SF := (sSeq (sSet 1 (fLst (aCons (f2 gSub2 (fVar 0) (fC (.int 0))) aNil))) (sSeq (sSet 2 (fC (.int 0))) (sSeq (sWhile (tB (f2 gLt (fVar 2) (fCall gLen (aCons (fVar 1) aNil)))) (sSeq (sSet 1 (f2 gAdd (fVar 1) (fLc (iAny (fCall F__law_near (aCons (fVar 0) (aCons (f2 gSub2 (fVar 1) (fVar 2)) aNil)))) 3 (tB (f2 gNotIn (fVar 3) (fVar 1))) (fVar 3)))) (sSet 2 (f2 gAdd (fVar 2) (fC (.int 1))))) 100000) (sRet (f2 gEq (fCall gLen (aCons (fVar 1) aNil)) (fCall gLen (aCons (fVar 0) aNil)))))))
def F__law_hangs : DF := fDef 4 g__law_hangs
theorem E__law_hangs (d0 : D) (ah : AH) : F__law_hangs [d0] ah = (g__law_hangs [some d0, none, none, none] ah).fin := rfl
def g__law_no_hole : SF := (sSeq (sSet 1 (fDisp1 (fTup (aCons (fNeg (fC (.int 1))) (aCons (fNeg (fC (.int 1))) aNil))) (fC (.bool true)))) (sSeq (sSet 2 (fLstM (aCons (fTup (aCons (fNeg (fC (.int 1))) (aCons (fNeg (fC (.int 1))) aNil))) aNil))) (sSeq (sWhile (tTru (fVar 2)) (sSeq (sAsg (fMt0 isL gPop (fVar 2)) (gPair 3 4)) (sFor (iRange1 (aCons (fC (.int 9)) aNil)) (gN 5) (sSeq (sSet 6 (fTup (aCons (f2 gSub (f2 gAdd (fVar 3) (f2 gDiv (fVar 5) (fC (.int 3)))) (fC (.int 1))) (aCons (f2 gSub (f2 gAdd (fVar 4) (f2 gMod (fVar 5) (fC (.int 3)))) (fC (.int 1))) aNil)))) (sIf (tAndF (tB (fChain gLe gLe (fNeg (fC (.int 1))) (f2 gSub2 (fVar 6) (fC (.int 0))) (fC (.int 8)))) (tAndF (tB (fChain gLe gLe (fNeg (fC (.int 1))) (f2 gSub2 (fVar 6) (fC (.int 1))) (fC (.int 8)))) (tAndF (tB (f2 gNotIn (fVar 6) (fVar 0))) (tB (f2 gNotIn (fVar 6) (fVar 1)))))) (sSeq (sDPut (fVar 1) (fVar 6) (fC (.bool true))) (sExpr (fMt isL gAppend (fVar 2) (aCons (fVar 6) aNil)))) sNx)))) 100000) (sRet (f2 gEq (fCall gLen (aCons (fVar 1) aNil)) (f2 gSub (fC (.int 100)) (fCall gLen (aCons (fVar 0) aNil))))))))
def F__law_no_hole : DF := fDef 7 g__law_no_hole
theorem E__law_no_hole (d0 : D) (ah : AH) : F__law_no_hole [d0] ah = (g__law_no_hole [some d0, none, none, none, none, none, none] ah).fin := rfl
def g__law_no_pinch : SF := (sSeq (sFor (iAny (fVar 0)) (gPair 1 2) (sFor (iAny (fTup (aCons (fNeg (fC (.int 1))) (aCons (fC (.int 1)) aNil)))) (gN 3) (sIf (tAndF (tB (f2 gIn (fTup (aCons (f2 gAdd (fVar 1) (fC (.int 1))) (aCons (f2 gAdd (fVar 2) (fVar 3)) aNil))) (fVar 0))) (tAndF (tB (f2 gNotIn (fTup (aCons (fVar 1) (aCons (f2 gAdd (fVar 2) (fVar 3)) aNil))) (fVar 0))) (tB (f2 gNotIn (fTup (aCons (f2 gAdd (fVar 1) (fC (.int 1))) (aCons (fVar 2) aNil))) (fVar 0))))) (sRet (fC (.bool false))) sNx))) (sRet (fC (.bool true))))
def F__law_no_pinch : DF := fDef 4 g__law_no_pinch
theorem E__law_no_pinch (d0 : D) (ah : AH) : F__law_no_pinch [d0] ah = (g__law_no_pinch [some d0, none, none, none] ah).fin := rfl
def g__law_plain : SF := (sRet (fAnd (fCall F__law_hangs (aCons (fVar 0) aNil)) (fAnd (fCall F__law_no_hole (aCons (fVar 0) aNil)) (fCall F__law_no_pinch (aCons (fVar 0) aNil)))))
def F__law_plain : DF := fDef 1 g__law_plain
theorem E__law_plain (d0 : D) (ah : AH) : F__law_plain [d0] ah = (g__law_plain [some d0] ah).fin := rfl
def g__law_ring : SF := (sSeq (sSet 1 (f2 gAdd (fC (.int 2)) (f2 gMod (fCall F__law_cell (aCons (fVar 0) (aCons (fC (.int 1)) aNil))) (fC (.int 4))))) (sSeq (sSet 2 (f2 gAdd (fC (.int 2)) (f2 gMod (fCall F__law_cell (aCons (fVar 0) (aCons (fC (.int 2)) aNil))) (fC (.int 4))))) (sSeq (sSet 3 (fLst aNil)) (sSeq (sFor (iRange1 (aCons (f2 gAdd (fVar 1) (fC (.int 1))) aNil)) (gN 4) (sSet 3 (f2 gAdd (fVar 3) (fLc (iRange1 (aCons (f2 gAdd (fVar 2) (fC (.int 1))) aNil)) 6 (tOrF (tB (f2 gIn (fVar 4) (fTup (aCons (fC (.int 0)) (aCons (fVar 1) aNil))))) (tB (f2 gIn (fVar 6) (fTup (aCons (fC (.int 0)) (aCons (fVar 2) aNil)))))) (fTup (aCons (f2 gAdd (fVar 4) (fC (.int 1))) (aCons (f2 gAdd (fVar 6) (fC (.int 1))) aNil))))))) (sSeq (sSet 5 (fLst (aCons (f2 gSub2 (fVar 3) (f2 gMod (fCall F__law_cell (aCons (fVar 0) (aCons (fC (.int 3)) aNil))) (fCall gLen (aCons (fVar 3) aNil)))) (aCons (fTup (aCons (f2 gAdd (fC (.int 1)) (f2 gMod (fCall F__law_cell (aCons (fVar 0) (aCons (fC (.int 4)) aNil))) (fC (.int 3)))) (aCons (fC (.int 1)) aNil))) aNil)))) (sSeq (sIf (tB (f2 gEq (f2 gMod (fCall F__law_cell (aCons (fVar 0) (aCons (fC (.int 5)) aNil))) (fC (.int 2))) (fC (.int 0)))) (sSet 5 (fSlice (fVar 5) (pSome (fC (.int 1))) pNo)) sNx) (sSeq (sIf (tB (f2 gEq (f2 gMod (fCall F__law_cell (aCons (fVar 0) (aCons (fC (.int 5)) aNil))) (fC (.int 3))) (fC (.int 0)))) (sSet 5 (fLst aNil)) sNx) (sRet (fCall gTuple (aCons (fLc (iAny (fVar 3)) 7 (tB (f2 gNotIn (fVar 7) (fVar 5))) (fVar 7)) aNil))))))))))
def F__law_ring : DF := fDef 8 g__law_ring
theorem E__law_ring (d0 : D) (ah : AH) : F__law_ring [d0] ah = (g__law_ring [some d0, none, none, none, none, none, none, none] ah).fin := rfl
def g_sides : SF := (sSeq (sAsg (fVar 0) (gPair 1 2)) (sSeq (sSet 3 (fLst (aCons (fTup (aCons (fVar 1) (aCons (fVar 2) aNil))) (aCons (fTup (aCons (f2 gAdd (fVar 1) (fC (.int 1))) (aCons (fVar 2) aNil))) (aCons (fTup (aCons (f2 gAdd (fVar 1) (fC (.int 1))) (aCons (f2 gAdd (fVar 2) (fC (.int 1))) aNil))) (aCons (fTup (aCons (fVar 1) (aCons (f2 gAdd (fVar 2) (fC (.int 1))) aNil))) aNil)))))) (sRet (fLc (iRange1 (aCons (fC (.int 4)) aNil)) 4 tYesF (fTup (aCons (f2 gSub2 (fVar 3) (fVar 4)) (aCons (f2 gSub2 (fVar 3) (f2 gMod (f2 gAdd (fVar 4) (fC (.int 1))) (fC (.int 4)))) aNil)))))))
def F_sides : DF := fDef 5 g_sides
theorem E_sides (d0 : D) (ah : AH) : F_sides [d0] ah = (g_sides [some d0, none, none, none, none] ah).fin := rfl
def g_across : SF := (sSeq (sAsg (fVar 0) (gPair 1 2)) (sRet (fLst (aCons (fTup (aCons (fVar 1) (aCons (f2 gSub (fVar 2) (fC (.int 1))) aNil))) (aCons (fTup (aCons (f2 gAdd (fVar 1) (fC (.int 1))) (aCons (fVar 2) aNil))) (aCons (fTup (aCons (fVar 1) (aCons (f2 gAdd (fVar 2) (fC (.int 1))) aNil))) (aCons (fTup (aCons (f2 gSub (fVar 1) (fC (.int 1))) (aCons (fVar 2) aNil))) aNil)))))))
def F_across : DF := fDef 3 g_across
theorem E_across (d0 : D) (ah : AH) : F_across [d0] ah = (g_across [some d0, none, none] ah).fin := rfl
def g__law_sides : SF := (sSeq (sAsg (fVar 0) (gPair 1 2)) (sSeq (sSet 3 (fLst (aCons (fTup (aCons (fTup (aCons (fVar 1) (aCons (fVar 2) aNil))) (aCons (fTup (aCons (f2 gAdd (fVar 1) (fC (.int 1))) (aCons (fVar 2) aNil))) (aCons (fTup (aCons (fVar 1) (aCons (f2 gSub (fVar 2) (fC (.int 1))) aNil))) aNil)))) (aCons (fTup (aCons (fTup (aCons (f2 gAdd (fVar 1) (fC (.int 1))) (aCons (fVar 2) aNil))) (aCons (fTup (aCons (f2 gAdd (fVar 1) (fC (.int 1))) (aCons (f2 gAdd (fVar 2) (fC (.int 1))) aNil))) (aCons (fTup (aCons (f2 gAdd (fVar 1) (fC (.int 1))) (aCons (fVar 2) aNil))) aNil)))) aNil)))) (sRet (f2 gAdd (fVar 3) (fLst (aCons (fTup (aCons (fTup (aCons (f2 gAdd (fVar 1) (fC (.int 1))) (aCons (f2 gAdd (fVar 2) (fC (.int 1))) aNil))) (aCons (fTup (aCons (fVar 1) (aCons (f2 gAdd (fVar 2) (fC (.int 1))) aNil))) (aCons (fTup (aCons (fVar 1) (aCons (f2 gAdd (fVar 2) (fC (.int 1))) aNil))) aNil)))) (aCons (fTup (aCons (fTup (aCons (fVar 1) (aCons (f2 gAdd (fVar 2) (fC (.int 1))) aNil))) (aCons (fTup (aCons (fVar 1) (aCons (fVar 2) aNil))) (aCons (fTup (aCons (f2 gSub (fVar 1) (fC (.int 1))) (aCons (fVar 2) aNil))) aNil)))) aNil)))))))
def F__law_sides : DF := fDef 4 g__law_sides
theorem E__law_sides (d0 : D) (ah : AH) : F__law_sides [d0] ah = (g__law_sides [some d0, none, none, none] ah).fin := rfl
def g_mates : SF := (sSeq (sSet 1 fDict) (sSeq (sFor (iAny (fVar 0)) (gPair 2 3) (sSeq (sDPut (fVar 1) (fVar 2) (fVar 3)) (sDPut (fVar 1) (fVar 3) (fVar 2)))) (sRet (fFrz (fVar 1)))))
def F_mates : DF := fDef 4 g_mates
theorem E_mates (d0 : D) (ah : AH) : F_mates [d0] ah = (g_mates [some d0, none, none, none] ah).fin := rfl
def g_ring_from : SF := (sSeq (sSet 3 (fLstM (aCons (fVar 0) (aCons (f2 gSub2 (fVar 1) (fVar 0)) aNil)))) (sSeq (sWhile (tB (f2 gNe (f2 gSub2 (fVar 2) (f2 gSub2 (fVar 3) (fNeg (fC (.int 1))))) (fVar 0))) (sSeq (sExpr (fMt isL gAppend (fVar 3) (aCons (f2 gSub2 (fVar 2) (f2 gSub2 (fVar 3) (fNeg (fC (.int 1))))) aNil))) (sExpr (fMt isL gAppend (fVar 3) (aCons (f2 gSub2 (fVar 1) (f2 gSub2 (fVar 3) (fNeg (fC (.int 1))))) aNil)))) 100000) (sRet (fFrz (fVar 3)))))
def F_ring_from : DF := fDef 4 g_ring_from
theorem E_ring_from (d0 d1 d2 : D) (ah : AH) : F_ring_from [d0, d1, d2] ah = (g_ring_from [some d0, some d1, some d2, none] ah).fin := rfl
def g_rings : SF := (sSeq (sSet 2 (fCall F_mates (aCons (fVar 0) aNil))) (sSeq (sSet 3 (fCall F_mates (aCons (fVar 1) aNil))) (sSeq (sSet 4 fDict) (sSeq (sSet 5 (fLstM aNil)) (sSeq (sFor (iAny (fCall gSortedK (aCons (fVar 2) aNil))) (gN 6) (sIf (tB (f2 gNotIn (fVar 6) (fVar 4))) (sSeq (sSet 7 (fCall F_ring_from (aCons (fVar 6) (aCons (fVar 2) (aCons (fVar 3) aNil))))) (sSeq (sFor (iAny (fVar 7)) (gN 8) (sDPut (fVar 4) (fVar 8) (fC (.bool true)))) (sIf (tB (f2 gGt (fCall gLen (aCons (fVar 7) aNil)) (fC (.int 2)))) (sExpr (fMt isL gAppend (fVar 5) (aCons (fVar 7) aNil))) sNx))) sNx)) (sRet (fFrz (fVar 5))))))))
def F_rings : DF := fDef 9 g_rings
theorem E_rings (d0 d1 : D) (ah : AH) : F_rings [d0, d1] ah = (g_rings [some d0, some d1, none, none, none, none, none, none, none] ah).fin := rfl
def g_laid_otherwise : SF := (sSeq (sSet 2 (fLcM (iAny (fVar 0)) 6 (tB (f2 gNotIn (f2 gSub2 (fVar 6) (fC (.int 0))) (fVar 1))) (fVar 6))) (sSeq (sSet 3 (fCall gLen (aCons (fVar 1) aNil))) (sSeq (sSet 4 (f2 gIn (fCall gTuple (aCons (fCall gSortedL (aCons (fSlice (fVar 1) pNo (pSome (fC (.int 2)))) aNil)) aNil)) (fVar 0))) (sSeq (sFor (iRange3 (aCons (fCall gInt (aCons (fVar 4) aNil)) (aCons (fVar 3) (aCons (fC (.int 2)) aNil)))) (gN 5) (sExpr (fMt isL gAppend (fVar 2) (aCons (fCall gTuple (aCons (fCall gSortedL (aCons (fLst (aCons (f2 gSub2 (fVar 1) (fVar 5)) (aCons (f2 gSub2 (fVar 1) (f2 gMod (f2 gAdd (fVar 5) (fC (.int 1))) (fVar 3))) aNil))) aNil)) aNil)) aNil)))) (sRet (fCall gTuple (aCons (fCall gSortedL (aCons (fVar 2) aNil)) aNil)))))))
def F_laid_otherwise : DF := fDef 7 g_laid_otherwise
theorem E_laid_otherwise (d0 d1 : D) (ah : AH) : F_laid_otherwise [d0, d1] ah = (g_laid_otherwise [some d0, some d1, none, none, none, none, none] ah).fin := rfl
def g__law_pair : SF := (sRet (fCall gTuple (aCons (fCall gSortedL (aCons (fLst (aCons (fVar 0) (aCons (fVar 1) aNil))) aNil)) aNil)))
def F__law_pair : DF := fDef 2 g__law_pair
theorem E__law_pair (d0 d1 : D) (ah : AH) : F__law_pair [d0, d1] ah = (g__law_pair [some d0, some d1] ah).fin := rfl
def g__law_is_ring : SF := (sSeq (sIf (tOrF (tNotF (tTru (fIsi "list" (fVar 0)))) (tOrF (tB (f2 gLt (fCall gLen (aCons (fVar 0) aNil)) (fC (.int 3)))) (tOrF (tB (f2 gEq (f2 gMod (fCall gLen (aCons (fVar 0) aNil)) (fC (.int 2))) (fC (.int 1)))) (tB (f2 gNe (f2 gSub2 (fVar 0) (fC (.int 0))) (fCall gMin1 (aCons (fVar 0) aNil))))))) (sRet (fC (.bool false))) sNx) (sSeq (sFor (iRange3 (aCons (fC (.int 0)) (aCons (fCall gLen (aCons (fVar 0) aNil)) (aCons (fC (.int 2)) aNil)))) (gN 3) (sSeq (sIf (tB (f2 gNotIn (fCall F__law_pair (aCons (f2 gSub2 (fVar 0) (fVar 3)) (aCons (f2 gSub2 (fVar 0) (f2 gAdd (fVar 3) (fC (.int 1)))) aNil))) (fVar 1))) (sRet (fC (.bool false))) sNx) (sIf (tB (f2 gNotIn (fCall F__law_pair (aCons (f2 gSub2 (fVar 0) (f2 gAdd (fVar 3) (fC (.int 1)))) (aCons (f2 gSub2 (f2 gAdd (fVar 0) (fVar 0)) (f2 gAdd (fVar 3) (fC (.int 2)))) aNil))) (fVar 2))) (sRet (fC (.bool false))) sNx))) (sRet (f2 gEq (fLSet (fVar 0)) (fCall gLen (aCons (fVar 0) aNil))))))
def F__law_is_ring : DF := fDef 4 g__law_is_ring
theorem E__law_is_ring (d0 d1 d2 : D) (ah : AH) : F__law_is_ring [d0, d1, d2] ah = (g__law_is_ring [some d0, some d1, some d2, none] ah).fin := rfl
end DL

set_option Elab.async false
set_option linter.all false
set_option maxRecDepth 100000
/-! MA: how the functions over the store are reckoned; neighbours; the count of layings. -/
namespace DL
open PySem PySem.Spec PyProof.Rows L2
section
variable {σ : DS} {ah : AH} {i j n : Nat} {f g : SF} {fe fo fb fc' : EF} {fa : AF} {c : TF} {d : D} {ds : List D}
theorem e_def : fDef n f ds ah = (f (startD n ds) ah).fin := (rfl)
theorem e_seq : sSeq f g σ ah = (f σ ah).seq g := (rfl)
theorem e_nx : sNx σ ah = .nx σ ah := (rfl)
theorem e_set : sSet i fe σ ah = (fe σ ah).then σ fun d ah1 => .nx (σ.set i (some d)) ah1 := (rfl)
theorem e_ret : sRet fe σ ah = (fe σ ah).then σ fun d ah1 => .rt d ah1 := (rfl)
theorem e_expr : sExpr fe σ ah = (fe σ ah).then σ fun _ ah1 => .nx σ ah1 := (rfl)
theorem e_if : sIf c f g σ ah = (c σ ah).then σ fun b ah1 => if b = true then f σ ah1 else g σ ah1 := (rfl)
theorem e_f2 {k : G2} : f2 k fe fo σ ah = (fe σ ah).bind fun d ah1 => (fo σ ah1).bind fun e ah2 => k d e ah2 := (rfl)
theorem e_call {F : DF} : fCall F fa σ ah = (fa σ ah).bind fun ds ah1 => F ds ah1 := (rfl)
theorem e_nil : aNil σ ah = .ok [] ah := (rfl)
theorem e_cons : aCons fe fa σ ah = (fe σ ah).bind fun d ah1 => (fa σ ah1).bind fun ds ah2 => .ok (d :: ds) ah2 := (rfl)
theorem e_c {x : PyData} : fC x σ ah = .ok (.p x) ah := (rfl)
theorem e_var (h : σ[i]? = some (some d)) : fVar i σ ah = .ok d ah := by unfold fVar; rw [h]
theorem e_tB : tB fe σ ah = (fe σ ah).bind fun d ah1 => match d with
  | .p (.bool b) => .ok b ah1
  | _ => .bad := (rfl)
theorem e_lc {fi : IF} : fLc fi i c fe σ ah = (fi σ ah).bind fun ds ah1 => if ds.length ≤ 16777216 then (lcL i c fe ds σ ah1).only fun ys ah2 => .ok (.p (.list ys)) ah2 else .bad := (rfl)
theorem e_for {fi : IF} {gt : GF} : sFor fi gt f σ ah = (fi σ ah).then σ fun ds ah1 => forL gt f ds σ ah1 := (rfl)
theorem e_any : iAny fe σ ah = (fe σ ah).bind fun d ah1 => match d with
  | .p (.list xs) => .ok (xs.map .p) ah1
  | .p (.tuple xs) => .ok (xs.map .p) ah1
  | .p (.dict kvs) => .ok (kvs.map fun e => .p e.1) ah1
  | .s ns => .ok (ns.map fun i => .p (.int i)) ah1
  | _ => .bad := (rfl)
theorem e_for_nil {gt : GF} : forL gt f [] σ ah = .nx σ ah := (rfl)
theorem e_for_cons {gt : GF} {ds : List D} : forL gt f (d :: ds) σ ah = match gt d σ ah with
    | none => .bad
    | some σ1 => match f σ1 ah with
      | .nx σ' ah' => forL gt f ds σ' ah'
      | .ct σ' ah' => forL gt f ds σ' ah'
      | .bk σ' ah' => .nx σ' ah'
      | .rt d ah' => .rt d ah'
      | .ex k σ' ah' => .ex k σ' ah'
      | .bad => .bad := (rfl)
theorem e_v0 : fVar 0 (some d :: σ) ah = .ok d ah := (rfl)
theorem e_vs {x : Option D} : fVar (n + 1) (x :: σ) ah = fVar n σ ah := (rfl)
theorem e_rt {d : D} : (O.rt d ah).fin = .ok d ah := (rfl)
theorem e_fnx : (O.nx σ ah).fin = .ok (.p .none) ah := (rfl)
theorem e_fex {k : Nat} : (O.ex k σ ah).fin = .ex k ah := (rfl)
theorem e_set0 {x y : Option D} : List.set (x :: σ) 0 y = y :: σ := (rfl)
theorem e_sets {x y : Option D} : List.set (x :: σ) (n + 1) y = x :: List.set σ n y := (rfl)
theorem e_lc_cons {ds : List D} : lcL i c fe (d :: ds) σ ah = (c (σ.set i (some d)) ah).only fun b ah1 => if b = true then (fe (σ.set i (some d)) ah1).only fun x ah2 => match x with
        | .p y => (lcL i c fe ds σ ah2).only fun ys ah3 => .ok (y :: ys) ah3
        | _ => .bad
      else lcL i c fe ds σ ah1 := (rfl)
end
/-- a comprehension over things that change nothing -/
theorem lcL_map {α : Type} (g : α → D) (P : α → Bool) (Fn : α → PyData) {i : Nat} {ct : TF} {fe : EF} {σ : DS} {ah : AH} : ∀ (xs : List α), (∀ x ∈ xs, ct (σ.set i (some (g x))) ah = .ok (P x) ah) → (∀ x ∈ xs, P x = true → fe (σ.set i (some (g x))) ah = .ok (.p (Fn x)) ah) →
    lcL i ct fe (xs.map g) σ ah = .ok ((xs.filter P).map Fn) ah
  | [], _, _ => rfl
  | x :: r, h1, h2 => by
    have ih := lcL_map g P Fn (i := i) (ct := ct) (fe := fe) (σ := σ) (ah := ah) r (fun y hy => h1 y (List.mem_cons_of_mem _ hy)) (fun y hy => h2 y (List.mem_cons_of_mem _ hy))
    rw [List.map_cons, e_lc_cons, h1 x List.mem_cons_self, R.only_ok]
    cases e : P x with
    | false => rw [if_neg Bool.false_ne_true, ih, List.filter_cons_of_neg (by simp [e])]
    | true => rw [if_pos rfl, h2 x List.mem_cons_self e, R.only_ok, List.filter_cons_of_pos e]; dsimp only; rw [ih]; rfl
/-- the same over a list that is data -/
theorem lcL_data {α : Type} (g : α → PyData) (P : α → Bool) (Fn : α → PyData) {i : Nat} {ct : TF} {fe : EF} {σ : DS} {ah : AH} (xs : List α) (h1 : ∀ x ∈ xs, ct (σ.set i (some (.p (g x)))) ah = .ok (P x) ah) (h2 : ∀ x ∈ xs, P x = true → fe (σ.set i (some (.p (g x)))) ah = .ok (.p (Fn x)) ah) :
    lcL i ct fe ((xs.map g).map .p) σ ah = .ok ((xs.filter P).map Fn) ah := by
  rw [List.map_map]
  exact lcL_map (fun x => .p (g x)) P Fn xs h1 h2
/-- an item of a tuple, of a list -/
theorem sub_tup {xs : List PyData} {k : Nat} {x : PyData} (h : xs[k]? = some x) (ah : AH) : gSub2 (.p (.tuple xs)) (.p (.int (k : Int))) ah = .ok (.p x) ah := by
  have h1 : atI (xs.map D.p) (k : Int) = some (.p x) := atI_nat (by rw [List.getElem?_map, h]; rfl)
  show (match atI (xs.map D.p) (k : Int) with
    | some x => R.ok x ah
    | none => R.bad) = _
  rw [h1]
theorem sub_lst {xs : List PyData} {k : Nat} {x : PyData} (h : xs[k]? = some x) (ah : AH) : gSub2 (.p (.list xs)) (.p (.int (k : Int))) ah = .ok (.p x) ah := by
  have h1 : atI (xs.map D.p) (k : Int) = some (.p x) := atI_nat (by rw [List.getElem?_map, h]; rfl)
  show (match atI (xs.map D.p) (k : Int) with
    | some x => R.ok x ah
    | none => R.bad) = _
  rw [h1]
theorem sub_head (s : Sq) (r : List Sq) (ah : AH) : gSub2 (.p (efl (s :: r))) (.p (.int 0)) ah = .ok (.p (esq s)) ah := sub_tup (k := 0) (xs := esq s :: r.map esq) rfl ah
def nbs (s : Sq) : List Sq := [(s.1 - 1, s.2), (s.1, s.2 - 1), (s.1, s.2 + 1), (s.1 + 1, s.2)]
theorem F_beside_eq (s : Sq) (ah : AH) : F_beside [.p (esq s)] ah = .ok (.p (.list ((nbs s).map esq))) ah := rfl
def nb (l : List Sq) (s : Sq) : List Sq := (nbs s).filter (fun o => decide (o ∈ l))
theorem gIn_sq (l : List Sq) (a : Sq) (ah : AH) : gIn (.p (esq a)) (.p (efl l)) ah = .ok (.p (.bool (decide (a ∈ l)))) ah := by
  have h : inOf ah (.p (esq a)) (.p (efl l)) = some (decide (a ∈ l)) := by
    unfold inOf
    show (if (SeqAt.shaped (esq a) && SeqAt.shaped (.tuple (l.map esq))) = true then some ((l.map esq).any fun y => PyData.eqv y (esq a)) else none) = _
    rw [shaped_esq, shaped_tup, Bool.and_self, if_pos rfl, any_esq]
  unfold gIn
  rw [h]
theorem nbs_len (s : Sq) : (nbs s).length = 4 := rfl
theorem F_neighbours_eq (l : List Sq) (s : Sq) (ah : AH) : F_neighbours [.p (efl l), .p (esq s)] ah = .ok (.p (.list ((nb l s).map esq))) ah := by
  have h : lcL 2 (tB (f2 gIn (fVar 2) (fVar 0))) (fVar 2) (((nbs s).map esq).map .p) [some (.p (efl l)), some (.p (esq s)), none] ah = .ok ((nb l s).map esq) ah := by
    refine lcL_data esq (fun o => decide (o ∈ l)) esq (nbs s) (fun x _ => ?_) (fun x _ _ => rfl)
    show (R.bind (gIn (.p (esq x)) (.p (efl l)) ah) _) = _
    rw [gIn_sq]
    rfl
  unfold F_neighbours g_neighbours
  rw [e_def, e_ret, e_lc, e_any, e_call]
  show O.fin (R.then (R.bind (R.bind (F_beside [.p (esq s)] ah) _) _) _ _) = _
  rw [F_beside_eq, R.bind_ok, R.bind_ok]
  rw [if_pos (by rw [List.length_map, List.length_map, nbs_len]; omega)]
  show O.fin (R.then (R.only (lcL 2 (tB (f2 gIn (fVar 2) (fVar 0))) (fVar 2) (((nbs s).map esq).map .p) [some (.p (efl l)), some (.p (esq s)), none] ah) _) _ _) = _
  rw [h]
  rfl
/-- the number of layings, by the first square -/
def cntF : Nat → List Sq → Int
  | 0, _ => 0
  | _ + 1, [] => 1
  | n + 1, s :: r => ((nb (s :: r) s).map fun o => cntF n (r.filter fun x => decide (x ≠ o))).sum
/-- how many floors are put down in the table at most -/
def bndF : Nat → List Sq → Nat
  | 0, _ => 0
  | _ + 1, [] => 0
  | n + 1, s :: r => 1 + ((nb (s :: r) s).map fun o => bndF n (r.filter fun x => decide (x ≠ o))).sum
/-- the table's entries are right -/
def Tab (kvs : List (PyData × D)) : Prop := ∀ e ∈ kvs, ∃ l n, e.1 = efl l ∧ l.length < n ∧ e.2 = .p (.int (cntF n l))
theorem nbs_ne (s o : Sq) (h : o ∈ nbs s) : o ≠ s := by
  obtain ⟨a, b⟩ := s
  simp only [nbs, List.mem_cons, List.not_mem_nil, or_false] at h
  rintro rfl
  rcases h with h | h | h | h <;> (rw [Prod.mk.injEq] at h; omega)
theorem nb_mem {l : List Sq} {s o : Sq} (h : o ∈ nb l s) : o ∈ l ∧ o ∈ nbs s := by
  unfold nb at h
  rw [List.mem_filter, decide_eq_true_eq] at h
  exact ⟨h.2, h.1⟩
theorem filter_lt {r : List Sq} {o : Sq} (h : o ∈ r) : (r.filter fun x => decide (x ≠ o)).length < r.length := by
  induction r with
  | nil => cases h
  | cons a t ih =>
    by_cases e : a = o
    · rw [List.filter_cons_of_neg (by simp [e])]
      exact Nat.lt_succ_of_le (List.length_filter_le _ _)
    · rw [List.filter_cons_of_pos (by simp [e])]
      rcases List.mem_cons.mp h with h | h
      · exact absurd h.symm e
      · exact Nat.succ_lt_succ (ih h)
theorem nb_rest {s o : Sq} {r : List Sq} (h : o ∈ nb (s :: r) s) : o ∈ r := by
  obtain ⟨h1, h2⟩ := nb_mem h
  rcases List.mem_cons.mp h1 with h | h
  · exact absurd h (nbs_ne s o h2)
  · exact h
theorem cntF_any : ∀ (n m : Nat) (l : List Sq), l.length < n → l.length < m → cntF n l = cntF m l
  | 0, _, _, h, _ => absurd h (Nat.not_lt_zero _)
  | _, 0, _, _, h => absurd h (Nat.not_lt_zero _)
  | n + 1, m + 1, [], _, _ => rfl
  | n + 1, m + 1, s :: r, h1, h2 => by
    unfold cntF
    congr 1
    apply List.map_congr_left
    intro o ho
    have := filter_lt (nb_rest ho)
    have h1' : r.length + 1 < n + 1 := h1
    have h2' : r.length + 1 < m + 1 := h2
    exact cntF_any n m _ (by omega) (by omega)
end DL

set_option Elab.async false
set_option linter.all false
set_option maxRecDepth 100000
/-! MB: the count of layings, as the program counts. -/
namespace DL
open PySem PySem.Spec PyProof.Rows L2
theorem gNe_sq (a b : Sq) (ah : AH) : gNe (.p (esq a)) (.p (esq b)) ah = .ok (.p (.bool (!decide (a = b)))) ah := by
  show (if (SeqAt.shaped (esq a) && SeqAt.shaped (esq b)) = true then R.ok (D.p (.bool (!PyData.eqv (esq a) (esq b)))) ah else .bad) = _
  rw [shaped_esq, shaped_esq, Bool.and_self, if_pos rfl, eqv_esq]
theorem cut1 {α : Type} (x : α) (r : List α) : cutG (x :: r) (some 1) none = r := by
  unfold cutG
  rw [show (1 : Int) = ((1 : Nat) : Int) from rfl, HT.sIx_nat, HT.sIx_none, List.length_cons]
  rw [show min 1 (r.length + 1) = 1 by omega, List.drop_succ_cons, List.drop_zero]
  exact List.take_of_length_le (by omega)
theorem kfind_kput {kvs : List (PyData × D)} {k : PyData} {v : D} : kfind (kput kvs k v) k = some v := by
  unfold kput
  by_cases c : (kvs.any fun e => decide (nk e.1 = nk k)) = true
  · rw [if_pos c]
    induction kvs with
    | nil => cases c
    | cons e r ih =>
      rw [List.map_cons]
      by_cases h : nk e.1 = nk k
      · rw [if_pos h]
        simp [kfind, h]
      · rw [if_neg h]
        have c' : (r.any fun e => decide (nk e.1 = nk k)) = true := by simpa [h] using c
        have := ih c'
        simpa [kfind, h] using this
  · rw [if_neg c]
    induction kvs with
    | nil => simp [kfind]
    | cons e r ih =>
      have h : ¬ nk e.1 = nk k := fun z => c (by simp [z])
      have c' : ¬ (r.any fun e => decide (nk e.1 = nk k)) = true := fun z => c (by simp [z])
      have := ih c'
      simpa [kfind, h] using this
theorem kfind_any {α : Type} {kvs : List (PyData × α)} {k : PyData} : (kfind kvs k).isSome = kvs.any fun e => decide (nk e.1 = nk k) := by
  induction kvs with
  | nil => rfl
  | cons e r ih =>
    by_cases h : nk e.1 = nk k
    · simp [kfind, h]
    · have : kfind (e :: r) k = kfind r k := by simp [kfind, h]
      rw [this, ih]
      simp [h]
theorem kput_new {kvs : List (PyData × D)} {k : PyData} {v : D} (h : kfind kvs k = none) : kput kvs k v = kvs ++ [(k, v)] := by
  unfold kput
  rw [← kfind_any, h, if_neg (by simp)]
theorem kfind_mem {α : Type} {kvs : List (PyData × α)} {k : PyData} {d : α} (h : kfind kvs k = some d) : ∃ e ∈ kvs, nk e.1 = nk k ∧ e.2 = d := by
  unfold kfind at h
  obtain ⟨e, h1, h2⟩ := Option.map_eq_some_iff.mp h
  exact ⟨e, List.mem_of_find?_eq_some h1, by simpa using List.find?_some h1, h2⟩
theorem set_same {ah : AH} {i : Nat} {o : AO} (h : ah[i]? = some o) : ah.set i o = ah := by
  obtain ⟨hl, he⟩ := List.getElem?_eq_some_iff.mp h
  rw [← he, List.set_getElem_self]
theorem get_set {ah : AH} {i : Nat} {o o' : AO} (h : ah[i]? = some o) : (ah.set i o')[i]? = some o' := List.getElem?_set_self (List.getElem?_eq_some_iff.mp h).1
theorem dctOf_r {ah : AH} {i : Nat} {kvs : List (PyData × D)} (h : ah[i]? = some (.dct kvs)) : dctOf ah (.r i) = some kvs := by simp [dctOf, h]
theorem inOf_dct {ah : AH} {i : Nat} {kvs : List (PyData × D)} {k : PyData} (h : ah[i]? = some (.dct kvs)) (c : keyOk k = true) : inOf ah (.p k) (.r i) = some (kfind kvs k).isSome := by
  have e := dctOf_r h
  unfold inOf
  rw [e]
  show (if keyOk k = true then some (kfind kvs k).isSome else none) = _
  rw [if_pos c]
theorem sub_dct {ah : AH} {i : Nat} {kvs : List (PyData × D)} {k : PyData} {d : D} (h : ah[i]? = some (.dct kvs)) (c : keyOk k = true) (f : kfind kvs k = some d) : gSub2 (.r i) (.p k) ah = .ok d ah := by
  have e := dctOf_r h
  unfold gSub2 gDGet
  rw [e]
  show (if keyOk k = true then (match kfind kvs k with
    | some x => R.ok x ah
    | none => .bad) else .bad) = _
  rw [if_pos c, f]
theorem dput_dct {ah : AH} {i : Nat} {kvs : List (PyData × D)} {k : PyData} {v : D} (h : ah[i]? = some (.dct kvs)) (c : keyOk k = true) (hl : kvs.length < 16777216) : gDPut (.r i) (.p k) v ah = some (ah.set i (.dct (kput kvs k v))) := by
  unfold gDPut
  dsimp only
  rw [h]
  show (if (keyOk k && decide (kvs.length < 16777216)) = true then some (ah.set i (.dct (kput kvs k v))) else none) = _
  rw [c, decide_eq_true hl, Bool.and_self, if_pos rfl]
/-- the turn's body -/
def aBody (Fr : DF) : SF := (sSeq (sSet 4 (fCall gTuple (aCons (fLc (iAny (fSlice (fVar 0) (pSome (fC (.int 1))) pNo)) 5 (tB (f2 gNe (fVar 5) (fVar 3))) (fVar 5)) aNil))) (sSet 2 (f2 gAdd (fVar 2) (fCall Fr (aCons (fVar 4) (aCons (fVar 1) aNil))))))
/-- what is left behind a stone -/
theorem left_eq (s o : Sq) (r : List Sq) (hr : r.length ≤ 1000) (a1 a2 : Option D) (x4 : Option D) (ah : AH) : fCall gTuple (aCons (fLc (iAny (fSlice (fVar 0) (pSome (fC (.int 1))) pNo)) 5 (tB (f2 gNe (fVar 5) (fVar 3))) (fVar 5)) aNil) [some (.p (efl (s :: r))), a1, a2, some (.p (esq o)), x4, none] ah
    = .ok (.p (efl (r.filter fun x => decide (x ≠ o)))) ah := by
  have h : lcL 5 (tB (f2 gNe (fVar 5) (fVar 3))) (fVar 5) ((r.map esq).map .p) [some (.p (efl (s :: r))), a1, a2, some (.p (esq o)), x4, none] ah = .ok ((r.filter fun x => decide (x ≠ o)).map esq) ah := by
    refine lcL_data esq (fun x => decide (x ≠ o)) esq r (fun x _ => ?_) (fun x _ _ => rfl)
    show (R.bind (gNe (.p (esq x)) (.p (esq o)) ah) _) = _
    rw [gNe_sq]
    show (R.ok (!decide (x = o)) ah : R Bool) = _
    congr 1
    by_cases e : x = o <;> simp [e]
  rw [e_call, e_cons, e_lc, e_any]
  have hs : fSlice (fVar 0) (pSome (fC (.int 1))) pNo [some (.p (efl (s :: r))), a1, a2, some (.p (esq o)), x4, none] ah = .ok (.p (.tuple (r.map esq))) ah := by
    show (R.ok (D.p (.tuple (cutG (esq s :: r.map esq) (some 1) none))) ah : R D) = _
    rw [cut1]
  rw [hs, R.bind_ok]
  dsimp only
  rw [R.bind_ok, if_pos (by rw [List.length_map, List.length_map]; omega), h]
  rfl
theorem forAfter {n i : Nat} {s : Sq} {r : List Sq} (hr : r.length ≤ 1000) (hn : r.length < n) (ih : ∀ l, l.length < n → l.length ≤ 1000 → ∀ ah kvs, ah[i]? = some (.dct kvs) → Tab kvs → kvs.length + bndF n l ≤ 16777216 →
      ∃ kvs', F_after n [.p (efl l), .r i] ah = .ok (.p (.int (cntF n l))) (ah.set i (.dct kvs')) ∧ Tab kvs' ∧ kvs'.length ≤ kvs.length + bndF n l) :
    ∀ (os : List Sq), (∀ o ∈ os, o ∈ r) → ∀ (acc : Int) (x3 x4 : Option D) (ah : AH) (kvs : List (PyData × D)), ah[i]? = some (.dct kvs) → Tab kvs → kvs.length + (os.map fun o => bndF n (r.filter fun x => decide (x ≠ o))).sum ≤ 16777216 →
      ∃ x3' x4' kvs', forL (gN 3) (aBody (F_after n)) ((os.map esq).map .p) [some (.p (efl (s :: r))), some (.r i), some (.p (.int acc)), x3, x4, none] ah
        = .nx [some (.p (efl (s :: r))), some (.r i), some (.p (.int (acc + (os.map fun o => cntF n (r.filter fun x => decide (x ≠ o))).sum))), x3', x4', none] (ah.set i (.dct kvs')) ∧ Tab kvs' ∧ kvs'.length ≤ kvs.length + (os.map fun o => bndF n (r.filter fun x => decide (x ≠ o))).sum
  | [], _, acc, x3, x4, ah, kvs, h, t, _ => ⟨x3, x4, kvs, by simp [e_for_nil, set_same h], t, by simp⟩
  | o :: os, ho, acc, x3, x4, ah, kvs, h, t, hb => by
    rw [List.map_cons, List.sum_cons] at hb
    have hm := ho o List.mem_cons_self
    have hlt := filter_lt hm
    obtain ⟨kvs1, e1, t1, b1⟩ := ih (r.filter fun x => decide (x ≠ o)) (by omega) (by omega) ah kvs h t (by omega)
    obtain ⟨x3', x4', kvs2, e2, t2, b2⟩ := forAfter (s := s) hr hn ih os (fun p hp => ho p (List.mem_cons_of_mem _ hp)) (acc + cntF n (r.filter fun x => decide (x ≠ o))) (some (.p (esq o))) (some (.p (efl (r.filter fun x => decide (x ≠ o))))) (ah.set i (.dct kvs1)) kvs1 (get_set h) t1 (by omega)
    refine ⟨x3', x4', kvs2, ?_, t2, ?_⟩
    · rw [List.map_cons, List.map_cons, e_for_cons]
      show (match aBody (F_after n) [some (.p (efl (s :: r))), some (.r i), some (.p (.int acc)), some (.p (esq o)), x4, none] ah with
        | .nx σ' ah' => forL (gN 3) (aBody (F_after n)) ((os.map esq).map .p) σ' ah'
        | .ct σ' ah' => forL (gN 3) (aBody (F_after n)) ((os.map esq).map .p) σ' ah'
        | .bk σ' ah' => .nx σ' ah'
        | .rt d ah' => .rt d ah'
        | .ex k σ' ah' => .ex k σ' ah'
        | .bad => .bad) = _
      have hb : aBody (F_after n) [some (.p (efl (s :: r))), some (.r i), some (.p (.int acc)), some (.p (esq o)), x4, none] ah
          = .nx [some (.p (efl (s :: r))), some (.r i), some (.p (.int (acc + cntF n (r.filter fun x => decide (x ≠ o))))), some (.p (esq o)), some (.p (efl (r.filter fun x => decide (x ≠ o)))), none] (ah.set i (.dct kvs1)) := by
        unfold aBody
        rw [e_seq, e_set, left_eq s o r hr]
        rw [R.then_ok, O.seq_nx, e_set, e_f2]
        simp only [e_sets, e_set0, e_vs, e_v0, R.bind_ok, e_call, e_cons, e_nil, e1]
        rfl
      rw [hb]
      dsimp only
      rw [e2, List.map_cons, List.sum_cons, Int.add_assoc, List.set_set]
    · rw [List.map_cons, List.sum_cons]
      omega
theorem nb_len (l : List Sq) (s : Sq) : (nb l s).length ≤ 4 := List.length_filter_le _ _
theorem F_after_ok (i : Nat) : ∀ (n : Nat) (l : List Sq), l.length < n → l.length ≤ 1000 → ∀ (ah : AH) (kvs : List (PyData × D)), ah[i]? = some (.dct kvs) → Tab kvs → kvs.length + bndF n l ≤ 16777216 →
    ∃ kvs', F_after n [.p (efl l), .r i] ah = .ok (.p (.int (cntF n l))) (ah.set i (.dct kvs')) ∧ Tab kvs' ∧ kvs'.length ≤ kvs.length + bndF n l
  | 0, _, h, _, _, _, _, _, _ => absurd h (Nat.not_lt_zero _)
  | n + 1, [], _, _, ah, kvs, h, t, hb => by
    refine ⟨kvs, ?_, t, Nat.le_add_right _ _⟩
    rw [set_same h]
    rfl
  | n + 1, s :: r, hl, h1000, ah, kvs, h, t, hb => by
    have hr : r.length ≤ 1000 := by
      rw [List.length_cons] at h1000
      omega
    have hn : r.length < n := Nat.lt_of_succ_lt_succ hl
    have ko := keyOk_efl (s :: r)
    have hbd : bndF (n + 1) (s :: r) = 1 + ((nb (s :: r) s).map fun o => bndF n (r.filter fun x => decide (x ≠ o))).sum := rfl
    have hst : startD 6 [.p (efl (s :: r)), .r i] = [some (.p (efl (s :: r))), some (.r i), none, none, none, none] := rfl
    have hF : F_after (n + 1) = fDef 6 (g_after (F_after n)) := rfl
    have htru : tNotF (tTru (fVar 0)) [some (.p (efl (s :: r))), some (.r i), none, none, none, none] ah = .ok false ah := rfl
    rw [hF, e_def, hst, g_after, e_seq, e_if, htru, R.then_ok, if_neg Bool.false_ne_true, e_nx, O.seq_nx, e_seq, e_if, e_tB]
    have hni : f2 gNotIn (fVar 0) (fVar 1) [some (.p (efl (s :: r))), some (.r i), none, none, none, none] ah = .ok (.p (.bool (!(kfind kvs (efl (s :: r))).isSome))) ah := by
      show gNotIn (.p (efl (s :: r))) (.r i) ah = _
      unfold gNotIn
      rw [inOf_dct h ko]
    rw [hni, R.bind_ok]
    dsimp only
    rw [R.then_ok]
    cases q : kfind kvs (efl (s :: r)) with
    | some d =>
      refine ⟨kvs, ?_, t, Nat.le_add_right _ _⟩
      rw [if_neg (by simp), e_nx, O.seq_nx, e_ret, e_f2, e_vs, e_v0, R.bind_ok, e_v0, R.bind_ok, sub_dct h ko q, R.then_ok, e_rt]
      obtain ⟨e, he, hk, hd⟩ := kfind_mem q
      obtain ⟨l', m, e1, e2, e3⟩ := t e he
      rw [e1, nk_efl] at hk
      subst hk
      rw [← hd, e3, set_same h, cntF_any m (n + 1) (s :: r) e2 hl]
    | none =>
      have hc : fCall F_neighbours (aCons (fVar 0) (aCons (f2 gSub2 (fVar 0) (fC (.int 0))) aNil)) [some (.p (efl (s :: r))), some (.r i), some (.p (.int 0)), none, none, none] ah = F_neighbours [.p (efl (s :: r)), .p (esq s)] ah := by
        simp only [e_call, e_cons, e_v0, R.bind_ok, e_f2, e_c, sub_head, e_nil]
      rw [if_pos (by rfl), e_seq, e_set, e_c, R.then_ok, O.seq_nx, e_sets, e_sets, e_set0, e_seq, e_for, e_any, hc]
      rw [F_neighbours_eq, R.bind_ok]
      dsimp only
      rw [R.then_ok]
      obtain ⟨x3, x4, kvs1, e1, t1, b1⟩ := forAfter (s := s) hr hn (fun l a b ah kvs c d e => F_after_ok i n l a b ah kvs c d e) (nb (s :: r) s) (fun o ho => nb_rest ho) 0 none none ah kvs h t (by omega)
      have e1' := e1
      unfold aBody at e1'
      rw [e1', O.seq_nx]
      have h1 := get_set (o' := .dct kvs1) h
      have hput : sDPut (fVar 1) (fVar 0) (fVar 2) [some (.p (efl (s :: r))), some (.r i), some (.p (.int (0 + ((nb (s :: r) s).map fun o => cntF n (r.filter fun x => decide (x ≠ o))).sum))), x3, x4, none] (ah.set i (.dct kvs1))
          = .nx [some (.p (efl (s :: r))), some (.r i), some (.p (.int (0 + ((nb (s :: r) s).map fun o => cntF n (r.filter fun x => decide (x ≠ o))).sum))), x3, x4, none] ((ah.set i (.dct kvs1)).set i (.dct (kput kvs1 (efl (s :: r)) (.p (.int (0 + ((nb (s :: r) s).map fun o => cntF n (r.filter fun x => decide (x ≠ o))).sum)))))) := by
        show (match gDPut (.r i) (.p (efl (s :: r))) _ (ah.set i (.dct kvs1)) with
          | some ah4 => O.nx _ ah4
          | none => .bad) = _
        rw [dput_dct h1 ko (by omega)]
      rw [hput, O.seq_nx, e_ret]
      refine ⟨kput kvs1 (efl (s :: r)) (.p (.int (0 + ((nb (s :: r) s).map fun o => cntF n (r.filter fun x => decide (x ≠ o))).sum))), ?_, ?_, ?_⟩
      · rw [e_f2, e_vs, e_v0, R.bind_ok, e_v0, R.bind_ok, sub_dct (get_set h1) ko kfind_kput, R.then_ok, e_rt, List.set_set, Int.zero_add]
        rfl
      · intro e he
        unfold kput at he
        split at he
        · obtain ⟨e', h1', h2'⟩ := List.mem_map.mp he
          split at h2'
          · rename_i c
            obtain ⟨l', m, z1, z2, z3⟩ := t1 e' h1'
            rw [z1, nk_efl] at c
            subst c
            rw [← h2']
            exact ⟨_, n + 1, z1, hl, by rw [Int.zero_add]; rfl⟩
          · rw [← h2']
            exact t1 e' h1'
        · rcases List.mem_append.mp he with he | he
          · exact t1 e he
          · have e' : e = (efl (s :: r), .p (.int (0 + ((nb (s :: r) s).map fun o => cntF n (r.filter fun x => decide (x ≠ o))).sum))) := by simpa using he
            rw [e']
            exact ⟨s :: r, n + 1, rfl, hl, by rw [Int.zero_add]; rfl⟩
      · have hk : (kput kvs1 (efl (s :: r)) (.p (.int (0 + ((nb (s :: r) s).map fun o => cntF n (r.filter fun x => decide (x ≠ o))).sum)))).length ≤ kvs1.length + 1 := by
          unfold kput
          split
          · rw [List.length_map]; omega
          · rw [List.length_append, List.length_singleton]; omega
        omega
theorem F_count_ok (l : List Sq) (h : l.length ≤ 25) (hb : bndF 26 l ≤ 16777216) (ah : AH) : ∃ g, F_count [.p (efl l)] ah = .ok (.p (.int (cntF 26 l))) (ah ++ [g]) := by
  have h0 : (ah ++ [AO.dct []])[ah.length]? = some (.dct []) := by
    rw [List.getElem?_append_right (Nat.le_refl _)]; simp
  obtain ⟨kvs, e, _, _⟩ := F_after_ok ah.length 26 l (by omega) (by omega) (ah ++ [.dct []]) [] h0 (fun e he => by cases he) (by simpa using hb)
  refine ⟨.dct kvs, ?_⟩
  show O.fin (R.then (F_after 26 [.p (efl l), .r ah.length] (ah ++ [.dct []])) _ _) = _
  rw [e]
  have : (ah ++ [AO.dct []]).set ah.length (.dct kvs) = ah ++ [.dct kvs] := by
    rw [List.set_append_right _ _ (Nat.le_refl _)]
    simp
  rw [this]
  rfl
end DL

set_option Elab.async false
set_option linter.all false
set_option maxRecDepth 100000
/-! MC: more of the reckoning; cells, whole floors. -/
namespace DL
open PySem PySem.Spec PyProof.Rows L2
section
variable {σ : DS} {ah : AH} {i j n : Nat} {f g : SF} {fe fo fb : EF} {fa : AF} {c c2 : TF} {d : D} {ds : List D} {a b : Int}
theorem b_ok {α β : Type} {x : α} {k : α → AH → R β} : (R.ok x ah).bind k = k x ah := (rfl)
theorem b_ex {α β : Type} {x : Nat} {k : α → AH → R β} : (R.ex x ah).bind k = .ex x ah := (rfl)
theorem t_ok {α : Type} {x : α} {k : α → AH → O} : (R.ok x ah).then σ k = k x ah := (rfl)
theorem t_ex {α : Type} {x : Nat} {k : α → AH → O} : (R.ex x ah : R α).then σ k = .ex x σ ah := (rfl)
theorem s_nx {k : DS → AH → O} : (O.nx σ ah).seq k = k σ ah := (rfl)
theorem s_rt {k : DS → AH → O} : (O.rt d ah).seq k = .rt d ah := (rfl)
theorem s_bk {k : DS → AH → O} : (O.bk σ ah).seq k = .bk σ ah := (rfl)
theorem s_ct {k : DS → AH → O} : (O.ct σ ah).seq k = .ct σ ah := (rfl)
theorem s_ex {k : DS → AH → O} : (O.ex i σ ah).seq k = .ex i σ ah := (rfl)
theorem o_ok {α β : Type} {x : α} {k : α → AH → R β} : (R.ok x ah).only k = k x ah := (rfl)
theorem if_true' {α : Type} {x y : α} : (if true = true then x else y) = x := rfl
theorem if_false' {α : Type} {x y : α} : (if false = true then x else y) = y := rfl
theorem e_tru : tTru fe σ ah = (fe σ ah).bind fun d ah1 => match truOf ah1 d with
  | some b => .ok b ah1
  | none => .bad := (rfl)
theorem e_notF : tNotF c σ ah = (c σ ah).bind fun b ah1 => .ok (!b) ah1 := (rfl)
theorem e_and : tAndF c c2 σ ah = (c σ ah).bind fun b ah1 => if b = true then c2 σ ah1 else .ok false ah1 := (rfl)
theorem e_or : tOrF c c2 σ ah = (c σ ah).bind fun b ah1 => if b = true then .ok true ah1 else c2 σ ah1 := (rfl)
theorem e_yes : tYesF σ ah = .ok true ah := (rfl)
theorem e_neg : fNeg fe σ ah = (fe σ ah).bind fun d ah1 => match d with
  | .p (.int i) => .ok (.p (.int (-i))) ah1
  | _ => .bad := (rfl)
theorem e_tup : fTup fa σ ah = (fa σ ah).bind fun ds ah1 => match pures ds with
  | some xs => if ds.length ≤ 1000 then .ok (.p (.tuple xs)) ah1 else .bad
  | none => .bad := (rfl)
theorem e_lst : fLst fa σ ah = (fa σ ah).bind fun ds ah1 => match pures ds with
  | some xs => if ds.length ≤ 1000 then .ok (.p (.list xs)) ah1 else .bad
  | none => .bad := (rfl)
theorem e_lstM : fLstM fa σ ah = (fa σ ah).bind fun ds ah1 => if ds.length ≤ 1000 then .ok (.r ah1.length) (ah1 ++ [.lst ds]) else .bad := (rfl)
theorem e_lst0 : fLst aNil σ ah = .ok (.p (.list [])) ah := (rfl)
theorem e_frz : fFrz fe σ ah = (fe σ ah).bind gFrz := (rfl)
theorem e_asg {gt : GF} : sAsg fe gt σ ah = (fe σ ah).then σ fun d ah1 => match gt d σ ah1 with
  | some σ' => .nx σ' ah1
  | none => .bad := (rfl)
theorem e_gN : gN i d σ ah = some (σ.set i (some d)) := (rfl)
theorem e_tupl {xs : List PyData} : gTuple [.p (.list xs)] ah = .ok (.p (.tuple xs)) ah := (rfl)
theorem e_tupl2 {xs : List PyData} : gTuple [.p (.tuple xs)] ah = .ok (.p (.tuple xs)) ah := (rfl)
theorem e_r1 : iRange1 fa σ ah = (fa σ ah).bind fun ds ah1 => match ds with
  | [.p (.int j)] => if rOk j then .ok (rangeD 0 j.toNat) ah1 else .bad
  | _ => .bad := (rfl)
theorem i_add : gAdd (.p (.int a)) (.p (.int b)) ah = .ok (.p (.int (a + b))) ah := (rfl)
theorem i_sub : gSub (.p (.int a)) (.p (.int b)) ah = .ok (.p (.int (a - b))) ah := (rfl)
theorem i_mod (h : 0 < b) : gMod (.p (.int a)) (.p (.int b)) ah = .ok (.p (.int (a % b))) ah := by
  show (if decide (0 < b) = true then R.ok (D.p (.int (a % b))) ah else .bad) = _
  rw [if_pos (decide_eq_true h)]
theorem i_div (h : 0 < b) (h2 : b < 1073741824) : gDiv (.p (.int a)) (.p (.int b)) ah = .ok (.p (.int (a / b))) ah := by
  show (if decide (0 < b ∧ b < 1073741824) = true then R.ok (D.p (.int (a / b))) ah else .bad) = _
  rw [if_pos (decide_eq_true ⟨h, h2⟩)]
theorem i_mul (h : (smallB a || smallB b) = true) : gMulS (.p (.int a)) (.p (.int b)) ah = .ok (.p (.int (a * b))) ah := by
  show (if (smallB a || smallB b) = true then R.ok (D.p (.int (a * b))) ah else .bad) = _
  rw [if_pos h]
theorem cmp_int : cmpOk (.int a) (.int b) = true := rfl
theorem i_lt : gLt (.p (.int a)) (.p (.int b)) ah = .ok (.p (.bool (decide (a < b)))) ah := by
  show (if cmpOk (.int a) (.int b) = true then R.ok (D.p (.bool (PySem.W.dataLt (.int a) (.int b)))) ah else .bad) = _
  rw [cmp_int, PySem.W.dataLt_int]; rfl
theorem i_gt : gGt (.p (.int a)) (.p (.int b)) ah = .ok (.p (.bool (decide (b < a)))) ah := by
  show (if cmpOk (.int a) (.int b) = true then R.ok (D.p (.bool (PySem.W.dataLt (.int b) (.int a)))) ah else .bad) = _
  rw [cmp_int, PySem.W.dataLt_int]; rfl
theorem i_le : gLe (.p (.int a)) (.p (.int b)) ah = .ok (.p (.bool (decide (a ≤ b)))) ah := by
  show (if cmpOk (.int a) (.int b) = true then R.ok (D.p (.bool (!PySem.W.dataLt (.int b) (.int a)))) ah else .bad) = _
  rw [cmp_int, PySem.W.dataLt_int, if_true']
  by_cases h : a ≤ b
  · rw [decide_eq_true h, decide_eq_false (by omega)]; rfl
  · rw [decide_eq_false h, decide_eq_true (by omega)]; rfl
theorem i_ge : gGe (.p (.int a)) (.p (.int b)) ah = .ok (.p (.bool (decide (b ≤ a)))) ah := by
  show (if cmpOk (.int a) (.int b) = true then R.ok (D.p (.bool (!PySem.W.dataLt (.int a) (.int b)))) ah else .bad) = _
  rw [cmp_int, PySem.W.dataLt_int, if_true']
  by_cases h : b ≤ a
  · rw [decide_eq_true h, decide_eq_false (by omega)]; rfl
  · rw [decide_eq_false h, decide_eq_true (by omega)]; rfl
theorem i_eq : gEq (.p (.int a)) (.p (.int b)) ah = .ok (.p (.bool (decide (a = b)))) ah := (rfl)
theorem i_ne : gNe (.p (.int a)) (.p (.int b)) ah = .ok (.p (.bool (!decide (a = b)))) ah := (rfl)
theorem l_add {xs ys : List PyData} (h : xs.length + ys.length ≤ 16777216) : gAdd (.p (.list xs)) (.p (.list ys)) ah = .ok (.p (.list (xs ++ ys))) ah := by
  show (if xs.length + ys.length ≤ 16777216 then R.ok (D.p (.list (xs ++ ys))) ah else .bad) = _
  rw [if_pos h]
theorem t_add {xs ys : List PyData} (h : xs.length + ys.length ≤ 16777216) : gAdd (.p (.tuple xs)) (.p (.tuple ys)) ah = .ok (.p (.tuple (xs ++ ys))) ah := by
  show (if xs.length + ys.length ≤ 16777216 then R.ok (D.p (.tuple (xs ++ ys))) ah else .bad) = _
  rw [if_pos h]
theorem efl_add {l k : List Sq} (h : l.length + k.length ≤ 16777216) : gAdd (.p (efl l)) (.p (efl k)) ah = .ok (.p (efl (l ++ k))) ah := by
  unfold efl
  rw [t_add (by simpa using h), List.map_append]
theorem len_s {ns : List Int} : gLen [.s ns] ah = .ok (.p (.int ns.length)) ah := by
  show R.ok (D.p (.int ((ns.map fun i => D.p (.int i)).length : Nat))) ah = _
  rw [List.length_map]
theorem len_t {xs : List PyData} : gLen [.p (.tuple xs)] ah = .ok (.p (.int xs.length)) ah := by
  show R.ok (D.p (.int ((xs.map D.p).length : Nat))) ah = _
  rw [List.length_map]
theorem len_l {xs : List PyData} : gLen [.p (.list xs)] ah = .ok (.p (.int xs.length)) ah := by
  show R.ok (D.p (.int ((xs.map D.p).length : Nat))) ah = _
  rw [List.length_map]
theorem sub_s {ns : List Int} {k : Nat} {x : Int} (h : ns[k]? = some x) : gSub2 (.s ns) (.p (.int (k : Int))) ah = .ok (.p (.int x)) ah := by
  have h1 : atI (ns.map fun i => D.p (.int i)) (k : Int) = some (.p (.int x)) := atI_nat (by rw [List.getElem?_map, h]; rfl)
  show (match atI (ns.map fun i => D.p (.int i)) (k : Int) with
    | some x => R.ok x ah
    | none => R.bad) = _
  rw [h1]
/-- a loop, by its invariant -/
theorem for_inv {α : Type} {gt : GF} {f : SF} (g : α → D) (I : List α → DS → AH → Prop) (xs : List α)
    (st : ∀ done x rest, xs = done ++ x :: rest → ∀ σ ah, I done σ ah → ∃ σ1 σ2 ah2, gt (g x) σ ah = some σ1 ∧ (f σ1 ah = .nx σ2 ah2 ∨ f σ1 ah = .ct σ2 ah2) ∧ I (done ++ [x]) σ2 ah2) (h0 : I [] σ ah) :
    ∃ σ' ah', forL gt f (xs.map g) σ ah = .nx σ' ah' ∧ I xs σ' ah' := by
  have key : ∀ rest done, xs = done ++ rest → ∀ σ ah, I done σ ah → ∃ σ' ah', forL gt f (rest.map g) σ ah = .nx σ' ah' ∧ I xs σ' ah' := by
    intro rest
    induction rest with
    | nil =>
      intro done e σ ah h
      rw [List.append_nil] at e
      exact ⟨σ, ah, rfl, e ▸ h⟩
    | cons x r ih =>
      intro done e σ ah h
      obtain ⟨σ1, σ2, ah2, e1, e2, h2⟩ := st done x r e σ ah h
      obtain ⟨σ', ah', e3, h3⟩ := ih (done ++ [x]) (by rw [e]; simp) σ2 ah2 h2
      refine ⟨σ', ah', ?_, h3⟩
      rw [List.map_cons, e_for_cons, e1]
      rcases e2 with e2 | e2 <;> (dsimp only; rw [e2]; exact e3)
  exact key xs [] rfl σ ah h0
/-- a loop that may return early -/
theorem for_rt {α : Type} {gt : GF} {f : SF} (g : α → D) (I : List α → DS → AH → Prop) (Rr : D → AH → Prop) (xs : List α)
    (st : ∀ done x rest, xs = done ++ x :: rest → ∀ σ ah, I done σ ah → ∃ σ1, gt (g x) σ ah = some σ1 ∧ ((∃ σ2 ah2, (f σ1 ah = .nx σ2 ah2 ∨ f σ1 ah = .ct σ2 ah2) ∧ I (done ++ [x]) σ2 ah2) ∨ ∃ d ah2, f σ1 ah = .rt d ah2 ∧ Rr d ah2)) (h0 : I [] σ ah) :
    (∃ σ' ah', forL gt f (xs.map g) σ ah = .nx σ' ah' ∧ I xs σ' ah') ∨ ∃ d ah', forL gt f (xs.map g) σ ah = .rt d ah' ∧ Rr d ah' := by
  have key : ∀ rest done, xs = done ++ rest → ∀ σ ah, I done σ ah → (∃ σ' ah', forL gt f (rest.map g) σ ah = .nx σ' ah' ∧ I xs σ' ah') ∨ ∃ d ah', forL gt f (rest.map g) σ ah = .rt d ah' ∧ Rr d ah' := by
    intro rest
    induction rest with
    | nil =>
      intro done e σ ah h
      rw [List.append_nil] at e
      exact .inl ⟨σ, ah, rfl, e ▸ h⟩
    | cons x r ih =>
      intro done e σ ah h
      obtain ⟨σ1, e1, ⟨σ2, ah2, e2, h2⟩ | ⟨d, ah2, e2, h2⟩⟩ := st done x r e σ ah h
      · rcases ih (done ++ [x]) (by rw [e]; simp) σ2 ah2 h2 with ⟨σ', ah', e3, h3⟩ | ⟨d, ah', e3, h3⟩
        · refine .inl ⟨σ', ah', ?_, h3⟩
          rw [List.map_cons, e_for_cons, e1]
          rcases e2 with e2 | e2 <;> (dsimp only; rw [e2]; exact e3)
        · refine .inr ⟨d, ah', ?_, h3⟩
          rw [List.map_cons, e_for_cons, e1]
          rcases e2 with e2 | e2 <;> (dsimp only; rw [e2]; exact e3)
      · refine .inr ⟨d, ah2, ?_, h2⟩
        rw [List.map_cons, e_for_cons, e1]
        dsimp only
        rw [e2]
  exact key xs [] rfl σ ah h0
end
theorem F_cell_ok (ns : List Int) (k : Nat) (ah : AH) : F__law_cell [.s ns, .p (.int (k : Int))] ah = .ok (.p (.int (ns.getD k 0))) ah := by
  rw [E__law_cell, g__law_cell]
  simp only [e_seq, e_nx, e_set, e_ret, e_expr, e_if, e_f2, e_call, e_nil, e_cons, e_c, e_v0, e_vs, e_set0, e_sets, e_tB, e_tru, e_notF, e_neg, b_ok, b_ex, t_ok, t_ex, s_nx, s_rt, s_bk, s_ct, s_ex, o_ok, e_rt, e_fnx, i_add, i_sub, i_mod, Int.reduceLT, i_lt, i_le, i_gt, i_ge, i_eq, i_ne, l_add, t_add, e_r1, e_for, e_lc, e_gN, e_asg, e_tup, e_any, e_tupl, e_frz, ↓reduceIte, Bool.false_eq_true, Bool.not_true, Bool.not_false, e_and, e_or, e_yes, len_s]
  by_cases h : k < ns.length
  · simp only [e_seq, e_nx, e_set, e_ret, e_expr, e_if, e_f2, e_call, e_nil, e_cons, e_c, e_v0, e_vs, e_set0, e_sets, e_tB, e_tru, e_notF, e_neg, b_ok, b_ex, t_ok, t_ex, s_nx, s_rt, s_bk, s_ct, s_ex, o_ok, e_rt, e_fnx, i_add, i_sub, i_mod, Int.reduceLT, i_lt, i_le, i_gt, i_ge, i_eq, i_ne, l_add, t_add, e_r1, e_for, e_lc, e_gN, e_asg, e_tup, e_any, e_tupl, e_frz, ↓reduceIte, Bool.false_eq_true, Bool.not_true, Bool.not_false, e_and, e_or, e_yes, decide_eq_true (show (k : Int) < ns.length by omega), sub_s (List.getElem?_eq_getElem h)]
    simp [h]
  · simp only [e_seq, e_nx, e_set, e_ret, e_expr, e_if, e_f2, e_call, e_nil, e_cons, e_c, e_v0, e_vs, e_set0, e_sets, e_tB, e_tru, e_notF, e_neg, b_ok, b_ex, t_ok, t_ex, s_nx, s_rt, s_bk, s_ct, s_ex, o_ok, e_rt, e_fnx, i_add, i_sub, i_mod, Int.reduceLT, i_lt, i_le, i_gt, i_ge, i_eq, i_ne, l_add, t_add, e_r1, e_for, e_lc, e_gN, e_asg, e_tup, e_any, e_tupl, e_frz, ↓reduceIte, Bool.false_eq_true, Bool.not_true, Bool.not_false, e_and, e_or, e_yes, decide_eq_false (show ¬ (k : Int) < ns.length by omega)]
    simp [h]
theorem cell0 (ns : List Int) (ah : AH) : F__law_cell [.s ns, .p (.int 0)] ah = .ok (.p (.int (ns.getD 0 0))) ah := F_cell_ok ns 0 ah
theorem cell1 (ns : List Int) (ah : AH) : F__law_cell [.s ns, .p (.int 1)] ah = .ok (.p (.int (ns.getD 1 0))) ah := F_cell_ok ns 1 ah
theorem cell2 (ns : List Int) (ah : AH) : F__law_cell [.s ns, .p (.int 2)] ah = .ok (.p (.int (ns.getD 2 0))) ah := F_cell_ok ns 2 ah
theorem cell3 (ns : List Int) (ah : AH) : F__law_cell [.s ns, .p (.int 3)] ah = .ok (.p (.int (ns.getD 3 0))) ah := F_cell_ok ns 3 ah
theorem cell4 (ns : List Int) (ah : AH) : F__law_cell [.s ns, .p (.int 4)] ah = .ok (.p (.int (ns.getD 4 0))) ah := F_cell_ok ns 4 ah
theorem cell5 (ns : List Int) (ah : AH) : F__law_cell [.s ns, .p (.int 5)] ah = .ok (.p (.int (ns.getD 5 0))) ah := F_cell_ok ns 5 ah
theorem cell6 (ns : List Int) (ah : AH) : F__law_cell [.s ns, .p (.int 6)] ah = .ok (.p (.int (ns.getD 6 0))) ah := F_cell_ok ns 6 ah
theorem cell7 (ns : List Int) (ah : AH) : F__law_cell [.s ns, .p (.int 7)] ah = .ok (.p (.int (ns.getD 7 0))) ah := F_cell_ok ns 7 ah
theorem cell8 (ns : List Int) (ah : AH) : F__law_cell [.s ns, .p (.int 8)] ah = .ok (.p (.int (ns.getD 8 0))) ah := F_cell_ok ns 8 ah
theorem cell9 (ns : List Int) (ah : AH) : F__law_cell [.s ns, .p (.int 9)] ah = .ok (.p (.int (ns.getD 9 0))) ah := F_cell_ok ns 9 ah
theorem cell10 (ns : List Int) (ah : AH) : F__law_cell [.s ns, .p (.int 10)] ah = .ok (.p (.int (ns.getD 10 0))) ah := F_cell_ok ns 10 ah
theorem cell11 (ns : List Int) (ah : AH) : F__law_cell [.s ns, .p (.int 11)] ah = .ok (.p (.int (ns.getD 11 0))) ah := F_cell_ok ns 11 ah
theorem cell12 (ns : List Int) (ah : AH) : F__law_cell [.s ns, .p (.int 12)] ah = .ok (.p (.int (ns.getD 12 0))) ah := F_cell_ok ns 12 ah
theorem cell13 (ns : List Int) (ah : AH) : F__law_cell [.s ns, .p (.int 13)] ah = .ok (.p (.int (ns.getD 13 0))) ah := F_cell_ok ns 13 ah
theorem cell14 (ns : List Int) (ah : AH) : F__law_cell [.s ns, .p (.int 14)] ah = .ok (.p (.int (ns.getD 14 0))) ah := F_cell_ok ns 14 ah
theorem cell15 (ns : List Int) (ah : AH) : F__law_cell [.s ns, .p (.int 15)] ah = .ok (.p (.int (ns.getD 15 0))) ah := F_cell_ok ns 15 ah
theorem mod_nat (x : Int) (n : Nat) (h : 0 < n) : ∃ a : Nat, a < n ∧ x % (n : Int) = (a : Int) := ⟨(x % (n : Int)).toNat, by have := Int.emod_lt_of_pos x (show (0 : Int) < n by omega); have := Int.emod_nonneg x (show (n : Int) ≠ 0 by omega); omega, by have := Int.emod_nonneg x (show (n : Int) ≠ 0 by omega); omega⟩
theorem e_lc_nil {i : Nat} {ct : TF} {fe : EF} {σ : DS} {ah : AH} : lcL i ct fe [] σ ah = .ok [] ah := (rfl)
def rect (h w : Nat) (d r : Int) : List Sq := (List.range h).flatMap fun (i : Nat) => (List.range w).map fun (j : Nat) => (d + (i : Int), r + (j : Int))
theorem rangeD_map (n : Nat) : rangeD 0 n = (List.range n).map fun (i : Nat) => D.p (.int (i : Int)) := by
  unfold rangeD
  congr 1
  funext i
  rw [Int.zero_add]
theorem rOk_nat {n : Nat} (h : n ≤ 1000000) : rOk (n : Int) = true := by
  have e : (2 : Int) ^ 62 = 4611686018427387904 := by decide
  unfold rOk
  rw [e]
  exact decide_eq_true ⟨by omega, by omega⟩
theorem filter_t {α : Type} (l : List α) : l.filter (fun _ => true) = l := List.filter_eq_self.mpr fun _ _ => rfl
theorem flat_len {α : Type} {f : Nat → List α} {b : Nat} : ∀ l : List Nat, (∀ i ∈ l, (f i).length = b) → (l.flatMap f).length = l.length * b
  | [], _ => by simp
  | i :: r, h => by
    rw [List.flatMap_cons, List.length_append, h i List.mem_cons_self, flat_len r fun j hj => h j (List.mem_cons_of_mem _ hj), List.length_cons, Nat.succ_mul, Nat.add_comm]
theorem rect_len (h w : Nat) (d r : Int) : (rect h w d r).length = h * w := by
  unfold rect
  rw [flat_len (b := w) _ (fun i _ => by rw [List.length_map, List.length_range]), List.length_range]
theorem F_whole_ok (a b : Nat) (ha : a ≤ 1000) (hb : b ≤ 1000) (d r : Int) (ah : AH) : F__law_whole_floor [.p (.int a), .p (.int b), .p (.int d), .p (.int r)] ah = .ok (.p (efl (rect a b d r))) ah := by
  rw [E__law_whole_floor, g__law_whole_floor]
  simp only [e_seq, e_nx, e_set, e_ret, e_expr, e_if, e_f2, e_call, e_nil, e_cons, e_c, e_v0, e_vs, e_set0, e_sets, e_tB, e_tru, e_notF, e_neg, b_ok, b_ex, t_ok, t_ex, s_nx, s_rt, s_bk, s_ct, s_ex, o_ok, e_rt, e_fnx, i_add, i_sub, i_mod, Int.reduceLT, i_lt, i_le, i_gt, i_ge, i_eq, i_ne, l_add, t_add, e_r1, e_for, e_lc, e_gN, e_asg, e_tup, e_any, e_tupl, e_frz, ↓reduceIte, Bool.false_eq_true, Bool.not_true, Bool.not_false, e_and, e_or, e_yes, e_lst0, rOk_nat (show a ≤ 1000000 by omega), Int.toNat_natCast, rangeD_map]
  obtain ⟨σ', ah', e1, ⟨e2, x5, x6, e3⟩⟩ := for_inv (σ := [some (D.p (.int a)), some (.p (.int b)), some (.p (.int d)), some (.p (.int r)), some (.p (.list [])), none, none]) (ah := ah) (gt := gN 5)
    (f := sSet 4 (f2 gAdd (fVar 4) (fLc (iRange1 (aCons (fVar 1) aNil)) 6 tYesF (fTup (aCons (f2 gAdd (fVar 2) (fVar 5)) (aCons (f2 gAdd (fVar 3) (fVar 6)) aNil))))))
    (fun (i : Nat) => D.p (.int (i : Int))) (fun done σ ah' => ah' = ah ∧ ∃ x5 x6, σ = [some (D.p (.int a)), some (.p (.int b)), some (.p (.int d)), some (.p (.int r)), some (.p (.list ((done.flatMap fun (i : Nat) => (List.range b).map fun (j : Nat) => (d + (i : Int), r + (j : Int))).map esq))), x5, x6]) (List.range a)
    (by
      intro done i rest e σ ah' hI
      obtain ⟨rfl, x5, x6, rfl⟩ := hI
      have hl : lcL 6 tYesF (fTup (aCons (f2 gAdd (fVar 2) (fVar 5)) (aCons (f2 gAdd (fVar 3) (fVar 6)) aNil))) ((List.range b).map fun (j : Nat) => D.p (.int (j : Int))) [some (D.p (.int a)), some (.p (.int b)), some (.p (.int d)), some (.p (.int r)), some (.p (.list ((done.flatMap fun (i : Nat) => (List.range b).map fun (j : Nat) => (d + (i : Int), r + (j : Int))).map esq))), some (.p (.int (i : Int))), x6] ah'
          = .ok (((List.range b).filter fun _ => true).map fun (j : Nat) => esq (d + (i : Int), r + (j : Int))) ah' :=
        lcL_map _ (fun _ => true) _ _ (fun _ _ => rfl) (fun _ _ _ => rfl)
      have hdone : done.length ≤ 1000 := by
        have := congrArg List.length e
        rw [List.length_range, List.length_append, List.length_cons] at this
        omega
      have hlen : (done.flatMap fun (i : Nat) => (List.range b).map fun (j : Nat) => ((d + (i : Int), r + (j : Int)) : Sq)).length ≤ 1000000 := by
        rw [flat_len (b := b) _ (fun i _ => by rw [List.length_map, List.length_range])]
        exact Nat.le_trans (Nat.mul_le_mul hdone hb) (by decide)
      refine ⟨_, _, _, rfl, .inl ?_, rfl, some (.p (.int (i : Int))), x6, rfl⟩
      simp only [e_seq, e_nx, e_set, e_ret, e_expr, e_if, e_f2, e_call, e_nil, e_cons, e_c, e_v0, e_vs, e_set0, e_sets, e_tB, e_tru, e_notF, e_neg, b_ok, b_ex, t_ok, t_ex, s_nx, s_rt, s_bk, s_ct, s_ex, o_ok, e_rt, e_fnx, i_add, i_sub, i_mod, Int.reduceLT, i_lt, i_le, i_gt, i_ge, i_eq, i_ne, l_add, t_add, e_r1, e_for, e_lc, e_gN, e_asg, e_tup, e_any, e_tupl, e_frz, ↓reduceIte, Bool.false_eq_true, Bool.not_true, Bool.not_false, e_and, e_or, e_yes, rOk_nat (show b ≤ 1000000 by omega), Int.toNat_natCast, rangeD_map, hl]
      rw [if_pos (by simp only [List.length_map, List.length_range]; omega), R.bind_ok, l_add (by simp only [List.length_map, List.length_range, filter_t]; omega)]
      simp only [e_seq, e_nx, e_set, e_ret, e_expr, e_if, e_f2, e_call, e_nil, e_cons, e_c, e_v0, e_vs, e_set0, e_sets, e_tB, e_tru, e_notF, e_neg, b_ok, b_ex, t_ok, t_ex, s_nx, s_rt, s_bk, s_ct, s_ex, o_ok, e_rt, e_fnx, i_add, i_sub, i_mod, Int.reduceLT, i_lt, i_le, i_gt, i_ge, i_eq, i_ne, l_add, t_add, e_r1, e_for, e_lc, e_gN, e_asg, e_tup, e_any, e_tupl, e_frz, ↓reduceIte, Bool.false_eq_true, Bool.not_true, Bool.not_false, e_and, e_or, e_yes, filter_t, List.flatMap_append, List.flatMap_cons, List.flatMap_nil, List.append_nil, List.map_append, List.map_map]
      rfl)
    ⟨rfl, none, none, rfl⟩
  subst e2 e3
  rw [e1]
  simp only [e_seq, e_nx, e_set, e_ret, e_expr, e_if, e_f2, e_call, e_nil, e_cons, e_c, e_v0, e_vs, e_set0, e_sets, e_tB, e_tru, e_notF, e_neg, b_ok, b_ex, t_ok, t_ex, s_nx, s_rt, s_bk, s_ct, s_ex, o_ok, e_rt, e_fnx, i_add, i_sub, i_mod, Int.reduceLT, i_lt, i_le, i_gt, i_ge, i_eq, i_ne, l_add, t_add, e_r1, e_for, e_lc, e_gN, e_asg, e_tup, e_any, e_tupl, e_frz, ↓reduceIte, Bool.false_eq_true, Bool.not_true, Bool.not_false, e_and, e_or, e_yes]
  rfl
end DL

set_option Elab.async false
set_option linter.all false
set_option maxRecDepth 100000
/-! MF: the law's floors. -/
namespace DL
open PySem PySem.Spec PyProof.Rows L2
def sqLt (a b : Sq) : Prop := a.1 < b.1 ∨ (a.1 = b.1 ∧ a.2 < b.2)
/-- a floor -/
structure Flo (l : List Sq) : Prop where
  ne : l ≠ []
  le : l.length ≤ 24
  up : l.Pairwise sqLt
  in_ : ∀ s ∈ l, 0 ≤ s.1 ∧ s.1 ≤ 7 ∧ 0 ≤ s.2 ∧ s.2 ≤ 7
theorem rect_up (h w : Nat) (d r : Int) : (rect h w d r).Pairwise sqLt := by
  unfold rect
  rw [List.pairwise_flatMap]
  refine ⟨fun i _ => ?_, ?_⟩
  · rw [List.pairwise_map]
    exact List.pairwise_lt_range.imp fun {a b} hab => .inr ⟨rfl, by show r + (a : Int) < r + (b : Int); omega⟩
  · refine List.pairwise_lt_range.imp fun {a b} hab x hx y hy => ?_
    obtain ⟨_, _, rfl⟩ := List.mem_map.mp hx
    obtain ⟨_, _, rfl⟩ := List.mem_map.mp hy
    exact .inl (by show d + (a : Int) < d + (b : Int); omega)
theorem rect_mem {h w : Nat} {d r : Int} {s : Sq} (hs : s ∈ rect h w d r) : d ≤ s.1 ∧ s.1 < d + h ∧ r ≤ s.2 ∧ s.2 < r + w := by
  unfold rect at hs
  obtain ⟨i, hi, h2⟩ := List.mem_flatMap.mp hs
  obtain ⟨j, hj, rfl⟩ := List.mem_map.mp h2
  rw [List.mem_range] at hi hj
  refine ⟨?_, ?_, ?_, ?_⟩ <;> simp only <;> omega
theorem mix_ok (a p m : Int) (hp : 0 < p) (hm : 0 < m) (ah : AH) : F__law_mix [.p (.int a), .p (.int p), .p (.int m)] ah = .ok (.p (.int (a * 48271 % p % m))) ah := by
  have hs : (smallB a || smallB 48271) = true := by rw [show smallB 48271 = true from by decide]; exact Bool.or_true _
  rw [E__law_mix, g__law_mix]
  simp only [e_seq, e_nx, e_set, e_ret, e_expr, e_if, e_f2, e_call, e_nil, e_cons, e_c, e_v0, e_vs, e_set0, e_sets, e_tB, e_tru, e_notF, e_neg, b_ok, b_ex, t_ok, t_ex, s_nx, s_rt, s_bk, s_ct, s_ex, o_ok, e_rt, e_fnx, i_add, i_sub, i_mod, Int.reduceLT, i_lt, i_le, i_gt, i_ge, i_eq, i_ne, l_add, t_add, e_r1, e_for, e_lc, e_gN, e_asg, e_tup, e_any, e_tupl, e_frz, ↓reduceIte, Bool.false_eq_true, Bool.not_true, Bool.not_false, e_and, e_or, e_yes, i_mul hs, i_mod hp, i_mod hm]
theorem mix_nat (a p : Int) (n : Nat) (hn : 0 < n) : ∃ x : Nat, x < n ∧ a * 48271 % p % (n : Int) = (x : Int) := mod_nat _ n hn
theorem cell_i (ns : List Int) (i : Int) (h : 0 ≤ i) (ah : AH) : F__law_cell [.s ns, .p (.int i)] ah = .ok (.p (.int (ns.getD i.toNat 0))) ah := by
  obtain ⟨k, rfl⟩ := Int.eq_ofNat_of_zero_le h
  exact F_cell_ok ns k ah
theorem min2_i {i j : Int} {ah : AH} : gMin2 [.p (.int i), .p (.int j)] ah = .ok (.p (.int (if j < i then j else i))) ah := (rfl)
theorem max2_i {i j : Int} {ah : AH} : gMax2 [.p (.int i), .p (.int j)] ah = .ok (.p (.int (if j > i then j else i))) ah := (rfl)
theorem e_fMt {ty : AH → D → Bool} {g : D → DF} {fo : EF} {fa : AF} {σ : DS} {ah : AH} : fMt ty g fo fa σ ah = (fo σ ah).bind fun d ah1 => if ty ah1 d = true then (fa σ ah1).bind fun ds ah2 => g d ds ah2 else .bad := (rfl)
theorem get_last {ah : AH} {o : AO} : (ah ++ [o])[ah.length]? = some o := by
  rw [List.getElem?_append_right (Nat.le_refl _)]; simp
theorem set_last {ah : AH} {o o' : AO} : (ah ++ [o]).set ah.length o' = ah ++ [o'] := by
  rw [List.set_append_right _ _ (Nat.le_refl _)]
  simp
theorem isL_last {ah : AH} {l : List D} : isL (ah ++ [.lst l]) (.r ah.length) = true := by
  unfold isL
  dsimp only
  rw [get_last]
theorem app_last {ah : AH} {l : List D} {x : D} (h : l.length < 16777216) : gAppend (.r ah.length) [x] (ah ++ [.lst l]) = .ok (.p .none) (ah ++ [.lst (l ++ [x])]) := by
  unfold gAppend
  dsimp only
  rw [get_last]
  dsimp only
  rw [if_pos h, set_last]
theorem pures_p : ∀ l : List PyData, pures (l.map .p) = some l
  | [] => rfl
  | x :: r => by rw [List.map_cons, pures, pures_p r]; rfl
theorem notIn_last {ah : AH} {gs : List Sq} {x : Sq} : gNotIn (.p (esq x)) (.r ah.length) (ah ++ [.lst ((gs.map esq).map .p)]) = .ok (.p (.bool (!decide (x ∈ gs)))) (ah ++ [.lst ((gs.map esq).map .p)]) := by
  have h : inOf (ah ++ [.lst ((gs.map esq).map .p)]) (.p (esq x)) (.r ah.length) = some (decide (x ∈ gs)) := by
    unfold inOf
    have e1 : dctOf (ah ++ [.lst ((gs.map esq).map .p)]) (.r ah.length) = none := by unfold dctOf; simp only [get_last]
    have e2 : dataOf (ah ++ [.lst ((gs.map esq).map .p)]) (.r ah.length) = some (.list (gs.map esq)) := by unfold dataOf; simp only [get_last, pures_p]; rfl
    rw [e1, e2]
    show (if (SeqAt.shaped (esq x) && SeqAt.shaped (.list (gs.map esq))) = true then some ((gs.map esq).any fun y => PyData.eqv y (esq x)) else none) = _
    rw [shaped_esq, shaped_lst, Bool.and_self, if_pos rfl, any_esq]
  unfold gNotIn
  rw [h]
theorem sub_i {xs : List PyData} {i : Nat} {x : PyData} (h : xs[i]? = some x) (ah : AH) : gSub2 (.p (.list xs)) (.p (.int (i : Int))) ah = .ok (.p x) ah := sub_lst h ah
section
variable (ns : List Int) (k rows wide : Nat) (c0 : Int) (ah : AH)
def flSt (a b c x8 x9 x10 x11 x12 x13 x14 : Option D) : DS := [some (.s ns), some (.p (.int k)), some (.p (.int c0)), some (.p (.int rows)), some (.p (.int wide)), a, b, c, x8, x9, x10, x11, x12, x13, x14]
theorem fl_rect (hr : rows ≤ 8) (d r : Int) (w : Nat) (hw : w ≤ 8) (hm : (if (8 : Int) < wide then (8 : Int) else wide) = (w : Int)) :
    ∃ x8 x14, (sFor (iRange1 (aCons (fVar 3) aNil)) (gN 8) (sSet 7 (f2 gAdd (fVar 7) (fLc (iRange1 (aCons (fCall gMin2 (aCons (fVar 4) (aCons (fC (.int 8)) aNil))) aNil)) 14 tYesF (fTup (aCons (f2 gAdd (fVar 5) (fVar 8)) (aCons (f2 gAdd (fVar 6) (fVar 14)) aNil))))))) (flSt ns k rows wide c0 (some (.p (.int d))) (some (.p (.int r))) (some (.p (.list []))) none none none none none none none) ah
      = .nx (flSt ns k rows wide c0 (some (.p (.int d))) (some (.p (.int r))) (some (.p (.list ((rect rows w d r).map esq)))) x8 none none none none none x14) ah := by
  unfold flSt
  simp only [e_seq, e_nx, e_set, e_ret, e_expr, e_if, e_f2, e_call, e_nil, e_cons, e_c, e_v0, e_vs, e_set0, e_sets, e_tB, e_tru, e_notF, e_neg, b_ok, b_ex, t_ok, t_ex, s_nx, s_rt, s_bk, s_ct, s_ex, o_ok, e_rt, e_fnx, i_add, i_sub, i_mod, Int.reduceLT, i_lt, i_le, i_gt, i_ge, i_eq, i_ne, l_add, t_add, e_r1, e_for, e_lc, e_gN, e_asg, e_tup, e_any, e_tupl, e_frz, ↓reduceIte, Bool.false_eq_true, Bool.not_true, Bool.not_false, e_and, e_or, e_yes, rOk_nat (show rows ≤ 1000000 by omega), Int.toNat_natCast, rangeD_map]
  obtain ⟨σ', ah', e1, ⟨e2, x8, x14, e3⟩⟩ := for_inv (σ := flSt ns k rows wide c0 (some (.p (.int d))) (some (.p (.int r))) (some (.p (.list []))) none none none none none none none) (ah := ah) (gt := gN 8)
    (f := (sSet 7 (f2 gAdd (fVar 7) (fLc (iRange1 (aCons (fCall gMin2 (aCons (fVar 4) (aCons (fC (.int 8)) aNil))) aNil)) 14 tYesF (fTup (aCons (f2 gAdd (fVar 5) (fVar 8)) (aCons (f2 gAdd (fVar 6) (fVar 14)) aNil)))))))
    (fun (i : Nat) => D.p (.int (i : Int))) (fun done σ ah' => ah' = ah ∧ ∃ x8 x14, σ = flSt ns k rows wide c0 (some (.p (.int d))) (some (.p (.int r))) (some (.p (.list ((done.flatMap fun (i : Nat) => (List.range w).map fun (j : Nat) => (d + (i : Int), r + (j : Int))).map esq)))) x8 none none none none none x14) (List.range rows)
    (by
      intro done i rest e σ ah' hI
      obtain ⟨rfl, x8, x14, rfl⟩ := hI
      have hl : lcL 14 tYesF (fTup (aCons (f2 gAdd (fVar 5) (fVar 8)) (aCons (f2 gAdd (fVar 6) (fVar 14)) aNil))) ((List.range w).map fun (j : Nat) => D.p (.int (j : Int))) (flSt ns k rows wide c0 (some (.p (.int d))) (some (.p (.int r))) (some (.p (.list ((done.flatMap fun (i : Nat) => (List.range w).map fun (j : Nat) => (d + (i : Int), r + (j : Int))).map esq)))) (some (.p (.int (i : Int)))) none none none none none x14) ah'
          = .ok (((List.range w).filter fun _ => true).map fun (j : Nat) => esq (d + (i : Int), r + (j : Int))) ah' :=
        lcL_map _ (fun _ => true) _ _ (fun _ _ => rfl) (fun _ _ _ => rfl)
      have hdone : done.length ≤ 8 := by
        have := congrArg List.length e
        rw [List.length_range, List.length_append, List.length_cons] at this
        omega
      have hlen : (done.flatMap fun (i : Nat) => (List.range w).map fun (j : Nat) => ((d + (i : Int), r + (j : Int)) : Sq)).length ≤ 64 := by
        rw [flat_len (b := w) _ (fun i _ => by rw [List.length_map, List.length_range])]
        exact Nat.le_trans (Nat.mul_le_mul hdone hw) (by decide)
      refine ⟨_, _, _, rfl, .inl ?_, rfl, some (.p (.int (i : Int))), x14, rfl⟩
      unfold flSt at hl ⊢
      simp only [e_seq, e_nx, e_set, e_ret, e_expr, e_if, e_f2, e_call, e_nil, e_cons, e_c, e_v0, e_vs, e_set0, e_sets, e_tB, e_tru, e_notF, e_neg, b_ok, b_ex, t_ok, t_ex, s_nx, s_rt, s_bk, s_ct, s_ex, o_ok, e_rt, e_fnx, i_add, i_sub, i_mod, Int.reduceLT, i_lt, i_le, i_gt, i_ge, i_eq, i_ne, l_add, t_add, e_r1, e_for, e_lc, e_gN, e_asg, e_tup, e_any, e_tupl, e_frz, ↓reduceIte, Bool.false_eq_true, Bool.not_true, Bool.not_false, e_and, e_or, e_yes, min2_i, hm, rOk_nat (show w ≤ 1000000 by omega), Int.toNat_natCast, rangeD_map, hl]
      rw [if_pos (by simp only [List.length_map, List.length_range]; omega), R.bind_ok, l_add (by simp only [List.length_map, List.length_range, filter_t]; omega)]
      simp only [e_seq, e_nx, e_set, e_ret, e_expr, e_if, e_f2, e_call, e_nil, e_cons, e_c, e_v0, e_vs, e_set0, e_sets, e_tB, e_tru, e_notF, e_neg, b_ok, b_ex, t_ok, t_ex, s_nx, s_rt, s_bk, s_ct, s_ex, o_ok, e_rt, e_fnx, i_add, i_sub, i_mod, Int.reduceLT, i_lt, i_le, i_gt, i_ge, i_eq, i_ne, l_add, t_add, e_r1, e_for, e_lc, e_gN, e_asg, e_tup, e_any, e_tupl, e_frz, ↓reduceIte, Bool.false_eq_true, Bool.not_true, Bool.not_false, e_and, e_or, e_yes, filter_t, List.flatMap_append, List.flatMap_cons, List.flatMap_nil, List.append_nil, List.map_append, List.map_map]
      rfl)
    ⟨rfl, none, none, rfl⟩
  subst e2 e3
  unfold flSt at e1
  exact ⟨x8, x14, e1⟩
theorem fl_gone (some_ : List Sq) (hs : some_ ≠ []) (hsl : some_.length ≤ 1000) (m : Nat) (hm : m ≤ 4) (hmix : ∃ x : Int, F__law_cell [.s ns, .p (.int ((k : Int) + 2))] (ah ++ [.lst []]) = .ok (.p (.int x)) (ah ++ [.lst []]) ∧ x * 48271 % 9931 % 4 = (m : Int)) (d r x8 x14 : Option D) :
    ∃ (x10 x11 x12 : Option D) (gs : List Sq), (sFor (iRange1 (aCons (fCall F__law_mix (aCons (fCall F__law_cell (aCons (fVar 0) (aCons (f2 gAdd (fVar 1) (fC (.int 2))) aNil))) (aCons (fC (.int 9931)) (aCons (fC (.int 4)) aNil)))) aNil)) (gN 10) (sSeq (sSet 11 (f2 gAdd (fCall F__law_cell (aCons (fVar 0) (aCons (f2 gAdd (f2 gAdd (fVar 1) (fC (.int 3))) (fVar 10)) aNil))) (f2 gMulS (f2 gMulS (fC (.int 17)) (fVar 10)) (fVar 10)))) (sSeq (sSet 12 (f2 gSub2 (fVar 7) (fCall F__law_mix (aCons (fVar 11) (aCons (fC (.int 9929)) (aCons (fCall gLen (aCons (fVar 7) aNil)) aNil)))))) (sSeq (sExpr (fMt isL gAppend (fVar 9) (aCons (fVar 12) aNil))) (sIf (tB (f2 gGt (fCall F__law_mix (aCons (fVar 11) (aCons (fC (.int 9923)) (aCons (fC (.int 3)) aNil)))) (fC (.int 0)))) (sExpr (fMt isL gAppend (fVar 9) (aCons (fTup (aCons (f2 gSub2 (fVar 12) (fC (.int 0))) (aCons (f2 gAdd (f2 gSub2 (fVar 12) (fC (.int 1))) (fC (.int 1))) aNil))) aNil))) sNx))))) (flSt ns k rows wide c0 d r (some (.p (.list (some_.map esq)))) x8 (some (.r ah.length)) none none none none x14) (ah ++ [.lst []])
      = .nx (flSt ns k rows wide c0 d r (some (.p (.list (some_.map esq)))) x8 (some (.r ah.length)) x10 x11 x12 none x14) (ah ++ [.lst ((gs.map esq).map .p)]) := by
  obtain ⟨x, hx1, hx2⟩ := hmix
  unfold flSt
  simp only [e_seq, e_nx, e_set, e_ret, e_expr, e_if, e_f2, e_call, e_nil, e_cons, e_c, e_v0, e_vs, e_set0, e_sets, e_tB, e_tru, e_notF, e_neg, b_ok, b_ex, t_ok, t_ex, s_nx, s_rt, s_bk, s_ct, s_ex, o_ok, e_rt, e_fnx, i_add, i_sub, i_mod, Int.reduceLT, i_lt, i_le, i_gt, i_ge, i_eq, i_ne, l_add, t_add, e_r1, e_for, e_lc, e_gN, e_asg, e_tup, e_any, e_tupl, e_frz, ↓reduceIte, Bool.false_eq_true, Bool.not_true, Bool.not_false, e_and, e_or, e_yes, hx1, mix_ok _ 9931 4 (by decide) (by decide), hx2, rOk_nat (show m ≤ 1000000 by omega), Int.toNat_natCast, rangeD_map]
  obtain ⟨σ', ah', e1, ⟨gs, e2, e4, x10, x11, x12, e3⟩⟩ := for_inv (σ := flSt ns k rows wide c0 d r (some (.p (.list (some_.map esq)))) x8 (some (.r ah.length)) none none none none x14) (ah := ah ++ [.lst []]) (gt := gN 10)
    (f := (sSeq (sSet 11 (f2 gAdd (fCall F__law_cell (aCons (fVar 0) (aCons (f2 gAdd (f2 gAdd (fVar 1) (fC (.int 3))) (fVar 10)) aNil))) (f2 gMulS (f2 gMulS (fC (.int 17)) (fVar 10)) (fVar 10)))) (sSeq (sSet 12 (f2 gSub2 (fVar 7) (fCall F__law_mix (aCons (fVar 11) (aCons (fC (.int 9929)) (aCons (fCall gLen (aCons (fVar 7) aNil)) aNil)))))) (sSeq (sExpr (fMt isL gAppend (fVar 9) (aCons (fVar 12) aNil))) (sIf (tB (f2 gGt (fCall F__law_mix (aCons (fVar 11) (aCons (fC (.int 9923)) (aCons (fC (.int 3)) aNil)))) (fC (.int 0)))) (sExpr (fMt isL gAppend (fVar 9) (aCons (fTup (aCons (f2 gSub2 (fVar 12) (fC (.int 0))) (aCons (f2 gAdd (f2 gSub2 (fVar 12) (fC (.int 1))) (fC (.int 1))) aNil))) aNil))) sNx)))))
    (fun (i : Nat) => D.p (.int (i : Int))) (fun done σ ah' => ∃ gs : List Sq, ah' = ah ++ [.lst ((gs.map esq).map .p)] ∧ gs.length ≤ 2 * done.length ∧ ∃ x10 x11 x12, σ = flSt ns k rows wide c0 d r (some (.p (.list (some_.map esq)))) x8 (some (.r ah.length)) x10 x11 x12 none x14) (List.range m)
    (by
      intro done i rest e σ ah' hI
      obtain ⟨gs, rfl, hg, x10, x11, x12, rfl⟩ := hI
      have hdone : done.length ≤ 4 := by
        have := congrArg List.length e
        rw [List.length_range, List.length_append, List.length_cons] at this
        omega
      have hc := fun ah => cell_i ns ((k : Int) + 3 + (i : Int)) (by omega) ah
      have s17 : ∀ y : Int, (smallB 17 || smallB y) = true := fun y => by rw [show smallB 17 = true from by decide]; rfl
      have hi4 : i < 4 := by
        have hi : i ∈ List.range m := by rw [e]; simp
        rw [List.mem_range] at hi
        omega
      have si : ∀ y : Int, (smallB y || smallB (i : Int)) = true := fun y => by
        have : smallB (i : Int) = true := by
          have z : i = 0 ∨ i = 1 ∨ i = 2 ∨ i = 3 := by omega
          rcases z with rfl | rfl | rfl | rfl <;> decide
        rw [this, Bool.or_true]
      obtain ⟨j, hj, ej⟩ := mix_nat (ns.getD ((k : Int) + 3 + (i : Int)).toNat 0 + 17 * (i : Int) * (i : Int)) 9929 some_.length (List.length_pos_iff.mpr hs)
      have hget : (some_.map esq)[j]? = some (esq some_[j]) := by rw [List.getElem?_map, List.getElem?_eq_getElem hj]; rfl
      have hlp : (0 : Int) < ((some_.map esq).length : Nat) := by rw [List.length_map]; have := List.length_pos_iff.mpr hs; omega
      have ej' : (ns.getD ((k : Int) + 3 + (i : Int)).toNat 0 + 17 * (i : Int) * (i : Int)) * 48271 % 9929 % ((some_.map esq).length : Nat) = (j : Int) := by rw [List.length_map]; exact ej
      have hap1 := app_last (ah := ah) (l := (gs.map esq).map .p) (x := .p (esq some_[j])) (by simp only [List.length_map]; omega)
      have hap2 := app_last (ah := ah) (l := (gs.map esq).map .p ++ [.p (esq some_[j])]) (x := .p (.tuple [.int some_[j].1, .int (some_[j].2 + 1)])) (by simp only [List.length_map, List.length_append, List.length_singleton]; omega)
      have t0 : ∀ ah, gSub2 (.p (esq some_[j])) (.p (.int 0)) ah = .ok (.p (.int some_[j].1)) ah := fun ah => sub_tup (k := 0) rfl ah
      have t1 : ∀ ah, gSub2 (.p (esq some_[j])) (.p (.int 1)) ah = .ok (.p (.int some_[j].2)) ah := fun ah => sub_tup (k := 1) rfl ah
      have hmk := fun ah => mix_ok (ns.getD ((k : Int) + 3 + (i : Int)).toNat 0 + 17 * (i : Int) * (i : Int)) 9929 ((some_.map esq).length : Nat) (by decide) hlp ah
      have hm3 := fun ah => mix_ok (ns.getD ((k : Int) + 3 + (i : Int)).toNat 0 + 17 * (i : Int) * (i : Int)) 9923 3 (by decide) (by decide) ah
      refine ⟨flSt ns k rows wide c0 d r (some (.p (.list (some_.map esq)))) x8 (some (.r ah.length)) (some (.p (.int (i : Int)))) x11 x12 none x14, flSt ns k rows wide c0 d r (some (.p (.list (some_.map esq)))) x8 (some (.r ah.length)) (some (.p (.int (i : Int)))) (some (.p (.int (ns.getD ((k : Int) + 3 + (i : Int)).toNat 0 + 17 * (i : Int) * (i : Int))))) (some (.p (esq some_[j]))) none x14, ?_⟩
      by_cases h3 : 0 < (ns.getD ((k : Int) + 3 + (i : Int)).toNat 0 + 17 * (i : Int) * (i : Int)) * 48271 % 9923 % 3
      · refine ⟨ah ++ [.lst (((gs ++ [some_[j], (some_[j].1, some_[j].2 + 1)]).map esq).map .p)], rfl, .inl ?_, _, rfl, by simp only [List.length_append, List.length_cons, List.length_nil]; omega, _, _, _, rfl⟩
        unfold flSt
        simp only [e_seq, e_nx, e_set, e_ret, e_expr, e_if, e_f2, e_call, e_nil, e_cons, e_c, e_v0, e_vs, e_set0, e_sets, e_tB, e_tru, e_notF, e_neg, b_ok, b_ex, t_ok, t_ex, s_nx, s_rt, s_bk, s_ct, s_ex, o_ok, e_rt, e_fnx, i_add, i_sub, i_mod, Int.reduceLT, i_lt, i_le, i_gt, i_ge, i_eq, i_ne, l_add, t_add, e_r1, e_for, e_lc, e_gN, e_asg, e_tup, e_any, e_tupl, e_frz, ↓reduceIte, Bool.false_eq_true, Bool.not_true, Bool.not_false, e_and, e_or, e_yes, hc, i_mul (s17 _), i_mul (si _), len_l, hmk, ej', sub_i hget, e_fMt, isL_last, hap1, hm3, decide_eq_true h3, t0, t1, pures, Option.map_some, List.length_cons, List.length_nil, Nat.reduceAdd, Nat.reduceLeDiff, hap2]
        simp only [List.map_append, List.map_cons, List.map_nil, List.append_assoc, List.cons_append, List.nil_append]
        rfl
      · refine ⟨ah ++ [.lst (((gs ++ [some_[j]]).map esq).map .p)], rfl, .inl ?_, _, rfl, by simp only [List.length_append, List.length_cons, List.length_nil]; omega, _, _, _, rfl⟩
        unfold flSt
        simp only [e_seq, e_nx, e_set, e_ret, e_expr, e_if, e_f2, e_call, e_nil, e_cons, e_c, e_v0, e_vs, e_set0, e_sets, e_tB, e_tru, e_notF, e_neg, b_ok, b_ex, t_ok, t_ex, s_nx, s_rt, s_bk, s_ct, s_ex, o_ok, e_rt, e_fnx, i_add, i_sub, i_mod, Int.reduceLT, i_lt, i_le, i_gt, i_ge, i_eq, i_ne, l_add, t_add, e_r1, e_for, e_lc, e_gN, e_asg, e_tup, e_any, e_tupl, e_frz, ↓reduceIte, Bool.false_eq_true, Bool.not_true, Bool.not_false, e_and, e_or, e_yes, hc, i_mul (s17 _), i_mul (si _), len_l, hmk, ej', sub_i hget, e_fMt, isL_last, hap1, hm3, decide_eq_false h3]
        simp only [List.map_append, List.map_cons, List.map_nil])
    ⟨[], rfl, Nat.zero_le _, none, none, none, rfl⟩
  subst e2 e3
  unfold flSt at e1
  exact ⟨x10, x11, x12, gs, e1⟩
theorem fl_tail (hr1 : 1 ≤ rows) (hr : rows ≤ 8) (hw1 : 1 ≤ wide) (hfit : wide ≤ 8 ∨ wide = 12) (w : Nat) (hm : (if (8 : Int) < wide then (8 : Int) else wide) = (w : Int)) (hrw : rows * w ≤ 24) :
    ∃ l g, (sSeq (sSet 5 (fCall F__law_mix (aCons (fCall F__law_cell (aCons (fVar 0) (aCons (f2 gAdd (fVar 1) (fC (.int 1))) aNil))) (aCons (fC (.int 9949)) (aCons (f2 gSub (fC (.int 9)) (fVar 3)) aNil))))) (sSeq (sSet 6 (fCall F__law_mix (aCons (fCall F__law_cell (aCons (fVar 0) (aCons (f2 gAdd (fVar 1) (fC (.int 1))) aNil))) (aCons (fC (.int 9941)) (aCons (fCall gMax2 (aCons (fC (.int 1)) (aCons (f2 gSub (fC (.int 9)) (fVar 4)) aNil))) aNil))))) (sSeq (sSet 7 (fLst aNil)) (sSeq (sFor (iRange1 (aCons (fVar 3) aNil)) (gN 8) (sSet 7 (f2 gAdd (fVar 7) (fLc (iRange1 (aCons (fCall gMin2 (aCons (fVar 4) (aCons (fC (.int 8)) aNil))) aNil)) 14 tYesF (fTup (aCons (f2 gAdd (fVar 5) (fVar 8)) (aCons (f2 gAdd (fVar 6) (fVar 14)) aNil))))))) (sSeq (sSet 9 (fLstM aNil)) (sSeq (sFor (iRange1 (aCons (fCall F__law_mix (aCons (fCall F__law_cell (aCons (fVar 0) (aCons (f2 gAdd (fVar 1) (fC (.int 2))) aNil))) (aCons (fC (.int 9931)) (aCons (fC (.int 4)) aNil)))) aNil)) (gN 10) (sSeq (sSet 11 (f2 gAdd (fCall F__law_cell (aCons (fVar 0) (aCons (f2 gAdd (f2 gAdd (fVar 1) (fC (.int 3))) (fVar 10)) aNil))) (f2 gMulS (f2 gMulS (fC (.int 17)) (fVar 10)) (fVar 10)))) (sSeq (sSet 12 (f2 gSub2 (fVar 7) (fCall F__law_mix (aCons (fVar 11) (aCons (fC (.int 9929)) (aCons (fCall gLen (aCons (fVar 7) aNil)) aNil)))))) (sSeq (sExpr (fMt isL gAppend (fVar 9) (aCons (fVar 12) aNil))) (sIf (tB (f2 gGt (fCall F__law_mix (aCons (fVar 11) (aCons (fC (.int 9923)) (aCons (fC (.int 3)) aNil)))) (fC (.int 0)))) (sExpr (fMt isL gAppend (fVar 9) (aCons (fTup (aCons (f2 gSub2 (fVar 12) (fC (.int 0))) (aCons (f2 gAdd (f2 gSub2 (fVar 12) (fC (.int 1))) (fC (.int 1))) aNil))) aNil))) sNx))))) (sSeq (sSet 13 (fCall gTuple (aCons (fLc (iAny (fVar 7)) 12 (tB (f2 gNotIn (fVar 12) (fVar 9))) (fVar 12)) aNil))) (sSeq (sIf (tTru (fVar 13)) (sRet (fVar 13)) sNx) (sRet (fCall gTuple (aCons (fVar 7) aNil))))))))))) [some (.s ns), some (.p (.int k)), some (.p (.int c0)), some (.p (.int rows)), some (.p (.int wide)), none, none, none, none, none, none, none, none, none, none] ah = .rt (.p (efl l)) (ah ++ [g]) ∧ Flo l := by
  have hw : 1 ≤ w ∧ w ≤ 8 ∧ (wide ≤ 8 → w = wide) := by split at hm <;> omega
  obtain ⟨dn, hd1, hd2⟩ := mix_nat (ns.getD ((k : Int) + 1).toNat 0) 9949 (9 - rows) (by omega)
  obtain ⟨rt, hr2, hr3⟩ := mix_nat (ns.getD ((k : Int) + 1).toNat 0) 9941 (if wide ≤ 8 then 9 - wide else 1) (by split <;> omega)
  have hrt : rt + w ≤ 8 := by split at hr2 <;> omega
  have hc1 := fun ah => cell_i ns ((k : Int) + 1) (by omega) ah
  have hc2 := fun ah => cell_i ns ((k : Int) + 2) (by omega) ah
  have e5 : (9 : Int) - rows = ((9 - rows : Nat) : Int) := by omega
  have hq1 : ∀ ah, F__law_mix [.p (.int (ns.getD ((k : Int) + 1).toNat 0)), .p (.int 9949), .p (.int (9 - (rows : Int)))] ah = .ok (.p (.int dn)) ah := fun ah => by
    rw [e5, mix_ok _ _ _ (by decide) (by omega), hd2]
  have hmx : (if (9 : Int) - wide > 1 then (9 : Int) - wide else 1) = ((if wide ≤ 8 then 9 - wide else 1 : Nat) : Int) := by split <;> split <;> omega
  have hq2 : ∀ ah, F__law_mix [.p (.int (ns.getD ((k : Int) + 1).toNat 0)), .p (.int 9941), .p (.int (if (9 : Int) - wide > 1 then (9 : Int) - wide else 1))] ah = .ok (.p (.int rt)) ah := fun ah => by
    rw [hmx, mix_ok _ _ _ (by decide) (by split <;> omega), hr3]
  obtain ⟨x8, x14, h7⟩ := fl_rect ns k rows wide c0 ah hr dn rt w hw.2.1 hm
  have hlen : (rect rows w dn rt).length = rows * w := rect_len ..
  have hpos : 1 ≤ rows * w := Nat.mul_le_mul hr1 hw.1
  have hne : rect rows w dn rt ≠ [] := by
    intro z
    rw [z] at hlen
    simp at hlen
    omega
  obtain ⟨mm, hm1, hm2⟩ := mix_nat (ns.getD ((k : Int) + 2).toNat 0) 9931 4 (by decide)
  obtain ⟨x10, x11, x12, gs, h9⟩ := fl_gone ns k rows wide c0 ah (rect rows w dn rt) hne (by omega) mm (by omega) ⟨_, hc2 _, hm2⟩ (some (.p (.int dn))) (some (.p (.int rt))) x8 x14
  unfold flSt at h7 h9
  have hl : lcL 12 (tB (f2 gNotIn (fVar 12) (fVar 9))) (fVar 12) (((rect rows w dn rt).map esq).map .p) [some (.s ns), some (.p (.int k)), some (.p (.int c0)), some (.p (.int rows)), some (.p (.int wide)), some (.p (.int dn)), some (.p (.int rt)), some (.p (.list ((rect rows w dn rt).map esq))), x8, some (.r ah.length), x10, x11, x12, none, x14] (ah ++ [.lst ((gs.map esq).map .p)])
      = .ok (((rect rows w dn rt).filter fun x => !decide (x ∈ gs)).map esq) (ah ++ [.lst ((gs.map esq).map .p)]) := by
    refine lcL_data esq (fun x => !decide (x ∈ gs)) esq _ (fun x _ => ?_) (fun x _ _ => rfl)
    simp only [e_tB, e_f2, e_sets, e_set0, e_vs, e_v0, b_ok, notIn_last]
  have hrec := fun (l : List Sq) (h : l.Sublist (rect rows w dn rt)) (z : l ≠ []) => show Flo l from ⟨z, by have := h.length_le; omega, (rect_up rows w dn rt).sublist h, fun s hs => by
    have := rect_mem (h.subset hs)
    omega⟩
  rw [e_seq]
  simp only [e_set, e_call, e_cons, e_nil, e_f2, e_c, e_v0, e_vs, e_set0, e_sets, b_ok, t_ok, s_nx, i_add, i_sub, hc1, hq1]
  rw [e_seq]
  simp only [e_set, e_call, e_cons, e_nil, e_f2, e_c, e_v0, e_vs, e_set0, e_sets, b_ok, t_ok, s_nx, i_add, i_sub, hc1, max2_i, hq2]
  rw [e_seq]
  simp only [e_set, e_lst0, e_set0, e_sets, t_ok, s_nx]
  rw [e_seq, h7, s_nx, e_seq]
  simp only [e_set, e_lstM, e_nil, b_ok, List.length_nil, Nat.zero_le, ↓reduceIte, e_set0, e_sets, t_ok, s_nx]
  rw [e_seq, h9, s_nx, e_seq]
  simp only [e_set, e_call, e_cons, e_nil, e_lc, e_any, e_v0, e_vs, e_set0, e_sets, b_ok, t_ok, s_nx, hl, List.length_map, show (rect rows w dn rt).length ≤ 16777216 by omega, ↓reduceIte, o_ok, e_tupl]
  by_cases hf : (rect rows w dn rt).filter (fun x => !decide (x ∈ gs)) = []
  · refine ⟨rect rows w dn rt, .lst ((gs.map esq).map .p), ?_, hrec _ (List.Sublist.refl _) hne⟩
    rw [hf]
    simp only [e_seq, e_nx, e_set, e_ret, e_expr, e_if, e_f2, e_call, e_nil, e_cons, e_c, e_v0, e_vs, e_set0, e_sets, e_tB, e_tru, e_notF, e_neg, b_ok, b_ex, t_ok, t_ex, s_nx, s_rt, s_bk, s_ct, s_ex, o_ok, e_rt, e_fnx, i_add, i_sub, i_mod, Int.reduceLT, i_lt, i_le, i_gt, i_ge, i_eq, i_ne, l_add, t_add, e_r1, e_for, e_lc, e_gN, e_asg, e_tup, e_any, e_tupl, e_frz, ↓reduceIte, Bool.false_eq_true, Bool.not_true, Bool.not_false, e_and, e_or, e_yes, truOf, itemsOf, List.map_nil, List.isEmpty_nil, Option.map_some]
    rfl
  · refine ⟨(rect rows w dn rt).filter fun x => !decide (x ∈ gs), .lst ((gs.map esq).map .p), ?_, hrec _ List.filter_sublist hf⟩
    obtain ⟨y, ys, hy⟩ := List.exists_cons_of_ne_nil hf
    rw [hy]
    simp only [e_seq, e_nx, e_set, e_ret, e_expr, e_if, e_f2, e_call, e_nil, e_cons, e_c, e_v0, e_vs, e_set0, e_sets, e_tB, e_tru, e_notF, e_neg, b_ok, b_ex, t_ok, t_ex, s_nx, s_rt, s_bk, s_ct, s_ex, o_ok, e_rt, e_fnx, i_add, i_sub, i_mod, Int.reduceLT, i_lt, i_le, i_gt, i_ge, i_eq, i_ne, l_add, t_add, e_r1, e_for, e_lc, e_gN, e_asg, e_tup, e_any, e_tupl, e_frz, ↓reduceIte, Bool.false_eq_true, Bool.not_true, Bool.not_false, e_and, e_or, e_yes, truOf, itemsOf, List.map_cons, List.isEmpty_cons, Option.map_some]
    rfl
end
theorem fl_four (d : Nat) (hd : d < 4) : ∃ r w v : Nat, (r * w = 24 ∧ (w ≤ 8 ∨ w = 12) ∧ 1 ≤ r ∧ r ≤ 8 ∧ 1 ≤ w ∧ (if (8 : Int) < w then (8 : Int) else w) = (v : Int) ∧ r * v ≤ 24) ∧ ([2, 3, 8, 6] : List Int)[d]? = some (r : Int) ∧ (24 : Int) / r = (w : Int) := by
  have z : d = 0 ∨ d = 1 ∨ d = 2 ∨ d = 3 := by omega
  rcases z with rfl | rfl | rfl | rfl
  · exact ⟨2, 12, 8, by decide +kernel, rfl, by decide +kernel⟩
  · exact ⟨3, 8, 8, by decide +kernel, rfl, by decide +kernel⟩
  · exact ⟨8, 3, 3, by decide +kernel, rfl, by decide +kernel⟩
  · exact ⟨6, 4, 4, by decide +kernel, rfl, by decide +kernel⟩
theorem fl_two (a b : Nat) (ha : a < 4) (hb : b < 5) : 1 ≤ a + 1 ∧ a + 1 ≤ 8 ∧ 1 ≤ b + 1 ∧ (b + 1 ≤ 8 ∨ b + 1 = 12) ∧ (if (8 : Int) < ((b + 1 : Nat) : Int) then (8 : Int) else ((b + 1 : Nat) : Int)) = ((b + 1 : Nat) : Int) ∧ (a + 1) * (b + 1) ≤ 24 :=
  ⟨by omega, by omega, by omega, by omega, by split <;> omega, Nat.le_trans (Nat.mul_le_mul (show a + 1 ≤ 4 by omega) (show b + 1 ≤ 5 by omega)) (by decide)⟩
set_option maxHeartbeats 1000000 in
theorem F_floor_ok (ns : List Int) (k : Nat) (ah : AH) : ∃ l g, F__law_floor [.s ns, .p (.int k)] ah = .ok (.p (efl l)) (ah ++ [g]) ∧ Flo l := by
  have hc0 := fun ah => F_cell_ok ns k ah
  obtain ⟨a, ha, ea⟩ := mix_nat (ns.getD k 0) 9973 4 (by decide)
  obtain ⟨b, hb, eb⟩ := mix_nat (ns.getD k 0) 9967 5 (by decide)
  obtain ⟨c, hc, ec⟩ := mix_nat (ns.getD k 0) 9901 8 (by decide)
  obtain ⟨d, hd, ed⟩ := mix_nat (ns.getD k 0) 9887 4 (by decide)
  have q1 := fun ah => mix_ok (ns.getD k 0) 9973 4 (by decide) (by decide) ah
  have q2 := fun ah => mix_ok (ns.getD k 0) 9967 5 (by decide) (by decide) ah
  have q3 := fun ah => mix_ok (ns.getD k 0) 9901 8 (by decide) (by decide) ah
  have q4 := fun ah => mix_ok (ns.getD k 0) 9887 4 (by decide) (by decide) ah
  have ea' : 1 + ns.getD k 0 * 48271 % 9973 % 4 = ((a + 1 : Nat) : Int) := by omega
  have eb' : 1 + ns.getD k 0 * 48271 % 9967 % 5 = ((b + 1 : Nat) : Int) := by omega
  have ed' : ns.getD k 0 * 48271 % 9887 % 4 = (d : Int) := ed
  rw [E__law_floor, g__law_floor, e_seq]
  simp only [e_set, e_call, e_cons, e_nil, e_v0, e_vs, e_set0, e_sets, b_ok, t_ok, s_nx, hc0]
  rw [e_seq]
  simp only [e_set, e_call, e_cons, e_nil, e_f2, e_c, e_v0, e_vs, e_set0, e_sets, b_ok, t_ok, s_nx, i_add, q1, ea']
  rw [e_seq]
  simp only [e_set, e_call, e_cons, e_nil, e_f2, e_c, e_v0, e_vs, e_set0, e_sets, b_ok, t_ok, s_nx, i_add, q2, eb']
  rw [e_seq, e_if, e_tB]
  simp only [e_call, e_cons, e_nil, e_f2, e_c, e_v0, e_vs, b_ok, t_ok, i_eq, q3]
  by_cases h3 : ns.getD k 0 * 48271 % 9901 % 8 = 3
  · have key : ∀ (r w v : Nat), r * w = 24 ∧ (w ≤ 8 ∨ w = 12) ∧ 1 ≤ r ∧ r ≤ 8 ∧ 1 ≤ w ∧ (if (8 : Int) < w then (8 : Int) else w) = (v : Int) ∧ r * v ≤ 24 → ([2, 3, 8, 6] : List Int)[d]? = some (r : Int) → (24 : Int) / r = (w : Int) →
        ∃ l g, O.fin (O.seq (if decide (ns.getD k 0 * 48271 % 9901 % 8 = 3) = true then (sSeq (sSet 3 (f2 gSub2 (fLst (aCons (fC (.int 2)) (aCons (fC (.int 3)) (aCons (fC (.int 8)) (aCons (fC (.int 6)) aNil))))) (fCall F__law_mix (aCons (fVar 2) (aCons (fC (.int 9887)) (aCons (fC (.int 4)) aNil)))))) (sSet 4 (f2 gDiv (fC (.int 24)) (fVar 3)))) [some (.s ns), some (.p (.int k)), some (.p (.int (ns.getD k 0))), some (.p (.int ((a + 1 : Nat) : Int))), some (.p (.int ((b + 1 : Nat) : Int))), none, none, none, none, none, none, none, none, none, none] ah else sNx [some (.s ns), some (.p (.int k)), some (.p (.int (ns.getD k 0))), some (.p (.int ((a + 1 : Nat) : Int))), some (.p (.int ((b + 1 : Nat) : Int))), none, none, none, none, none, none, none, none, none, none] ah) ((sSeq (sSet 5 (fCall F__law_mix (aCons (fCall F__law_cell (aCons (fVar 0) (aCons (f2 gAdd (fVar 1) (fC (.int 1))) aNil))) (aCons (fC (.int 9949)) (aCons (f2 gSub (fC (.int 9)) (fVar 3)) aNil))))) (sSeq (sSet 6 (fCall F__law_mix (aCons (fCall F__law_cell (aCons (fVar 0) (aCons (f2 gAdd (fVar 1) (fC (.int 1))) aNil))) (aCons (fC (.int 9941)) (aCons (fCall gMax2 (aCons (fC (.int 1)) (aCons (f2 gSub (fC (.int 9)) (fVar 4)) aNil))) aNil))))) (sSeq (sSet 7 (fLst aNil)) (sSeq (sFor (iRange1 (aCons (fVar 3) aNil)) (gN 8) (sSet 7 (f2 gAdd (fVar 7) (fLc (iRange1 (aCons (fCall gMin2 (aCons (fVar 4) (aCons (fC (.int 8)) aNil))) aNil)) 14 tYesF (fTup (aCons (f2 gAdd (fVar 5) (fVar 8)) (aCons (f2 gAdd (fVar 6) (fVar 14)) aNil))))))) (sSeq (sSet 9 (fLstM aNil)) (sSeq (sFor (iRange1 (aCons (fCall F__law_mix (aCons (fCall F__law_cell (aCons (fVar 0) (aCons (f2 gAdd (fVar 1) (fC (.int 2))) aNil))) (aCons (fC (.int 9931)) (aCons (fC (.int 4)) aNil)))) aNil)) (gN 10) (sSeq (sSet 11 (f2 gAdd (fCall F__law_cell (aCons (fVar 0) (aCons (f2 gAdd (f2 gAdd (fVar 1) (fC (.int 3))) (fVar 10)) aNil))) (f2 gMulS (f2 gMulS (fC (.int 17)) (fVar 10)) (fVar 10)))) (sSeq (sSet 12 (f2 gSub2 (fVar 7) (fCall F__law_mix (aCons (fVar 11) (aCons (fC (.int 9929)) (aCons (fCall gLen (aCons (fVar 7) aNil)) aNil)))))) (sSeq (sExpr (fMt isL gAppend (fVar 9) (aCons (fVar 12) aNil))) (sIf (tB (f2 gGt (fCall F__law_mix (aCons (fVar 11) (aCons (fC (.int 9923)) (aCons (fC (.int 3)) aNil)))) (fC (.int 0)))) (sExpr (fMt isL gAppend (fVar 9) (aCons (fTup (aCons (f2 gSub2 (fVar 12) (fC (.int 0))) (aCons (f2 gAdd (f2 gSub2 (fVar 12) (fC (.int 1))) (fC (.int 1))) aNil))) aNil))) sNx))))) (sSeq (sSet 13 (fCall gTuple (aCons (fLc (iAny (fVar 7)) 12 (tB (f2 gNotIn (fVar 12) (fVar 9))) (fVar 12)) aNil))) (sSeq (sIf (tTru (fVar 13)) (sRet (fVar 13)) sNx) (sRet (fCall gTuple (aCons (fVar 7) aNil))))))))))))) = .ok (.p (efl l)) (ah ++ [g]) ∧ Flo l := by
      intro r w v ⟨z1, z2, z3, z4, z5, z6, z7⟩ hg hd24
      obtain ⟨l, g, hl, fl⟩ := fl_tail ns k r w (ns.getD k 0) ah z3 z4 z5 z2 v z6 z7
      refine ⟨l, g, ?_, fl⟩
      have hsub : ∀ ah, gSub2 (.p (.list [.int 2, .int 3, .int 8, .int 6])) (.p (.int (d : Int))) ah = .ok (.p (.int r)) ah := fun ah => sub_lst (by
        have : ([.int 2, .int 3, .int 8, .int 6] : List PyData) = ([2, 3, 8, 6] : List Int).map .int := rfl
        rw [this, List.getElem?_map, hg]; rfl) ah
      rw [if_pos (decide_eq_true h3), e_seq]
      simp only [e_set, e_call, e_cons, e_nil, e_f2, e_c, e_lst, e_v0, e_vs, e_set0, e_sets, b_ok, t_ok, s_nx, q4, ed', pures, Option.map_some, List.length_cons, List.length_nil, Nat.reduceAdd, Nat.reduceLeDiff, ↓reduceIte, hsub, i_div (show (0 : Int) < r by omega) (show (r : Int) < 1073741824 by omega), hd24]
      rw [hl, e_rt]
    obtain ⟨r, w, v, y1, y2, y3⟩ := fl_four d hd
    exact key r w v y1 y2 y3
  · obtain ⟨y1, y2, y3, y4, y5, y6⟩ := fl_two a b ha hb
    obtain ⟨l, g, hl, fl⟩ := fl_tail ns k (a + 1) (b + 1) (ns.getD k 0) ah y1 y2 y3 y4 (b + 1) y5 y6
    refine ⟨l, g, ?_, fl⟩
    rw [if_neg (by rw [decide_eq_true_eq]; exact h3), e_nx, s_nx, hl, e_rt]
end DL

set_option Elab.async false
set_option linter.all false
set_option maxRecDepth 100000
/-! MP: the number of layings, by any square; the law's layings, counted. Plain. -/
namespace DL
def rm (l : List Sq) (a b : Sq) : List Sq := l.filter fun x => decide (x ≠ a) && decide (x ≠ b)
def sI {α : Type} (f : α → Int) (l : List α) : Int := (l.map f).sum
theorem sI_nil {α : Type} (f : α → Int) : sI f [] = 0 := rfl
theorem sI_cons {α : Type} (f : α → Int) (x : α) (l : List α) : sI f (x :: l) = f x + sI f l := by unfold sI; rw [List.map_cons, List.sum_cons]
theorem sI_congr {α : Type} {f g : α → Int} {l : List α} (h : ∀ x ∈ l, f x = g x) : sI f l = sI g l := by unfold sI; rw [List.map_congr_left h]
theorem sI_add {α : Type} (f g : α → Int) : ∀ l : List α, sI (fun x => f x + g x) l = sI f l + sI g l
  | [] => rfl
  | x :: l => by rw [sI_cons, sI_cons, sI_cons, sI_add f g l]; omega
theorem sI_zero {α : Type} : ∀ l : List α, sI (fun _ => 0) l = 0
  | [] => rfl
  | x :: l => by rw [sI_cons, sI_zero l]; rfl
theorem sI_comm {α β : Type} (f : α → β → Int) : ∀ (l : List α) (k : List β), sI (fun x => sI (fun y => f x y) k) l = sI (fun y => sI (fun x => f x y) l) k
  | [], k => by rw [sI_nil]; simp only [sI_nil]; exact (sI_zero k).symm
  | x :: l, k => by
    rw [sI_cons, sI_comm f l k, ← sI_add]
    exact sI_congr fun y _ => by rw [sI_cons]
theorem sI_filter {α : Type} (f : α → Int) (P : α → Bool) : ∀ l : List α, sI f (l.filter P) = sI (fun x => if P x = true then f x else 0) l
  | [] => rfl
  | x :: l => by
    rw [sI_cons, ← sI_filter f P l]
    by_cases h : P x = true
    · rw [List.filter_cons_of_pos h, sI_cons, if_pos h]
    · rw [List.filter_cons_of_neg h, if_neg h, Int.zero_add]
theorem sI_ind (v : Sq) (X : Int) : ∀ l : List Sq, l.Nodup → sI (fun x => if x = v then X else 0) l = if v ∈ l then X else 0
  | [], _ => by simp [sI_nil]
  | x :: l, h => by
    rw [List.nodup_cons] at h
    rw [sI_cons, sI_ind v X l h.2]
    by_cases e : x = v
    · subst e
      rw [if_pos rfl, if_neg h.1, if_pos List.mem_cons_self, Int.add_zero]
    · rw [if_neg e, Int.zero_add]
      have e' : ¬ v = x := fun z => e z.symm
      simp only [List.mem_cons, e', false_or]
theorem nbs_nd (s : Sq) : (nbs s).Nodup := by
  simp only [nbs, List.nodup_cons, List.mem_cons, List.not_mem_nil, or_false, Prod.mk.injEq, List.nodup_nil, not_false_eq_true, and_true, not_or]
  omega
theorem nbs_sym {s v : Sq} (h : v ∈ nbs s) : s ∈ nbs v := by
  obtain ⟨a, b⟩ := s
  obtain ⟨c, d⟩ := v
  simp only [nbs, List.mem_cons, List.not_mem_nil, or_false, Prod.mk.injEq] at h ⊢
  omega
theorem mem_rm {l : List Sq} {a b x : Sq} : x ∈ rm l a b ↔ x ∈ l ∧ x ≠ a ∧ x ≠ b := by
  unfold rm
  rw [List.mem_filter, Bool.and_eq_true, decide_eq_true_eq, decide_eq_true_eq]
theorem rm_comm (l : List Sq) (a b : Sq) : rm l a b = rm l b a := List.filter_congr fun x _ => Bool.and_comm _ _
theorem rm_rm (l : List Sq) (a b c d : Sq) : rm (rm l a b) c d = rm (rm l c d) a b := by
  unfold rm
  rw [List.filter_filter, List.filter_filter]
  exact List.filter_congr fun x _ => Bool.and_comm _ _
theorem rm_sub (l : List Sq) (a b : Sq) : (rm l a b).Sublist l := List.filter_sublist
theorem rm_lt {l : List Sq} {a b : Sq} (ha : a ∈ l) (hb : b ∈ l) (h : a ≠ b) : (rm l a b).length + 2 ≤ l.length := by
  have h1 : rm l a b = (l.filter fun x => decide (x ≠ a)).filter fun x => decide (x ≠ b) := by
    unfold rm
    rw [List.filter_filter]
    exact List.filter_congr fun x _ => Bool.and_comm _ _
  have h2 := filter_lt ha
  have h3 : b ∈ l.filter fun x => decide (x ≠ a) := by rw [List.mem_filter, decide_eq_true_eq]; exact ⟨hb, fun z => h z.symm⟩
  have h4 := filter_lt h3
  rw [h1]
  omega
/-- the number of layings -/
def cN (l : List Sq) : Int := cntF (l.length + 1) l
theorem cN_any {l : List Sq} {n : Nat} (h : l.length < n) : cntF n l = cN l := cntF_any n _ l h (Nat.lt_succ_self _)
theorem rm_head {s o : Sq} {r : List Sq} (nd : (s :: r).Nodup) : r.filter (fun x => decide (x ≠ o)) = rm (s :: r) s o := by
  rw [List.nodup_cons] at nd
  unfold rm
  rw [List.filter_cons_of_neg (by simp)]
  refine List.filter_congr fun x hx => ?_
  have : x ≠ s := fun z => nd.1 (z ▸ hx)
  simp [this]
theorem nb_sum (f : Sq → Int) (l : List Sq) (v : Sq) : sI f (nb l v) = sI (fun o => if o ∈ l then f o else 0) (nbs v) := by
  unfold nb
  rw [sI_filter]
  exact sI_congr fun x _ => by by_cases h : x ∈ l <;> simp [h]
theorem cN_cons {s : Sq} {r : List Sq} (nd : (s :: r).Nodup) : cN (s :: r) = sI (fun o => if o ∈ s :: r then cN (rm (s :: r) s o) else 0) (nbs s) := by
  rw [← nb_sum (fun o => cN (rm (s :: r) s o))]
  unfold cN
  show sI (fun o => cntF (r.length + 1) (r.filter fun x => decide (x ≠ o))) (nb (s :: r) s) = _
  refine sI_congr fun o ho => ?_
  rw [rm_head nd]
  have := filter_lt (nb_rest ho)
  rw [rm_head nd] at this
  exact cntF_any _ _ _ (by omega) (by omega)
theorem cN_at : ∀ (n : Nat) (l : List Sq), l.length ≤ n → l.Nodup → ∀ v ∈ l, cN l = sI (fun o => if o ∈ l then cN (rm l v o) else 0) (nbs v)
  | 0, l, h, _, v, hv => by
    have : l = [] := List.length_eq_zero_iff.mp (Nat.le_zero.mp h)
    subst this
    cases hv
  | n + 1, [], _, _, v, hv => by cases hv
  | n + 1, s :: r, h, nd, v, hv => by
    by_cases e : v = s
    · subst e
      exact cN_cons nd
    · have h' : r.length + 1 ≤ n + 1 := h
      have hsl : s ∈ s :: r := List.mem_cons_self
      -- the double sum
      have key : ∀ (s v : Sq) (l : List Sq), l.Nodup → s ∈ l → v ∈ l → s ≠ v → (∀ o ∈ l, o ≠ v → o ≠ s → cN (rm l s o) = sI (fun p => if p ∈ rm l s o then cN (rm (rm l s o) v p) else 0) (nbs v)) →
          sI (fun o => if o ∈ l then cN (rm l s o) else 0) (nbs s) = (if v ∈ nbs s then cN (rm l s v) else 0) + sI (fun o => sI (fun p => if o ∈ l ∧ p ∈ l ∧ o ≠ v ∧ p ≠ s ∧ o ≠ p then cN (rm (rm l s o) v p) else 0) (nbs v)) (nbs s) := by
        intro s v l nd hs hv hsv IH
        rw [← sI_ind v (cN (rm l s v)) (nbs s) (nbs_nd s), ← sI_add]
        refine sI_congr fun o ho => ?_
        have hos := nbs_ne s o ho
        by_cases ev : o = v
        · subst ev
          rw [if_pos hv, if_pos rfl]
          have : sI (fun p => if o ∈ l ∧ p ∈ l ∧ o ≠ o ∧ p ≠ s ∧ o ≠ p then cN (rm (rm l s o) o p) else 0) (nbs o) = 0 := by
            rw [← sI_zero (nbs o)]
            exact sI_congr fun p _ => if_neg fun z => z.2.2.1 rfl
          rw [this, Int.add_zero]
        · rw [if_neg ev, Int.zero_add]
          by_cases hol : o ∈ l
          · rw [if_pos hol, IH o hol ev hos]
            refine sI_congr fun p _ => ?_
            by_cases hp : p ∈ rm l s o
            · have hp' := mem_rm.mp hp
              rw [if_pos hp, if_pos ⟨hol, hp'.1, ev, hp'.2.1, fun z => hp'.2.2 z.symm⟩]
            · rw [if_neg hp, if_neg fun z => hp (mem_rm.mpr ⟨z.2.1, z.2.2.2.1, fun y => z.2.2.2.2 y.symm⟩)]
          · rw [if_neg hol]
            rw [← sI_zero (nbs v)]
            exact sI_congr fun p _ => (if_neg fun z => hol z.1).symm
      have sl : ∀ o ∈ s :: r, o ≠ s → (rm (s :: r) s o).length ≤ n := fun o ho hos => by
        have := rm_lt hsl ho (fun z => hos z.symm)
        rw [List.length_cons] at this
        omega
      have sl' : ∀ o ∈ s :: r, o ≠ v → (rm (s :: r) v o).length ≤ n := fun o ho hos => by
        have := rm_lt hv ho (fun z => hos z.symm)
        rw [List.length_cons] at this
        omega
      rw [cN_cons nd, key s v (s :: r) nd hsl hv (fun z => e z.symm) fun o ho hov hos => cN_at n _ (sl o ho hos) (nd.sublist (rm_sub ..)) v (mem_rm.mpr ⟨hv, e, fun z => hov z.symm⟩),
        key v s (s :: r) nd hv hsl e fun o ho hov hos => cN_at n _ (sl' o ho hos) (nd.sublist (rm_sub ..)) s (mem_rm.mpr ⟨hsl, fun z => e z.symm, fun z => hov z.symm⟩)]
      have h1 : (if v ∈ nbs s then cN (rm (s :: r) s v) else 0) = (if s ∈ nbs v then cN (rm (s :: r) v s) else 0) := by
        rw [rm_comm (s :: r) s v]
        by_cases z : v ∈ nbs s
        · rw [if_pos z, if_pos (nbs_sym z)]
        · rw [if_neg z, if_neg fun y => z (nbs_sym y)]
      rw [h1, sI_comm]
      congr 1
      refine sI_congr fun p _ => sI_congr fun o _ => ?_
      rw [rm_rm]
      by_cases z : o ∈ s :: r ∧ p ∈ s :: r ∧ o ≠ v ∧ p ≠ s ∧ o ≠ p
      · rw [if_pos z, if_pos ⟨z.2.1, z.1, z.2.2.2.1, z.2.2.1, fun y => z.2.2.2.2 y.symm⟩]
      · rw [if_neg z, if_neg fun y => z ⟨y.2.1, y.1, y.2.2.2.1, y.2.2.1, fun x => y.2.2.2.2 x.symm⟩]
/-! the law's layings, by the last square -/
abbrev St := Sq × Sq
def evF : Nat → List Sq → List (List St)
  | 0, _ => []
  | n + 1, l => match l.getLast? with
    | none => [[]]
    | some m => (nb l m).flatMap fun o => (evF n (rm l m o)).map fun row => row ++ [(o, m)]
theorem evF_some {n : Nat} {l : List Sq} {m : Sq} (h : l.getLast? = some m) : evF (n + 1) l = (nb l m).flatMap fun o => (evF n (rm l m o)).map fun row => row ++ [(o, m)] := by
  show (match l.getLast? with
    | none => [[]]
    | some m => (nb l m).flatMap fun o => (evF n (rm l m o)).map fun row => row ++ [(o, m)]) = _
  rw [h]
theorem last_mem {l : List Sq} {m : Sq} (h : l.getLast? = some m) : m ∈ l := List.mem_of_getLast? h
theorem sI_nat {α : Type} (f : α → Nat) : ∀ l : List α, (((l.map f).sum : Nat) : Int) = sI (fun x => (f x : Int)) l
  | [] => rfl
  | x :: l => by rw [List.map_cons, List.sum_cons, sI_cons, ← sI_nat f l]; omega
theorem nb_len' {n : Nat} {l : List Sq} {m o : Sq} (hl : l.length < n + 1) (h : l.getLast? = some m) (ho : o ∈ nb l m) : (rm l m o).length < n := by
  have h1 := nb_mem ho
  have := rm_lt (last_mem h) h1.1 (fun z => nbs_ne m o h1.2 z.symm)
  omega
theorem evF_len : ∀ (n : Nat) (l : List Sq), l.length < n → l.Nodup → ((evF n l).length : Int) = cN l
  | 0, _, h, _ => absurd h (Nat.not_lt_zero _)
  | n + 1, l, h, nd => by
    cases e : l.getLast? with
    | none =>
      have : l = [] := List.getLast?_eq_none_iff.mp e
      subst this
      rfl
    | some m =>
      rw [evF_some e, List.length_flatMap, sI_nat, cN_at l.length l (Nat.le_refl _) nd m (last_mem e), ← nb_sum (fun o => cN (rm l m o))]
      refine sI_congr fun o ho => ?_
      rw [List.length_map]
      exact evF_len n _ (nb_len' h e ho) (nd.sublist (rm_sub ..))
theorem evF_stone : ∀ (n : Nat) (l : List Sq), l.Pairwise sqLt → ∀ row ∈ evF n l, ∀ x ∈ row, x.1 ∈ l ∧ x.2 ∈ l ∧ x.2 ∈ nbs x.1 ∧ sqLt x.1 x.2
  | 0, _, _, row, h, _, _ => by cases h
  | n + 1, l, up, row, h, x, hx => by
    cases e : l.getLast? with
    | none =>
      unfold evF at h
      rw [e] at h
      rw [List.mem_singleton] at h
      subst h
      cases hx
    | some m =>
      rw [evF_some e] at h
      obtain ⟨o, ho, h2⟩ := List.mem_flatMap.mp h
      obtain ⟨r, hr, rfl⟩ := List.mem_map.mp h2
      obtain ⟨h3, h4⟩ := nb_mem ho
      rcases List.mem_append.mp hx with hx | hx
      · obtain ⟨a, b, c, d⟩ := evF_stone n _ (up.sublist (rm_sub ..)) r hr x hx
        exact ⟨(mem_rm.mp a).1, (mem_rm.mp b).1, c, d⟩
      · rw [List.mem_singleton] at hx
        subst hx
        refine ⟨h3, last_mem e, nbs_sym h4, ?_⟩
        obtain ⟨ys, rfl⟩ := List.getLast?_eq_some_iff.mp e
        rw [List.pairwise_append] at up
        rcases List.mem_append.mp h3 with z | z
        · exact up.2.2 o z m List.mem_cons_self
        · rw [List.mem_singleton] at z
          exact absurd z (nbs_ne m o h4)
theorem sqLt_irr {a : Sq} (h : sqLt a a) : False := by unfold sqLt at h; omega
theorem sqLt_asym {a b : Sq} (h : sqLt a b) (k : sqLt b a) : False := by unfold sqLt at h k; omega
theorem up_nd {l : List Sq} (h : l.Pairwise sqLt) : l.Nodup := by
  unfold List.Nodup
  exact h.imp fun {a b} hab (z : a = b) => by subst z; exact sqLt_irr hab
theorem evF_count : ∀ (n : Nat) (l : List Sq), l.length < n → l.Pairwise sqLt → ∀ a b : Sq, a ∈ l → b ∈ l → b ∈ nbs a → sqLt a b → (((evF n l).countP fun row => decide ((a, b) ∈ row) : Nat) : Int) = cN (rm l a b)
  | 0, _, h, _, _, _, _, _, _, _ => absurd h (Nat.not_lt_zero _)
  | n + 1, l, h, up, a, b, ha, hb, hab, hlt => by
    have nd := up_nd up
    cases e : l.getLast? with
    | none =>
      have : l = [] := List.getLast?_eq_none_iff.mp e
      subst this
      cases ha
    | some m =>
      have hm := last_mem e
      have ham : a ≠ m := by
        rintro rfl
        obtain ⟨ys, rfl⟩ := List.getLast?_eq_some_iff.mp e
        rw [List.pairwise_append] at up
        rcases List.mem_append.mp hb with z | z
        · exact sqLt_asym hlt (up.2.2 b z a List.mem_cons_self)
        · rw [List.mem_singleton] at z
          subst z
          exact sqLt_irr hlt
      have none_ : ∀ (o : Sq), (a ∉ rm l m o ∨ b ∉ rm l m o) → ((evF n (rm l m o)).countP fun row => decide ((a, b) ∈ row)) = 0 := fun o ho => by
        rw [List.countP_eq_zero]
        intro row hr z
        rw [decide_eq_true_eq] at z
        obtain ⟨z1, z2, _⟩ := evF_stone n _ (up.sublist (rm_sub ..)) row hr _ z
        rcases ho with ho | ho
        · exact ho z1
        · exact ho z2
      rw [evF_some e, List.countP_flatMap, sI_nat]
      by_cases hbm : b = m
      · subst hbm
        have h1 : sI (fun o => ((List.countP (fun row => decide ((a, b) ∈ row)) ((evF n (rm l b o)).map fun row => row ++ [(o, b)]) : Nat) : Int)) (nb l b) = sI (fun o => if o = a then cN (rm l a b) else 0) (nb l b) := by
          refine sI_congr fun o ho => ?_
          rw [List.countP_map]
          by_cases ea : o = a
          · subst ea
            rw [if_pos rfl]
            have : List.countP ((fun row => decide ((o, b) ∈ row)) ∘ fun row => row ++ [(o, b)]) (evF n (rm l b o)) = (evF n (rm l b o)).length := by
              rw [List.countP_eq_length]
              intro row _
              simp
            rw [this, rm_comm, evF_len n _ (by rw [rm_comm]; exact nb_len' h e ho) (nd.sublist (rm_sub ..))]
          · rw [if_neg ea]
            have : List.countP ((fun row => decide ((a, b) ∈ row)) ∘ fun row => row ++ [(o, b)]) (evF n (rm l b o)) = List.countP (fun row => decide ((a, b) ∈ row)) (evF n (rm l b o)) := by
              refine List.countP_congr fun row _ => ?_
              have ea' : ¬ a = o := fun z => ea z.symm
              simp [ea']
            rw [this, none_ o (.inr fun z => (mem_rm.mp z).2.1 rfl)]
            rfl
        have hnd : (nb l b).Nodup := (nbs_nd b).sublist List.filter_sublist
        have hmem : a ∈ nb l b := by
          unfold nb
          rw [List.mem_filter, decide_eq_true_eq]
          exact ⟨nbs_sym hab, ha⟩
        have h2 := sI_ind a (cN (rm l a b)) (nb l b) hnd
        rw [if_pos hmem] at h2
        exact h1.trans h2
      · have h1 : sI (fun o => ((List.countP (fun row => decide ((a, b) ∈ row)) ((evF n (rm l m o)).map fun row => row ++ [(o, m)]) : Nat) : Int)) (nb l m) = sI (fun o => if o ∈ rm l a b then cN (rm (rm l a b) m o) else 0) (nb l m) := by
          refine sI_congr fun o ho => ?_
          obtain ⟨hol, hom⟩ := nb_mem ho
          rw [List.countP_map]
          have : List.countP ((fun row => decide ((a, b) ∈ row)) ∘ fun row => row ++ [(o, m)]) (evF n (rm l m o)) = List.countP (fun row => decide ((a, b) ∈ row)) (evF n (rm l m o)) := by
            refine List.countP_congr fun row _ => ?_
            simp [hbm]
          rw [this]
          by_cases ho2 : o ∈ rm l a b
          · have ho3 := mem_rm.mp ho2
            rw [if_pos ho2, rm_rm]
            exact evF_count n _ (nb_len' h e ho) (up.sublist (rm_sub ..)) a b (mem_rm.mpr ⟨ha, ham, fun z => ho3.2.1 z.symm⟩) (mem_rm.mpr ⟨hb, hbm, fun z => ho3.2.2 z.symm⟩) hab hlt
          · rw [if_neg ho2]
            have : o = a ∨ o = b := by
              by_cases z1 : o = a
              · exact .inl z1
              · by_cases z2 : o = b
                · exact .inr z2
                · exact absurd (mem_rm.mpr ⟨hol, z1, z2⟩) ho2
            rw [none_ o (by rcases this with rfl | rfl; exact .inl fun z => (mem_rm.mp z).2.2 rfl; exact .inr fun z => (mem_rm.mp z).2.2 rfl)]
            rfl
        refine h1.trans ?_
        have hm' : m ∈ rm l a b := mem_rm.mpr ⟨hm, fun z => ham z.symm, fun z => hbm z.symm⟩
        rw [cN_at _ (rm l a b) (Nat.le_refl _) (nd.sublist (rm_sub ..)) m hm']
        unfold nb
        rw [sI_filter]
        refine sI_congr fun o _ => ?_
        by_cases z : o ∈ l
        · rw [if_pos (decide_eq_true z)]
        · rw [if_neg (by simp [z]), if_neg fun y => z (mem_rm.mp y).1]
end DL

set_option Elab.async false
set_option linter.all false
set_option maxRecDepth 100000
/-! MS: stones and layings as data; sorted. -/
namespace DL
open PySem PySem.Spec PyProof.Rows L2
def est (x : St) : PyData := .tuple [esq x.1, esq x.2]
def erow (r : List St) : PyData := .list (r.map est)
def ety (r : List St) : PyData := .tuple (r.map est)
theorem eqv_est (a b : St) : PyData.eqv (est a) (est b) = decide (a = b) := by
  obtain ⟨a1, a2⟩ := a
  obtain ⟨b1, b2⟩ := b
  show (PyData.eqv (esq a1) (esq b1) && (PyData.eqv (esq a2) (esq b2) && true)) = _
  rw [eqv_esq, eqv_esq]
  by_cases h1 : a1 = b1 <;> by_cases h2 : a2 = b2 <;> simp [h1, h2]
theorem any_est (l : List St) (a : St) : ((l.map est).any fun y => PyData.eqv y (est a)) = decide (a ∈ l) := by
  induction l with
  | nil => rfl
  | cons b r ih =>
    rw [List.map_cons, List.any_cons, ih, eqv_est]
    by_cases h : b = a
    · subst h; simp
    · have h' : a ≠ b := fun z => h z.symm
      simp [h, h']
theorem eqv_ests : ∀ l k : List St, PyData.eqvAll (l.map est) (k.map est) = decide (l = k)
  | [], [] => by simp [PyData.eqvAll]
  | [], _ :: _ => by simp [PyData.eqvAll]
  | _ :: _, [] => by simp [PyData.eqvAll]
  | a :: l, b :: k => by
    rw [List.map_cons, List.map_cons, PyData.eqvAll, eqv_est, eqv_ests l k]
    by_cases h1 : a = b <;> by_cases h2 : l = k <;> simp [h1, h2]
theorem lay_ests : ∀ l : List St, PyData.canLayAll0 (l.map est) = true
  | [] => rfl
  | a :: r => by
    rw [List.map_cons, PyData.canLayAll0, lay_ests r]
    rfl
theorem depth_est (a : St) : (est a).depth ≤ 2 := by simp [est, esq, PyData.depth, PyData.depthAll]
theorem depth_ests : ∀ l : List St, PyData.depthAll (l.map est) ≤ 2
  | [] => by simp [PyData.depthAll]
  | a :: r => by
    have := depth_ests r
    have h := depth_est a
    simp only [List.map_cons, PyData.depthAll]
    omega
theorem shaped_est (a : St) : SeqAt.shaped (est a) = true := by
  simp [SeqAt.shaped, est, esq, PyData.canLay0, PyData.canLayAll0, PyData.depth, PyData.depthAll]
theorem shaped_ety (l : List St) : SeqAt.shaped (.tuple (l.map est)) = true := by
  have := depth_ests l
  unfold SeqAt.shaped
  rw [PyData.canLay0, lay_ests, PyData.depth, Bool.true_and]
  exact decide_eq_true (by omega)
theorem shaped_erow (l : List St) : SeqAt.shaped (.list (l.map est)) = true := by
  have := depth_ests l
  unfold SeqAt.shaped
  rw [PyData.canLay0, lay_ests, PyData.depth, Bool.true_and]
  exact decide_eq_true (by omega)
theorem lay_etys : ∀ l : List (List St), PyData.canLayAll0 (l.map ety) = true
  | [] => rfl
  | a :: r => by
    rw [List.map_cons, PyData.canLayAll0, lay_etys r]
    show (PyData.canLayAll0 (a.map est) && true) = true
    rw [lay_ests]; rfl
theorem depth_etys : ∀ l : List (List St), PyData.depthAll (l.map ety) ≤ 3
  | [] => by simp [PyData.depthAll]
  | a :: r => by
    have := depth_etys r
    have h := depth_ests a
    have h' : (ety a).depth ≤ 3 := by unfold ety; rw [PyData.depth]; omega
    simp only [List.map_cons, PyData.depthAll]
    omega
theorem shaped_letys (l : List (List St)) : SeqAt.shaped (.list (l.map ety)) = true := by
  have := depth_etys l
  unfold SeqAt.shaped
  rw [PyData.canLay0, lay_etys, PyData.depth, Bool.true_and]
  exact decide_eq_true (by omega)
/-! the order -/
def stLt (a b : St) : Prop := sqLt a.1 b.1 ∨ (a.1 = b.1 ∧ sqLt a.2 b.2)
instance (a b : Sq) : Decidable (sqLt a b) := by unfold sqLt; infer_instance
instance (a b : St) : Decidable (stLt a b) := by unfold stLt; infer_instance
theorem lt_pair (x y x' y' : PyData) (h1 : PySem.W.alike x x' = true) (h2 : PySem.W.alike y y' = true) :
    PySem.W.dataLt (.tuple [x, y]) (.tuple [x', y']) = if PyData.eqv x x' = true then (if PyData.eqv y y' = true then false else PySem.W.dataLt y y') else PySem.W.dataLt x x' := by
  rw [PySem.W.dataLt_tuple]
  by_cases e1 : PyData.eqv x x' = true
  · rw [if_pos e1, PySem.W.dataLt_all_yes h1 e1]
    by_cases e2 : PyData.eqv y y' = true
    · rw [if_pos e2, PySem.W.dataLt_all_yes h2 e2]
      exact PySem.W.lex_pre [.inl 0] [] []
    · rw [if_neg e2, PySem.W.dataLt_all_no h2 (by simpa using e2)]
  · rw [if_neg e1, PySem.W.dataLt_all_no h1 (by simpa using e1)]
theorem lt_esq (a b : Sq) : PySem.W.dataLt (esq a) (esq b) = decide (sqLt a b) := by
  obtain ⟨a1, a2⟩ := a
  obtain ⟨b1, b2⟩ := b
  unfold esq
  rw [lt_pair _ _ _ _ rfl rfl, PySem.W.dataLt_int, PySem.W.dataLt_int]
  simp only [PyData.eqv, decide_eq_true_eq, sqLt, beq_iff_eq]
  by_cases h1 : a1 = b1
  · subst h1
    by_cases h2 : a2 = b2
    · subst h2; simp
    · simp [h2]
  · simp [h1]
theorem alike_esq (a b : Sq) : PySem.W.alike (esq a) (esq b) = true := rfl
theorem lt_est (a b : St) : PySem.W.dataLt (est a) (est b) = decide (stLt a b) := by
  obtain ⟨a1, a2⟩ := a
  obtain ⟨b1, b2⟩ := b
  unfold est
  rw [lt_pair _ _ _ _ rfl rfl, lt_esq, lt_esq, eqv_esq, eqv_esq]
  simp only [decide_eq_true_eq, stLt]
  by_cases h1 : a1 = b1
  · subst h1
    have : ¬ sqLt a1 a1 := fun z => sqLt_irr z
    by_cases h2 : a2 = b2
    · subst h2
      have : ¬ sqLt a2 a2 := fun z => sqLt_irr z
      simp [*]
    · simp [h2, this]
  · simp [h1]
theorem alike_est (a b : St) : PySem.W.alike (est a) (est b) = true := rfl
theorem alike_ests : ∀ l k : List St, PySem.W.alikeAll (l.map est) (k.map est) = true
  | [], _ => by simp [PySem.W.alikeAll]
  | _ :: _, [] => by simp [PySem.W.alikeAll]
  | a :: l, b :: k => by
    rw [List.map_cons, List.map_cons, PySem.W.alikeAll, alike_est, alike_ests l k]; rfl
theorem stLt_irr {a : St} (h : stLt a a) : False := by rcases h with h | h; exact sqLt_irr h; exact sqLt_irr h.2
theorem sqLt_tri (a b : Sq) (h : ¬ sqLt b a) : a = b ∨ sqLt a b := by
  obtain ⟨a1, a2⟩ := a
  obtain ⟨b1, b2⟩ := b
  unfold sqLt at *
  rw [Prod.mk.injEq]
  simp only at *
  omega
theorem stLt_tri (a b : St) (h : ¬ stLt b a) : a = b ∨ stLt a b := by
  obtain ⟨a1, a2⟩ := a
  obtain ⟨b1, b2⟩ := b
  unfold stLt at *
  simp only [not_or, not_and] at h
  rcases sqLt_tri a1 b1 h.1 with rfl | h1
  · rcases sqLt_tri a2 b2 (h.2 rfl) with rfl | h2
    · exact .inl rfl
    · exact .inr (.inr ⟨rfl, h2⟩)
  · exact .inr (.inl h1)
theorem sqLt_trans {a b c : Sq} (h : sqLt a b) (k : sqLt b c) : sqLt a c := by unfold sqLt at *; omega
theorem stLt_trans {a b c : St} (h : stLt a b) (k : stLt b c) : stLt a c := by
  rcases h with h | ⟨h1, h2⟩ <;> rcases k with k | ⟨k1, k2⟩
  · exact .inl (sqLt_trans h k)
  · exact .inl (k1 ▸ h)
  · exact .inl (h1 ▸ k)
  · exact .inr ⟨h1.trans k1, sqLt_trans h2 k2⟩
def stLe (a b : St) : Bool := !decide (stLt b a)
def srt (r : List St) : List St := r.mergeSort stLe
theorem srt_data (r : List St) : sortD (r.map est) = (srt r).map est := by
  unfold sortD srt
  refine (List.map_mergeSort fun a _ b _ => ?_).symm
  show (!decide (stLt b a)) = !PySem.W.dataLt (est b) (est a)
  rw [lt_est]
theorem srt_perm (r : List St) : (srt r).Perm r := List.mergeSort_perm r stLe
theorem srt_up {r : List St} (nd : r.Nodup) : (srt r).Pairwise stLt := by
  have h1 : (srt r).Pairwise fun a b => stLe a b = true := List.pairwise_mergeSort (fun a b c h k => by
    unfold stLe at *
    simp only [Bool.not_eq_true', decide_eq_false_iff_not] at *
    intro z
    rcases stLt_tri a b h with rfl | h
    · exact k z
    · rcases stLt_tri b c k with rfl | k
      · exact stLt_irr (stLt_trans z h)
      · exact stLt_irr (stLt_trans z (stLt_trans h k))) (fun a b => by
    unfold stLe
    by_cases z : stLt b a
    · have : ¬ stLt a b := fun y => stLt_irr (stLt_trans z y)
      simp [this]
    · simp [z]) r
  have h2 : (srt r).Nodup := (srt_perm r).nodup_iff.mpr nd
  unfold List.Nodup at h2
  refine (h1.and h2).imp fun {a b} ⟨x, y⟩ => ?_
  unfold stLe at x
  simp only [Bool.not_eq_true', decide_eq_false_iff_not] at x
  rcases stLt_tri a b x with z | z
  · exact absurd z y
  · exact z
theorem up_ext {l k : List St} (h1 : l.Pairwise stLt) (h2 : k.Pairwise stLt) (h : ∀ x, x ∈ l ↔ x ∈ k) : l = k := by
  have nd : ∀ {l : List St}, l.Pairwise stLt → l.Nodup := fun {l} h => by
    unfold List.Nodup
    exact h.imp fun {a b} hab (z : a = b) => by subst z; exact stLt_irr hab
  exact List.Perm.eq_of_pairwise (fun a b _ _ x y => (stLt_irr (stLt_trans x y)).elim) h1 h2 ((List.perm_ext_iff_of_nodup (nd h1) (nd h2)).mpr h)
theorem sortOk_ests (r : List St) (h : r.length ≤ 16777216) : sortOk (r.map est) = true := by
  unfold sortOk
  rw [shaped_erow, List.length_map, decide_eq_true h, Bool.and_true, Bool.and_true]
  have h1 : allAlike (r.map est) = true := by
    unfold allAlike
    rw [List.all_eq_true]
    intro x hx
    rw [List.all_eq_true]
    intro y hy
    obtain ⟨a, _, rfl⟩ := List.mem_map.mp hx
    obtain ⟨b, _, rfl⟩ := List.mem_map.mp hy
    exact alike_est a b
  have h2 : (r.map est).all tupNE = true := by
    rw [List.all_eq_true]
    intro x hx
    obtain ⟨a, _, rfl⟩ := List.mem_map.mp hx
    rfl
  rw [h1, h2]; rfl
theorem sortOk_etys (r : List (List St)) (h : r.length ≤ 16777216) (hne : ∀ x ∈ r, x ≠ []) : sortOk (r.map ety) = true := by
  unfold sortOk
  rw [shaped_letys, List.length_map, decide_eq_true h, Bool.and_true, Bool.and_true]
  have h1 : allAlike (r.map ety) = true := by
    unfold allAlike
    rw [List.all_eq_true]
    intro x hx
    rw [List.all_eq_true]
    intro y hy
    obtain ⟨a, _, rfl⟩ := List.mem_map.mp hx
    obtain ⟨b, _, rfl⟩ := List.mem_map.mp hy
    exact alike_ests a b
  have h2 : (r.map ety).all tupNE = true := by
    rw [List.all_eq_true]
    intro x hx
    obtain ⟨a, ha, rfl⟩ := List.mem_map.mp hx
    obtain ⟨y, ys, rfl⟩ := List.exists_cons_of_ne_nil (hne a ha)
    rfl
  rw [h1, h2]; rfl
theorem sort_etys (r : List (List St)) : ∃ rs : List (List St), sortD (r.map ety) = rs.map ety ∧ rs.Perm r :=
  by
  refine ⟨r.mergeSort fun a b => PySem.W.dataLe false id (ety a) (ety b), ?_, List.mergeSort_perm ..⟩
  unfold sortD
  exact (List.map_mergeSort (f := ety) (r := fun a b => PySem.W.dataLe false id (ety a) (ety b)) (s := PySem.W.dataLe false id) (l := r) fun a _ b _ => rfl).symm
theorem sorted_row {r : List St} (h : r.length ≤ 16777216) (ah : AH) : gSortedL [.p (.list (r.map est))] ah = .ok (.p (.list ((srt r).map est))) ah := by
  show (if sortOk (r.map est) = true then R.ok (D.p (.list (sortD (r.map est)))) ah else .bad) = _
  rw [if_pos (sortOk_ests r h), srt_data]
theorem sorted_rows {r : List (List St)} (h : r.length ≤ 16777216) (hne : ∀ x ∈ r, x ≠ []) (ah : AH) : ∃ rs : List (List St), gSortedL [.p (.list (r.map ety))] ah = .ok (.p (.list (rs.map ety))) ah ∧ rs.Perm r := by
  obtain ⟨rs, e1, e2⟩ := sort_etys r
  refine ⟨rs, ?_, e2⟩
  show (if sortOk (r.map ety) = true then R.ok (D.p (.list (sortD (r.map ety)))) ah else .bad) = _
  rw [if_pos (sortOk_etys r h hne), e1]
end DL

set_option Elab.async false
set_option linter.all false
set_option maxRecDepth 100000
/-! ME: the law's layings, as the law finds them. -/
namespace DL
open PySem PySem.Spec PyProof.Rows L2
theorem F_near_eq (l : List Sq) (s : Sq) (ah : AH) : F__law_near [.p (efl l), .p (esq s)] ah = .ok (.p (.list ((nb l s).map esq))) ah := by
  have h : lcL 4 (tB (f2 gIn (fVar 4) (fVar 0))) (fVar 4) (((nbs s).map esq).map .p) [some (.p (efl l)), some (.p (esq s)), some (.p (.int s.1)), some (.p (.int s.2)), none] ah = .ok ((nb l s).map esq) ah := by
    refine lcL_data esq (fun o => decide (o ∈ l)) esq (nbs s) (fun x _ => ?_) (fun x _ _ => rfl)
    show (R.bind (gIn (.p (esq x)) (.p (efl l)) ah) _) = _
    rw [gIn_sq]
    rfl
  have h1 : sAsg (fVar 1) (gPair 2 3) [some (.p (efl l)), some (.p (esq s)), none, none, none] ah = .nx [some (.p (efl l)), some (.p (esq s)), some (.p (.int s.1)), some (.p (.int s.2)), none] ah := rfl
  have h2 : (iAny (fLst (aCons (fTup (aCons (f2 gSub (fVar 2) (fC (.int 1))) (aCons (fVar 3) aNil))) (aCons (fTup (aCons (fVar 2) (aCons (f2 gSub (fVar 3) (fC (.int 1))) aNil))) (aCons (fTup (aCons (fVar 2) (aCons (f2 gAdd (fVar 3) (fC (.int 1))) aNil))) (aCons (fTup (aCons (f2 gAdd (fVar 2) (fC (.int 1))) (aCons (fVar 3) aNil))) aNil)))))) [some (.p (efl l)), some (.p (esq s)), some (.p (.int s.1)), some (.p (.int s.2)), none] ah = .ok (((nbs s).map esq).map .p) ah := rfl
  rw [E__law_near, g__law_near, e_seq, h1, s_nx, e_ret, e_lc, h2, b_ok]
  rw [if_pos (by rw [List.length_map, List.length_map, nbs_len]; omega), h]
  rfl
theorem sum_le {α : Type} (f : α → Nat) (b : Nat) : ∀ l : List α, (∀ x ∈ l, f x ≤ b) → (l.map f).sum ≤ l.length * b
  | [], _ => by simp
  | x :: l, h => by
    have h1 := sum_le f b l fun y hy => h y (List.mem_cons_of_mem _ hy)
    have h2 := h x List.mem_cons_self
    rw [List.map_cons, List.sum_cons, List.length_cons, Nat.succ_mul]
    omega
theorem evF_le : ∀ (k n : Nat) (l : List Sq), l.length ≤ 2 * k + 1 → (evF n l).length ≤ 4 ^ k
  | k, 0, l, h => Nat.zero_le _
  | k, n + 1, l, h => by
    cases e : l.getLast? with
    | none =>
      have : l = [] := List.getLast?_eq_none_iff.mp e
      subst this
      exact Nat.one_le_pow _ _ (by decide)
    | some m =>
      rw [evF_some e, List.length_flatMap]
      match k with
      | 0 =>
        have : nb l m = [] := by
          rw [List.eq_nil_iff_forall_not_mem]
          intro o ho
          have h1 := nb_mem ho
          have := rm_lt (last_mem e) h1.1 (fun z => nbs_ne m o h1.2 z.symm)
          omega
        rw [this]
        exact Nat.zero_le _
      | k + 1 =>
        have h1 := sum_le (fun o => ((evF n (rm l m o)).map fun row => row ++ [(o, m)]).length) (4 ^ k) (nb l m) fun o ho => by
          rw [List.length_map]
          refine evF_le k n _ ?_
          have h1 := nb_mem ho
          have := rm_lt (last_mem e) h1.1 (fun z => nbs_ne m o h1.2 z.symm)
          omega
        have h2 : (nb l m).length * 4 ^ k ≤ 4 * 4 ^ k := Nat.mul_le_mul_right _ (nb_len l m)
        have h3 : 4 ^ (k + 1) = 4 * 4 ^ k := by rw [Nat.pow_succ, Nat.mul_comm]
        omega
theorem evF_row : ∀ (n : Nat) (l : List Sq), ∀ row ∈ evF n l, row.length ≤ n
  | 0, _, row, h => by cases h
  | n + 1, l, row, h => by
    cases e : l.getLast? with
    | none =>
      unfold evF at h
      rw [e, List.mem_singleton] at h
      subst h
      exact Nat.zero_le _
    | some m =>
      rw [evF_some e] at h
      obtain ⟨o, ho, h2⟩ := List.mem_flatMap.mp h
      obtain ⟨r, hr, rfl⟩ := List.mem_map.mp h2
      have := evF_row n _ r hr
      rw [List.length_append, List.length_singleton]
      omega
def bndL : Nat → List Sq → Nat
  | 0, _ => 0
  | n + 1, l => match l.getLast? with
    | none => 0
    | some m => 1 + ((nb l m).map fun o => bndL n (rm l m o)).sum
theorem bndL_some {n : Nat} {l : List Sq} {m : Sq} (h : l.getLast? = some m) : bndL (n + 1) l = 1 + ((nb l m).map fun o => bndL n (rm l m o)).sum := by
  show (match l.getLast? with
    | none => 0
    | some m => 1 + ((nb l m).map fun o => bndL n (rm l m o)).sum) = _
  rw [h]
theorem sum3 {α : Type} (f : α → Nat) (b : Nat) : ∀ l : List α, (∀ x ∈ l, 3 * f x + 1 ≤ b) → 3 * (l.map f).sum + l.length ≤ l.length * b
  | [], _ => by simp
  | x :: l, h => by
    have h1 := sum3 f b l fun y hy => h y (List.mem_cons_of_mem _ hy)
    have h2 := h x List.mem_cons_self
    have h3 : (l.length + 1) * b = l.length * b + b := Nat.succ_mul _ _
    rw [List.map_cons, List.sum_cons, List.length_cons, h3]
    omega
theorem four_le {s x b : Nat} (h : 3 * s + x ≤ x * b) (hx : x ≤ 4) (hb : 1 ≤ b) : 3 * (1 + s) + 1 ≤ 4 * b := by
  have : x = 0 ∨ x = 1 ∨ x = 2 ∨ x = 3 ∨ x = 4 := by omega
  rcases this with rfl | rfl | rfl | rfl | rfl <;> omega
theorem bndL_le : ∀ (k n : Nat) (l : List Sq), l.length ≤ 2 * k → 3 * bndL n l + 1 ≤ 4 ^ k
  | k, 0, l, h => by have := Nat.one_le_pow k 4 (by decide); show 3 * 0 + 1 ≤ _; omega
  | k, n + 1, l, h => by
    have hp := Nat.one_le_pow k 4 (by decide)
    cases e : l.getLast? with
    | none =>
      have : l = [] := List.getLast?_eq_none_iff.mp e
      subst this
      show 3 * 0 + 1 ≤ _
      omega
    | some m =>
      rw [bndL_some e]
      match k with
      | 0 =>
        have := last_mem e
        have : l = [] := List.length_eq_zero_iff.mp (by omega)
        subst this
        cases e
      | k + 1 =>
        have h1 := sum3 (fun o => bndL n (rm l m o)) (4 ^ k) (nb l m) fun o ho => by
          refine bndL_le k n _ ?_
          have h1 := nb_mem ho
          have := rm_lt (last_mem e) h1.1 (fun z => nbs_ne m o h1.2 z.symm)
          omega
        have h3 : 4 ^ (k + 1) = 4 * 4 ^ k := by rw [Nat.pow_succ, Nat.mul_comm]
        rw [h3]
        exact four_le h1 (nb_len l m) (Nat.one_le_pow k 4 (by decide))
theorem bndF_le : ∀ (k n : Nat) (l : List Sq), l.length ≤ 2 * k → 3 * bndF n l + 1 ≤ 4 ^ k
  | k, 0, l, h => by have := Nat.one_le_pow k 4 (by decide); show 3 * 0 + 1 ≤ _; omega
  | k, n + 1, [], h => by have := Nat.one_le_pow k 4 (by decide); show 3 * 0 + 1 ≤ _; omega
  | 0, n + 1, s :: r, h => by rw [List.length_cons] at h; omega
  | k + 1, n + 1, s :: r, h => by
    have h1 := sum3 (fun o => bndF n (r.filter fun x => decide (x ≠ o))) (4 ^ k) (nb (s :: r) s) fun o ho => by
      refine bndF_le k n _ ?_
      have := filter_lt (nb_rest ho)
      rw [List.length_cons] at h
      omega
    have h3 : 4 ^ (k + 1) = 4 * 4 ^ k := by rw [Nat.pow_succ, Nat.mul_comm]
    show 3 * (1 + _) + 1 ≤ _
    rw [h3]
    exact four_le h1 (nb_len (s :: r) s) (Nat.one_le_pow k 4 (by decide))
/-! the walk -/
def eevs (rows : List (List St)) : PyData := .list (rows.map erow)
def TabE (kvs : List (PyData × D)) : Prop := ∀ e ∈ kvs, ∃ l n, e.1 = efl l ∧ l.length < n ∧ e.2 = .p (eevs (evF n l))
theorem evF_any : ∀ (n m : Nat) (l : List Sq), l.length < n → l.length < m → evF n l = evF m l
  | 0, _, _, h, _ => absurd h (Nat.not_lt_zero _)
  | _, 0, _, _, h => absurd h (Nat.not_lt_zero _)
  | n + 1, m + 1, l, h1, h2 => by
    cases e : l.getLast? with
    | none =>
      have : l = [] := List.getLast?_eq_none_iff.mp e
      subst this
      rfl
    | some x =>
      rw [evF_some e, evF_some e]
      have hc : ∀ o ∈ nb l x, ((evF n (rm l x o)).map fun row => row ++ [(o, x)]) = ((evF m (rm l x o)).map fun row => row ++ [(o, x)]) := fun o ho => by
        rw [evF_any n m _ (nb_len' h1 e ho) (nb_len' h2 e ho)]
      rw [List.flatMap_def, List.flatMap_def, List.map_congr_left hc]
theorem sub_lastel {l : List Sq} {m : Sq} (h : l.getLast? = some m) (ah : AH) : gSub2 (.p (efl l)) (.p (.int (-1))) ah = .ok (.p (esq m)) ah := by
  obtain ⟨ys, rfl⟩ := List.getLast?_eq_some_iff.mp h
  have h1 : atI (((ys ++ [m]).map esq).map D.p) (-1) = some (.p (esq m)) := by
    have e : ixN (((ys ++ [m]).map esq).map D.p).length (-1) = some ys.length := by
      unfold ixN
      rw [if_neg (by decide), if_pos (by simp only [List.length_map, List.length_append, List.length_singleton]; omega)]
      simp only [List.length_map, List.length_append, List.length_singleton]
      congr 1
      omega
    unfold atI
    rw [e]
    show (((ys ++ [m]).map esq).map D.p)[ys.length]? = _
    rw [List.getElem?_map, List.getElem?_map, List.getElem?_append_right (Nat.le_refl _), Nat.sub_self]
    rfl
  show (match atI (((ys ++ [m]).map esq).map D.p) (-1) with
    | some x => R.ok x ah
    | none => R.bad) = _
  rw [h1]
theorem left_every (l : List Sq) (a b : Sq) (hl : l.length ≤ 1000) (x1 x2 x5 x7 : Option D) (ah : AH) : fCall gTuple (aCons (fLc (iAny (fVar 0)) 6 (tAndF (tB (f2 gNe (fVar 6) (fVar 3))) (tB (f2 gNe (fVar 6) (fVar 4)))) (fVar 6)) aNil) [some (.p (efl l)), x1, x2, some (.p (esq a)), some (.p (esq b)), x5, none, x7] ah = .ok (.p (efl (rm l a b))) ah := by
  have h : lcL 6 (tAndF (tB (f2 gNe (fVar 6) (fVar 3))) (tB (f2 gNe (fVar 6) (fVar 4)))) (fVar 6) ((l.map esq).map .p) [some (.p (efl l)), x1, x2, some (.p (esq a)), some (.p (esq b)), x5, none, x7] ah = .ok ((rm l a b).map esq) ah := by
    refine lcL_data esq (fun x => decide (x ≠ a) && decide (x ≠ b)) esq l (fun x _ => ?_) (fun x _ _ => rfl)
    simp only [e_and, e_tB, e_f2, e_sets, e_set0, e_vs, e_v0, b_ok, gNe_sq]
    by_cases h1 : x = a
    · simp [h1]
    · simp [h1]
  rw [e_call, e_cons, e_lc, e_any]
  have hv : fVar 0 [some (D.p (efl l)), x1, x2, some (.p (esq a)), some (.p (esq b)), x5, none, x7] ah = .ok (.p (.tuple (l.map esq))) ah := rfl
  rw [hv, b_ok]
  dsimp only
  rw [b_ok, if_pos (by rw [List.length_map, List.length_map]; omega), h]
  rfl
def eBody (Fr : DF) : SF := (sSeq (sSet 5 (fCall gTuple (aCons (fLc (iAny (fVar 0)) 6 (tAndF (tB (f2 gNe (fVar 6) (fVar 3))) (tB (f2 gNe (fVar 6) (fVar 4)))) (fVar 6)) aNil))) (sSet 2 (f2 gAdd (fVar 2) (fLc (iAny (fCall Fr (aCons (fVar 5) (aCons (fVar 1) aNil)))) 7 tYesF (f2 gAdd (fVar 7) (fLst (aCons (fTup (aCons (fVar 4) (aCons (fVar 3) aNil))) aNil)))))))
theorem e_liM {f : EF} {σ : DS} {ah : AH} : iAny f σ ah = (f σ ah).bind fun d ah1 => match d with
  | .p (.list xs) => .ok (xs.map .p) ah1
  | .p (.tuple xs) => .ok (xs.map .p) ah1
  | .p (.dict kvs) => .ok (kvs.map fun e => .p e.1) ah1
  | .s ns => .ok (ns.map fun i => .p (.int i)) ah1
  | _ => .bad := (rfl)
theorem forEvery {n i : Nat} {l : List Sq} {m : Sq} (hm : l.getLast? = some m) (hl : l.length < n + 1) (h1000 : l.length ≤ 1000) (hn : n ≤ 1000) (ih : ∀ l, l.length < n → l.length ≤ 1000 → ∀ ah kvs, ah[i]? = some (.dct kvs) → TabE kvs → kvs.length + bndL n l ≤ 16777216 → (evF n l).length ≤ 16777216 →
      ∃ kvs', F__law_every n [.p (efl l), .r i] ah = .ok (.p (eevs (evF n l))) (ah.set i (.dct kvs')) ∧ TabE kvs' ∧ kvs'.length ≤ kvs.length + bndL n l) :
    ∀ (os : List Sq), (∀ o ∈ os, o ∈ nb l m) → ∀ (acc : List (List St)) (x4 x5 : Option D) (ah : AH) (kvs : List (PyData × D)), ah[i]? = some (.dct kvs) → TabE kvs → kvs.length + (os.map fun o => bndL n (rm l m o)).sum ≤ 16777216 → acc.length + (os.map fun o => (evF n (rm l m o)).length).sum ≤ 16777216 →
      ∃ x4' x5' kvs', forL (gN 4) (eBody (F__law_every n)) ((os.map esq).map .p) [some (.p (efl l)), some (.r i), some (.p (eevs acc)), some (.p (esq m)), x4, x5, none, none] ah
        = .nx [some (.p (efl l)), some (.r i), some (.p (eevs (acc ++ os.flatMap fun o => (evF n (rm l m o)).map fun row => row ++ [(o, m)]))), some (.p (esq m)), x4', x5', none, none] (ah.set i (.dct kvs')) ∧ TabE kvs' ∧ kvs'.length ≤ kvs.length + (os.map fun o => bndL n (rm l m o)).sum
  | [], _, acc, x4, x5, ah, kvs, h, t, _, _ => ⟨x4, x5, kvs, by simp [e_for_nil, set_same h], t, by simp⟩
  | o :: os, ho, acc, x4, x5, ah, kvs, h, t, hb, hz => by
    rw [List.map_cons, List.sum_cons] at hb hz
    have hmo := ho o List.mem_cons_self
    have hlt := nb_len' hl hm hmo
    obtain ⟨kvs1, e1, t1, b1⟩ := ih (rm l m o) hlt (by omega) ah kvs h t (by omega) (by omega)
    obtain ⟨x4', x5', kvs2, e2, t2, b2⟩ := forEvery (l := l) hm hl h1000 hn ih os (fun p hp => ho p (List.mem_cons_of_mem _ hp)) (acc ++ (evF n (rm l m o)).map fun row => row ++ [(o, m)]) (some (.p (esq o))) (some (.p (efl (rm l m o)))) (ah.set i (.dct kvs1)) kvs1 (get_set h) t1 (by omega) (by rw [List.length_append, List.length_map]; omega)
    refine ⟨x4', x5', kvs2, ?_, t2, ?_⟩
    · rw [List.map_cons, List.map_cons, e_for_cons]
      have hb : eBody (F__law_every n) [some (.p (efl l)), some (.r i), some (.p (eevs acc)), some (.p (esq m)), some (.p (esq o)), x5, none, none] ah
          = .nx [some (.p (efl l)), some (.r i), some (.p (eevs (acc ++ (evF n (rm l m o)).map fun row => row ++ [(o, m)]))), some (.p (esq m)), some (.p (esq o)), some (.p (efl (rm l m o))), none, none] (ah.set i (.dct kvs1)) := by
        have hlc : lcL 7 tYesF (f2 gAdd (fVar 7) (fLst (aCons (fTup (aCons (fVar 4) (aCons (fVar 3) aNil))) aNil))) (((evF n (rm l m o)).map erow).map .p) [some (.p (efl l)), some (.r i), some (.p (eevs acc)), some (.p (esq m)), some (.p (esq o)), some (.p (efl (rm l m o))), none, none] (ah.set i (.dct kvs1))
            = .ok (((evF n (rm l m o)).filter fun _ => true).map fun row => erow (row ++ [(o, m)])) (ah.set i (.dct kvs1)) := by
          refine lcL_data erow (fun _ => true) (fun row => erow (row ++ [(o, m)])) _ (fun x _ => rfl) (fun x hx _ => ?_)
          have hr := evF_row n _ x hx
          have h1 : f2 gAdd (fVar 7) (fLst (aCons (fTup (aCons (fVar 4) (aCons (fVar 3) aNil))) aNil)) ([some (D.p (efl l)), some (.r i), some (.p (eevs acc)), some (.p (esq m)), some (.p (esq o)), some (.p (efl (rm l m o))), none, none].set 7 (some (.p (erow x)))) (ah.set i (.dct kvs1)) = gAdd (.p (.list (x.map est))) (.p (.list [est (o, m)])) (ah.set i (.dct kvs1)) := rfl
          rw [h1, l_add (by rw [List.length_map, List.length_singleton]; omega)]
          show R.ok (D.p (.list (x.map est ++ [est (o, m)]))) _ = R.ok (D.p (.list ((x ++ [(o, m)]).map est))) _
          rw [List.map_append]
          rfl
        have hlen : (((evF n (rm l m o)).map erow).map D.p).length ≤ 16777216 := by rw [List.length_map, List.length_map]; omega
        unfold eevs at hlc
        unfold eBody
        rw [e_seq, e_set, left_every l m o h1000, t_ok, s_nx, e_set, e_f2]
        simp only [e_sets, e_set0, e_vs, e_v0, b_ok, e_call, e_cons, e_nil, e_lc, e_any, e1, eevs]
        rw [if_pos hlen, hlc, o_ok, b_ok, l_add (by rw [List.length_map, List.length_map, filter_t]; omega), t_ok, filter_t]
        simp only [List.map_append, List.map_map]
        rfl
      rw [e_gN]
      simp only [e_sets, e_set0]
      rw [hb]
      dsimp only
      rw [e2, List.flatMap_cons, List.append_assoc, List.set_set]
    · rw [List.map_cons, List.sum_cons]
      omega
theorem F_every_ok (i : Nat) : ∀ (n : Nat), n ≤ 1000 → ∀ (l : List Sq), l.length < n → l.length ≤ 1000 → ∀ (ah : AH) (kvs : List (PyData × D)), ah[i]? = some (.dct kvs) → TabE kvs → kvs.length + bndL n l ≤ 16777216 → (evF n l).length ≤ 16777216 →
    ∃ kvs', F__law_every n [.p (efl l), .r i] ah = .ok (.p (eevs (evF n l))) (ah.set i (.dct kvs')) ∧ TabE kvs' ∧ kvs'.length ≤ kvs.length + bndL n l
  | 0, _, _, h, _, _, _, _, _, _, _ => absurd h (Nat.not_lt_zero _)
  | n + 1, hn, l, hl, h1000, ah, kvs, h, t, hb, hz => by
    cases hm : l.getLast? with
    | none =>
      have : l = [] := List.getLast?_eq_none_iff.mp hm
      subst this
      refine ⟨kvs, ?_, t, Nat.le_add_right _ _⟩
      rw [set_same h]
      rfl
    | some m =>
      have ko := keyOk_efl l
      rw [bndL_some hm] at hb
      have hev := evF_some (n := n) hm
      have hne : l ≠ [] := fun z => by rw [z] at hm; cases hm
      have htru : tNotF (tTru (fVar 0)) [some (.p (efl l)), some (.r i), none, none, none, none, none, none] ah = .ok false ah := by
        obtain ⟨y, ys, rfl⟩ := List.exists_cons_of_ne_nil hne
        rfl
      rw [E__law_every, g__law_every, e_seq, e_if, htru, t_ok, if_neg Bool.false_ne_true, e_nx, s_nx, e_seq, e_if, e_tB]
      have hni : f2 gNotIn (fVar 0) (fVar 1) [some (.p (efl l)), some (.r i), none, none, none, none, none, none] ah = .ok (.p (.bool (!(kfind kvs (efl l)).isSome))) ah := by
        show gNotIn (.p (efl l)) (.r i) ah = _
        unfold gNotIn
        rw [inOf_dct h ko]
      rw [hni, b_ok]
      dsimp only
      rw [t_ok]
      cases q : kfind kvs (efl l) with
      | some d =>
        refine ⟨kvs, ?_, t, Nat.le_add_right _ _⟩
        rw [if_neg (by simp), e_nx, s_nx, e_ret, e_f2, e_vs, e_v0, b_ok, e_v0, b_ok, sub_dct h ko q, t_ok, e_rt]
        obtain ⟨e, he, hk, hd⟩ := kfind_mem q
        obtain ⟨l', k, e1, e2, e3⟩ := t e he
        rw [e1, nk_efl] at hk
        subst hk
        rw [← hd, e3, set_same h, evF_any k (n + 1) l' e2 hl]
      | none =>
        have hlast : sSet 3 (f2 gSub2 (fVar 0) (fNeg (fC (.int 1)))) [some (.p (efl l)), some (.r i), some (.p (eevs [])), none, none, none, none, none] ah = .nx [some (.p (efl l)), some (.r i), some (.p (eevs [])), some (.p (esq m)), none, none, none, none] ah := by
          have hh : f2 gSub2 (fVar 0) (fNeg (fC (.int 1))) [some (.p (efl l)), some (.r i), some (.p (eevs [])), none, none, none, none, none] ah = gSub2 (.p (efl l)) (.p (.int (-1))) ah := rfl
          rw [e_set, hh, sub_lastel hm, t_ok]
          rfl
        have hc : fCall F__law_near (aCons (fVar 0) (aCons (fVar 3) aNil)) [some (.p (efl l)), some (.r i), some (.p (eevs [])), some (.p (esq m)), none, none, none, none] ah = F__law_near [.p (efl l), .p (esq m)] ah := rfl
        rw [if_pos (by rfl), e_seq, e_set, e_lst0, t_ok]
        rw [e_sets, e_sets, e_set0, s_nx, e_seq]
        have hx : (PyData.list []) = eevs [] := rfl
        rw [hx, hlast, s_nx, e_seq, e_for, e_any, hc, F_near_eq, b_ok]
        dsimp only
        rw [t_ok]
        obtain ⟨x4, x5, kvs1, e1, t1, b1⟩ := forEvery (l := l) hm hl h1000 (by omega) (fun l a b ah kvs c d e f => F_every_ok i n (by omega) l a b ah kvs c d e f) (nb l m) (fun o ho => ho) [] none none ah kvs h t (by omega) (by
          rw [hev, List.length_flatMap] at hz
          simp only [List.length_map] at hz
          simpa using hz)
        rw [List.nil_append, ← hev] at e1
        have e1' := e1
        unfold eBody at e1'
        rw [e1', s_nx]
        have h1 := get_set (o' := .dct kvs1) h
        have hput : sDPut (fVar 1) (fVar 0) (fVar 2) [some (.p (efl l)), some (.r i), some (.p (eevs (evF (n + 1) l))), some (.p (esq m)), x4, x5, none, none] (ah.set i (.dct kvs1))
            = .nx [some (.p (efl l)), some (.r i), some (.p (eevs (evF (n + 1) l))), some (.p (esq m)), x4, x5, none, none] ((ah.set i (.dct kvs1)).set i (.dct (kput kvs1 (efl l) (.p (eevs (evF (n + 1) l)))))) := by
          show (match gDPut (.r i) (.p (efl l)) _ (ah.set i (.dct kvs1)) with
            | some ah4 => O.nx _ ah4
            | none => .bad) = _
          rw [dput_dct h1 ko (by omega)]
        rw [hput, s_nx, e_ret]
        refine ⟨kput kvs1 (efl l) (.p (eevs (evF (n + 1) l))), ?_, ?_, ?_⟩
        · rw [e_f2, e_vs, e_v0, b_ok, e_v0, b_ok, sub_dct (get_set h1) ko kfind_kput, t_ok, e_rt, List.set_set]
        · intro e he
          unfold kput at he
          split at he
          · obtain ⟨e', h1', h2'⟩ := List.mem_map.mp he
            split at h2'
            · rename_i c
              obtain ⟨l', k, z1, z2, z3⟩ := t1 e' h1'
              rw [z1, nk_efl] at c
              subst c
              rw [← h2']
              exact ⟨_, n + 1, z1, hl, rfl⟩
            · rw [← h2']
              exact t1 e' h1'
          · rcases List.mem_append.mp he with he | he
            · exact t1 e he
            · have e' : e = (efl l, .p (eevs (evF (n + 1) l))) := by simpa using he
              rw [e']
              exact ⟨l, n + 1, rfl, hl, rfl⟩
        · have hk : (kput kvs1 (efl l) (.p (eevs (evF (n + 1) l)))).length ≤ kvs1.length + 1 := by
            unfold kput
            split
            · rw [List.length_map]; omega
            · rw [List.length_append, List.length_singleton]; omega
          rw [bndL_some hm]
          omega
theorem evF_ne : ∀ (n : Nat) (l : List Sq), l ≠ [] → ∀ row ∈ evF n l, row ≠ []
  | 0, _, _, row, h => by cases h
  | n + 1, l, hne, row, h => by
    cases e : l.getLast? with
    | none => exact absurd (List.getLast?_eq_none_iff.mp e) hne
    | some m =>
      rw [evF_some e] at h
      obtain ⟨o, ho, h2⟩ := List.mem_flatMap.mp h
      obtain ⟨r, hr, rfl⟩ := List.mem_map.mp h2
      simp
theorem F_all_ok (l : List Sq) (hne : l ≠ []) (hl : l.length ≤ 24) (ah : AH) : ∃ (rs : List (List St)) (g : AO), F__law_all [.p (efl l)] ah = .ok (.p (.list (rs.map ety))) (ah ++ [g]) ∧ rs.Perm ((evF 26 l).map srt) := by
  have h0 : (ah ++ [AO.dct []])[ah.length]? = some (.dct []) := get_last
  have hB := bndL_le 12 26 l hl
  have hE := evF_le 12 26 l (by omega)
  have hpow : (4 : Nat) ^ 12 = 16777216 := by decide
  rw [hpow] at hB hE
  obtain ⟨kvs, e, _, _⟩ := F_every_ok ah.length 26 (by decide) l (by omega) (by omega) (ah ++ [.dct []]) [] h0 (fun e he => by cases he) (by rw [List.length_nil]; omega) hE
  rw [set_last] at e
  have hs : ∀ x ∈ (evF 26 l).map srt, x ≠ [] := fun x hx => by
    obtain ⟨r, hr, rfl⟩ := List.mem_map.mp hx
    intro z
    have := (srt_perm r).length_eq
    rw [z] at this
    exact evF_ne _ _ hne r hr (List.length_eq_zero_iff.mp this.symm)
  obtain ⟨rs, e2, p⟩ := sorted_rows (r := (evF 26 l).map srt) (by rw [List.length_map]; exact hE) hs (ah ++ [.dct kvs])
  refine ⟨rs, .dct kvs, ?_, p⟩
  have hlc : lcL 1 tYesF (fCall gTuple (aCons (fCall gSortedL (aCons (fVar 1) aNil)) aNil)) (((evF 26 l).map erow).map .p) [some (.p (efl l)), none] (ah ++ [.dct kvs])
      = .ok (((evF 26 l).filter fun _ => true).map fun row => ety (srt row)) (ah ++ [.dct kvs]) := by
    refine lcL_data erow (fun _ => true) (fun row => ety (srt row)) _ (fun x _ => rfl) (fun x hx _ => ?_)
    have hr := evF_row _ _ x hx
    rw [e_call, e_cons, e_call, e_cons, e_sets, e_set0, e_vs, e_v0, b_ok, e_nil, b_ok, b_ok]
    show (R.bind (gSortedL [.p (.list (x.map est))] _) _).bind _ = _
    rw [sorted_row (by omega), b_ok]
    rfl
  rw [E__law_all, g__law_all, e_ret, e_call, e_cons, e_lc, e_any, e_call]
  have hd : fDict [some (D.p (efl l)), none] ah = .ok (.r ah.length) (ah ++ [.dct []]) := rfl
  simp only [e_cons, e_nil, e_v0, b_ok, hd, e, eevs]
  rw [if_pos (by rw [List.length_map, List.length_map]; exact hE), hlc, filter_t, o_ok, b_ok]
  have : ((evF 26 l).map fun row => ety (srt row)) = ((evF 26 l).map srt).map ety := by rw [List.map_map]; rfl
  rw [this, b_ok, e2]
  rfl
end DL

set_option Elab.async false
set_option linter.all false
set_option maxRecDepth 100000
/-! MK: is_within, is_square, rises, checked. -/
namespace DL
open PySem PySem.Spec PyProof.Rows L2
def plain : PyData → Bool
  | .dict _ => false
  | _ => true
def inB : PyData → Bool
  | .int i => decide (0 ≤ i) && decide (i ≤ 7)
  | _ => false
def sqB : PyData → Bool
  | .tuple [x, y] => inB x && inB y
  | _ => false
def plain2 : PyData → Bool
  | .dict _ => false
  | .tuple [x, y] => plain x && plain y
  | _ => true
theorem kb1 : kitB "NoneType" "int" = some false := by decide +kernel
theorem kb2 : kitB "bool" "int" = some true := by decide +kernel
theorem kb3 : kitB "int" "int" = some true := by decide +kernel
theorem kb4 : kitB "str" "int" = some false := by decide +kernel
theorem kb5 : kitB "list" "int" = some false := by decide +kernel
theorem kb6 : kitB "tuple" "int" = some false := by decide +kernel
theorem kc2 : kitB "bool" "bool" = some true := by decide +kernel
theorem kc3 : kitB "int" "bool" = some false := by decide +kernel
theorem kd1 : kitB "NoneType" "tuple" = some false := by decide +kernel
theorem kd2 : kitB "bool" "tuple" = some false := by decide +kernel
theorem kd3 : kitB "int" "tuple" = some false := by decide +kernel
theorem kd4 : kitB "str" "tuple" = some false := by decide +kernel
theorem kd5 : kitB "list" "tuple" = some false := by decide +kernel
theorem kd6 : kitB "tuple" "tuple" = some true := by decide +kernel
section
variable {σ : DS} {ah : AH} {f g : EF} {t : String} {c1 c2 : G2} {fa fb fc : EF}
theorem e_isi : fIsi t f σ ah = (f σ ah).bind fun d ah1 => match tyD ah1 d with
  | some u => match kitB u t with
    | some b => .ok (.p (.bool b)) ah1
    | none => .bad
  | none => .bad := (rfl)
theorem e_fAnd : fAnd f g σ ah = (f σ ah).bind fun d ah1 => match d with
  | .p (.bool true) => g σ ah1
  | .p (.bool false) => .ok (.p (.bool false)) ah1
  | _ => .bad := (rfl)
theorem e_fNot : fNot f σ ah = (f σ ah).bind fun d ah1 => match d with
  | .p (.bool b) => .ok (.p (.bool (!b))) ah1
  | _ => .bad := (rfl)
theorem e_chain : fChain c1 c2 fa fb fc σ ah = (fa σ ah).bind fun d ah1 => (fb σ ah1).bind fun e ah2 => (c1 d e ah2).bind fun z ah3 => match z with
  | .p (.bool true) => (fc σ ah3).bind fun x ah4 => c2 e x ah4
  | .p (.bool false) => .ok (.p (.bool false)) ah3
  | _ => .bad := (rfl)
end
theorem F_within_ok (d : PyData) (hd : plain d = true) (ah : AH) : F_is_within [.p d, .p (.int 0), .p (.int 7)] ah = .ok (.p (.bool (inB d))) ah := by
  rw [E_is_within, g_is_within]
  cases d with
  | dict _ => cases hd
  | int i =>
    simp only [e_seq, e_nx, e_set, e_ret, e_expr, e_if, e_f2, e_call, e_nil, e_cons, e_c, e_v0, e_vs, e_set0, e_sets, e_tB, e_tru, e_notF, e_neg, b_ok, b_ex, t_ok, t_ex, s_nx, s_rt, s_bk, s_ct, s_ex, o_ok, e_rt, e_fnx, i_add, i_sub, i_mod, Int.reduceLT, i_lt, i_le, i_gt, i_ge, i_eq, i_ne, l_add, t_add, e_r1, e_for, e_lc, e_gN, e_asg, e_tup, e_any, e_tupl, e_frz, ↓reduceIte, Bool.false_eq_true, Bool.not_true, Bool.not_false, e_and, e_or, e_yes, e_fAnd, e_isi, tyD, kb3, kc3, e_fNot, e_chain, inB]
    by_cases h : (0 : Int) ≤ i
    · simp only [decide_eq_true h, Bool.true_and]; rfl
    · simp only [decide_eq_false h, Bool.false_and]; rfl
  | none => simp only [e_seq, e_nx, e_set, e_ret, e_expr, e_if, e_f2, e_call, e_nil, e_cons, e_c, e_v0, e_vs, e_set0, e_sets, e_tB, e_tru, e_notF, e_neg, b_ok, b_ex, t_ok, t_ex, s_nx, s_rt, s_bk, s_ct, s_ex, o_ok, e_rt, e_fnx, i_add, i_sub, i_mod, Int.reduceLT, i_lt, i_le, i_gt, i_ge, i_eq, i_ne, l_add, t_add, e_r1, e_for, e_lc, e_gN, e_asg, e_tup, e_any, e_tupl, e_frz, ↓reduceIte, Bool.false_eq_true, Bool.not_true, Bool.not_false, e_and, e_or, e_yes, e_fAnd, e_isi, tyD, kb1, inB]
  | bool b => simp only [e_seq, e_nx, e_set, e_ret, e_expr, e_if, e_f2, e_call, e_nil, e_cons, e_c, e_v0, e_vs, e_set0, e_sets, e_tB, e_tru, e_notF, e_neg, b_ok, b_ex, t_ok, t_ex, s_nx, s_rt, s_bk, s_ct, s_ex, o_ok, e_rt, e_fnx, i_add, i_sub, i_mod, Int.reduceLT, i_lt, i_le, i_gt, i_ge, i_eq, i_ne, l_add, t_add, e_r1, e_for, e_lc, e_gN, e_asg, e_tup, e_any, e_tupl, e_frz, ↓reduceIte, Bool.false_eq_true, Bool.not_true, Bool.not_false, e_and, e_or, e_yes, e_fAnd, e_isi, tyD, kb2, kc2, e_fNot, inB]
  | str b => simp only [e_seq, e_nx, e_set, e_ret, e_expr, e_if, e_f2, e_call, e_nil, e_cons, e_c, e_v0, e_vs, e_set0, e_sets, e_tB, e_tru, e_notF, e_neg, b_ok, b_ex, t_ok, t_ex, s_nx, s_rt, s_bk, s_ct, s_ex, o_ok, e_rt, e_fnx, i_add, i_sub, i_mod, Int.reduceLT, i_lt, i_le, i_gt, i_ge, i_eq, i_ne, l_add, t_add, e_r1, e_for, e_lc, e_gN, e_asg, e_tup, e_any, e_tupl, e_frz, ↓reduceIte, Bool.false_eq_true, Bool.not_true, Bool.not_false, e_and, e_or, e_yes, e_fAnd, e_isi, tyD, kb4, inB]
  | list b => simp only [e_seq, e_nx, e_set, e_ret, e_expr, e_if, e_f2, e_call, e_nil, e_cons, e_c, e_v0, e_vs, e_set0, e_sets, e_tB, e_tru, e_notF, e_neg, b_ok, b_ex, t_ok, t_ex, s_nx, s_rt, s_bk, s_ct, s_ex, o_ok, e_rt, e_fnx, i_add, i_sub, i_mod, Int.reduceLT, i_lt, i_le, i_gt, i_ge, i_eq, i_ne, l_add, t_add, e_r1, e_for, e_lc, e_gN, e_asg, e_tup, e_any, e_tupl, e_frz, ↓reduceIte, Bool.false_eq_true, Bool.not_true, Bool.not_false, e_and, e_or, e_yes, e_fAnd, e_isi, tyD, kb5, inB]
  | tuple b => simp only [e_seq, e_nx, e_set, e_ret, e_expr, e_if, e_f2, e_call, e_nil, e_cons, e_c, e_v0, e_vs, e_set0, e_sets, e_tB, e_tru, e_notF, e_neg, b_ok, b_ex, t_ok, t_ex, s_nx, s_rt, s_bk, s_ct, s_ex, o_ok, e_rt, e_fnx, i_add, i_sub, i_mod, Int.reduceLT, i_lt, i_le, i_gt, i_ge, i_eq, i_ne, l_add, t_add, e_r1, e_for, e_lc, e_gN, e_asg, e_tup, e_any, e_tupl, e_frz, ↓reduceIte, Bool.false_eq_true, Bool.not_true, Bool.not_false, e_and, e_or, e_yes, e_fAnd, e_isi, tyD, kb6, inB]
theorem F_square_ok (d : PyData) (hd : plain2 d = true) (ah : AH) : F_is_square [.p d] ah = .ok (.p (.bool (sqB d))) ah := by
  have key : ∀ d, (∃ u, tyD ah (.p d) = some u ∧ kitB u "tuple" = some false) → F_is_square [.p d] ah = .ok (.p (.bool false)) ah := by
    rintro d ⟨u, h1, h2⟩
    rw [E_is_square, g_is_square]
    simp only [e_seq, e_nx, e_set, e_ret, e_expr, e_if, e_f2, e_call, e_nil, e_cons, e_c, e_v0, e_vs, e_set0, e_sets, e_tB, e_tru, e_notF, e_neg, b_ok, b_ex, t_ok, t_ex, s_nx, s_rt, s_bk, s_ct, s_ex, o_ok, e_rt, e_fnx, i_add, i_sub, i_mod, Int.reduceLT, i_lt, i_le, i_gt, i_ge, i_eq, i_ne, l_add, t_add, e_r1, e_for, e_lc, e_gN, e_asg, e_tup, e_any, e_tupl, e_frz, ↓reduceIte, Bool.false_eq_true, Bool.not_true, Bool.not_false, e_and, e_or, e_yes, e_isi, h1, h2, truOf]
  cases d with
  | dict _ => cases hd
  | int i => exact key _ ⟨_, rfl, kd3⟩
  | none => exact key _ ⟨_, rfl, kd1⟩
  | bool b => exact key _ ⟨_, rfl, kd2⟩
  | str b => exact key _ ⟨_, rfl, kd4⟩
  | list b => exact key _ ⟨_, rfl, kd5⟩
  | tuple xs =>
    have no : xs.length ≠ 2 → F_is_square [.p (.tuple xs)] ah = .ok (.p (.bool false)) ah := by
      intro h
      have h' : ¬ (xs.length : Int) = 2 := by omega
      rw [E_is_square, g_is_square]
      simp only [e_seq, e_nx, e_set, e_ret, e_expr, e_if, e_f2, e_call, e_nil, e_cons, e_c, e_v0, e_vs, e_set0, e_sets, e_tB, e_tru, e_notF, e_neg, b_ok, b_ex, t_ok, t_ex, s_nx, s_rt, s_bk, s_ct, s_ex, o_ok, e_rt, e_fnx, i_add, i_sub, i_mod, Int.reduceLT, i_lt, i_le, i_gt, i_ge, i_eq, i_ne, l_add, t_add, e_r1, e_for, e_lc, e_gN, e_asg, e_tup, e_any, e_tupl, e_frz, ↓reduceIte, Bool.false_eq_true, Bool.not_true, Bool.not_false, e_and, e_or, e_yes, e_isi, tyD, kd6, truOf, len_t, decide_eq_false h']
    match xs, no, hd with
    | [], no, _ => exact no (by decide)
    | [_], no, _ => exact no (by simp)
    | _ :: _ :: _ :: _, no, _ => exact no (by simp only [List.length_cons]; omega)
    | [x, y], _, hd =>
      have hx : plain x = true ∧ plain y = true := by simpa [plain2] using hd
      have t0 : ∀ ah, gSub2 (.p (.tuple [x, y])) (.p (.int 0)) ah = .ok (.p x) ah := fun ah => sub_tup (k := 0) rfl ah
      have t1 : ∀ ah, gSub2 (.p (.tuple [x, y])) (.p (.int 1)) ah = .ok (.p y) ah := fun ah => sub_tup (k := 1) rfl ah
      have hl : (([x, y] : List PyData).length : Int) = 2 := rfl
      rw [E_is_square, g_is_square]
      simp only [e_seq, e_nx, e_set, e_ret, e_expr, e_if, e_f2, e_call, e_nil, e_cons, e_c, e_v0, e_vs, e_set0, e_sets, e_tB, e_tru, e_notF, e_neg, b_ok, b_ex, t_ok, t_ex, s_nx, s_rt, s_bk, s_ct, s_ex, o_ok, e_rt, e_fnx, i_add, i_sub, i_mod, Int.reduceLT, i_lt, i_le, i_gt, i_ge, i_eq, i_ne, l_add, t_add, e_r1, e_for, e_lc, e_gN, e_asg, e_tup, e_any, e_tupl, e_frz, ↓reduceIte, Bool.false_eq_true, Bool.not_true, Bool.not_false, e_and, e_or, e_yes, e_isi, tyD, kd6, truOf, len_t, hl, decide_true, e_fAnd, t0, t1, F_within_ok x hx.1, F_within_ok y hx.2, sqB]
      cases inB x
      · simp only [e_seq, e_nx, e_set, e_ret, e_expr, e_if, e_f2, e_call, e_nil, e_cons, e_c, e_v0, e_vs, e_set0, e_sets, e_tB, e_tru, e_notF, e_neg, b_ok, b_ex, t_ok, t_ex, s_nx, s_rt, s_bk, s_ct, s_ex, o_ok, e_rt, e_fnx, i_add, i_sub, i_mod, Int.reduceLT, i_lt, i_le, i_gt, i_ge, i_eq, i_ne, l_add, t_add, e_r1, e_for, e_lc, e_gN, e_asg, e_tup, e_any, e_tupl, e_frz, ↓reduceIte, Bool.false_eq_true, Bool.not_true, Bool.not_false, e_and, e_or, e_yes, Bool.false_and]
      · simp only [e_seq, e_nx, e_set, e_ret, e_expr, e_if, e_f2, e_call, e_nil, e_cons, e_c, e_v0, e_vs, e_set0, e_sets, e_tB, e_tru, e_notF, e_neg, b_ok, b_ex, t_ok, t_ex, s_nx, s_rt, s_bk, s_ct, s_ex, o_ok, e_rt, e_fnx, i_add, i_sub, i_mod, Int.reduceLT, i_lt, i_le, i_gt, i_ge, i_eq, i_ne, l_add, t_add, e_r1, e_for, e_lc, e_gN, e_asg, e_tup, e_any, e_tupl, e_frz, ↓reduceIte, Bool.false_eq_true, Bool.not_true, Bool.not_false, e_and, e_or, e_yes, t1, F_within_ok y hx.2, Bool.true_and]
theorem le_sq (a b : Sq) (ah : AH) : gLe (.p (esq a)) (.p (esq b)) ah = .ok (.p (.bool (!decide (sqLt b a)))) ah := by
  have h : cmpOk (esq a) (esq b) = true := by
    unfold cmpOk
    rw [shaped_esq, shaped_esq]; rfl
  show (if cmpOk (esq a) (esq b) = true then R.ok (D.p (.bool (!PySem.W.dataLt (esq b) (esq a)))) ah else .bad) = _
  rw [h, lt_esq]; rfl
theorem e_r2 {fa : AF} {σ : DS} {ah : AH} : iRange2 fa σ ah = (fa σ ah).bind fun ds ah1 => match ds with
  | [.p (.int i), .p (.int j)] => if rOk i && rOk j then .ok (rangeD i (j - i).toNat) ah1 else .bad
  | _ => .bad := (rfl)
/-- rises, both answers -/
theorem F_rises_ok (l : List Sq) (hl : l.length ≤ 1000) (ah : AH) :
    (F_rises [.p (efl l)] ah = .ok (.p (.bool true)) ah ∧ ∀ i, (h : i + 1 < l.length) → sqLt (l[i]'(by omega)) l[i + 1]) ∨ (F_rises [.p (efl l)] ah = .ok (.p (.bool false)) ah ∧ ∃ i, ∃ h : i + 1 < l.length, ¬ sqLt (l[i]'(by omega)) l[i + 1]) := by
  have hn : gLen [.p (efl l)] ah = .ok (.p (.int l.length)) ah := by unfold efl; rw [len_t, List.length_map]
  have ro : (rOk 1 && rOk (l.length : Int)) = true := by
    rw [rOk_nat (n := l.length) (by omega), show rOk 1 = true from rOk_nat (n := 1) (by decide)]; rfl
  have hr : rangeD 1 ((l.length : Int) - 1).toNat = (List.range (l.length - 1)).map fun (i : Nat) => D.p (.int (1 + (i : Int))) := by
    unfold rangeD
    rw [show ((l.length : Int) - 1).toNat = l.length - 1 by omega]
  rcases for_rt (σ := [some (D.p (efl l)), none]) (ah := ah) (gt := gN 1) (f := (sIf (tB (f2 gLe (f2 gSub2 (fVar 0) (fVar 1)) (f2 gSub2 (fVar 0) (f2 gSub (fVar 1) (fC (.int 1)))))) (sRet (fC (.bool false))) sNx)) (fun (i : Nat) => D.p (.int (1 + (i : Int))))
    (fun done σ ah' => ah' = ah ∧ (∃ x, σ = [some (D.p (efl l)), x]) ∧ ∀ i ∈ done, ∃ h : i + 1 < l.length, sqLt (l[i]'(by omega)) l[i + 1])
    (fun d ah' => d = .p (.bool false) ∧ ah' = ah ∧ ∃ i, ∃ h : i + 1 < l.length, ¬ sqLt (l[i]'(by omega)) l[i + 1]) (List.range (l.length - 1))
    (by
      intro done i rest e σ ah' hI
      obtain ⟨rfl, ⟨x, rfl⟩, hd⟩ := hI
      have hi : i + 1 < l.length := by
        have : i ∈ List.range (l.length - 1) := by rw [e]; simp
        rw [List.mem_range] at this
        omega
      have g1 : gSub2 (.p (efl l)) (.p (.int (1 + (i : Int)))) ah' = .ok (.p (esq l[i + 1])) ah' := by
        rw [show (1 : Int) + (i : Int) = ((i + 1 : Nat) : Int) by omega]
        exact sub_tup (by rw [List.getElem?_map, List.getElem?_eq_getElem hi]; rfl) ah'
      have g0 : gSub2 (.p (efl l)) (.p (.int (1 + (i : Int) - 1))) ah' = .ok (.p (esq (l[i]'(by omega)))) ah' := by
        rw [show (1 : Int) + (i : Int) - 1 = (i : Int) by omega]
        exact sub_tup (by rw [List.getElem?_map, List.getElem?_eq_getElem (by omega)]; rfl) ah'
      refine ⟨[some (D.p (efl l)), some (.p (.int (1 + (i : Int))))], rfl, ?_⟩
      by_cases c : sqLt (l[i]'(by omega)) l[i + 1]
      · refine .inl ⟨[some (D.p (efl l)), some (.p (.int (1 + (i : Int))))], ah', .inl ?_, rfl, ⟨some (.p (.int (1 + (i : Int)))), rfl⟩, ?_⟩
        · simp only [e_seq, e_nx, e_set, e_ret, e_expr, e_if, e_f2, e_call, e_nil, e_cons, e_c, e_v0, e_vs, e_set0, e_sets, e_tB, e_tru, e_notF, e_neg, b_ok, b_ex, t_ok, t_ex, s_nx, s_rt, s_bk, s_ct, s_ex, o_ok, e_rt, e_fnx, i_add, i_sub, i_mod, Int.reduceLT, i_lt, i_le, i_gt, i_ge, i_eq, i_ne, l_add, t_add, e_r1, e_for, e_lc, e_gN, e_asg, e_tup, e_any, e_tupl, e_frz, ↓reduceIte, Bool.false_eq_true, Bool.not_true, Bool.not_false, e_and, e_or, e_yes, g1, g0, le_sq, decide_eq_true c]
        · intro j hj
          rcases List.mem_append.mp hj with hj | hj
          · exact hd j hj
          · rw [List.mem_singleton] at hj
            subst hj
            exact ⟨hi, c⟩
      · refine .inr ⟨.p (.bool false), ah', ?_, rfl, rfl, i, hi, c⟩
        simp only [e_seq, e_nx, e_set, e_ret, e_expr, e_if, e_f2, e_call, e_nil, e_cons, e_c, e_v0, e_vs, e_set0, e_sets, e_tB, e_tru, e_notF, e_neg, b_ok, b_ex, t_ok, t_ex, s_nx, s_rt, s_bk, s_ct, s_ex, o_ok, e_rt, e_fnx, i_add, i_sub, i_mod, Int.reduceLT, i_lt, i_le, i_gt, i_ge, i_eq, i_ne, l_add, t_add, e_r1, e_for, e_lc, e_gN, e_asg, e_tup, e_any, e_tupl, e_frz, ↓reduceIte, Bool.false_eq_true, Bool.not_true, Bool.not_false, e_and, e_or, e_yes, g1, g0, le_sq, decide_eq_false c])
    ⟨rfl, ⟨none, rfl⟩, fun i hi => by cases hi⟩ with ⟨σ', ah', e1, rfl, ⟨x, rfl⟩, e2⟩ | ⟨d, ah', e1, rfl, rfl, e2⟩
  · refine .inl ⟨?_, fun i h => ?_⟩
    · rw [E_rises, g_rises, e_seq]
      simp only [e_for, e_r2, e_call, e_cons, e_nil, e_c, e_v0, b_ok, hn, ro, ↓reduceIte, t_ok, hr, e1, s_nx, e_ret, e_rt]
    · obtain ⟨_, h2⟩ := e2 i (List.mem_range.mpr (by omega))
      exact h2
  · refine .inr ⟨?_, e2⟩
    rw [E_rises, g_rises, e_seq]
    simp only [e_for, e_r2, e_call, e_cons, e_nil, e_c, e_v0, b_ok, hn, ro, ↓reduceIte, t_ok, hr, e1, s_rt, e_rt]
theorem e_raise {n : Nat} {σ : DS} {ah : AH} : sRaise n σ ah = .ex n σ ah := (rfl)
/-- no tuple -/
theorem chk_no (d : PyData) (ah : AH) (h : ∃ u, tyD ah (.p d) = some u ∧ kitB u "tuple" = some false) : F_checked [.p d] ah = .ex 1 ah := by
  obtain ⟨u, h1, h2⟩ := h
  rw [E_checked, g_checked]
  simp only [e_seq, e_nx, e_set, e_ret, e_expr, e_if, e_f2, e_call, e_nil, e_cons, e_c, e_v0, e_vs, e_set0, e_sets, e_tB, e_tru, e_notF, e_neg, b_ok, b_ex, t_ok, t_ex, s_nx, s_rt, s_bk, s_ct, s_ex, o_ok, e_rt, e_fnx, i_add, i_sub, i_mod, Int.reduceLT, i_lt, i_le, i_gt, i_ge, i_eq, i_ne, l_add, t_add, e_r1, e_for, e_lc, e_gN, e_asg, e_tup, e_any, e_tupl, e_frz, ↓reduceIte, Bool.false_eq_true, Bool.not_true, Bool.not_false, e_and, e_or, e_yes, e_isi, h1, h2, truOf, e_raise, e_fex]
theorem chk_len (xs : List PyData) (ah : AH) (h : xs.length = 0 ∨ 24 < xs.length) : F_checked [.p (.tuple xs)] ah = .ex 1 ah := by
  rw [E_checked, g_checked]
  by_cases h1 : (1 : Int) ≤ (xs.length : Int)
  · have h2 : ¬ (xs.length : Int) ≤ 24 := by omega
    simp only [e_seq, e_nx, e_set, e_ret, e_expr, e_if, e_f2, e_call, e_nil, e_cons, e_c, e_v0, e_vs, e_set0, e_sets, e_tB, e_tru, e_notF, e_neg, b_ok, b_ex, t_ok, t_ex, s_nx, s_rt, s_bk, s_ct, s_ex, o_ok, e_rt, e_fnx, i_add, i_sub, i_mod, Int.reduceLT, i_lt, i_le, i_gt, i_ge, i_eq, i_ne, l_add, t_add, e_r1, e_for, e_lc, e_gN, e_asg, e_tup, e_any, e_tupl, e_frz, ↓reduceIte, Bool.false_eq_true, Bool.not_true, Bool.not_false, e_and, e_or, e_yes, e_isi, tyD, kd6, truOf, e_chain, len_t, decide_eq_true h1, decide_eq_false h2, e_raise, e_fex]
  · simp only [e_seq, e_nx, e_set, e_ret, e_expr, e_if, e_f2, e_call, e_nil, e_cons, e_c, e_v0, e_vs, e_set0, e_sets, e_tB, e_tru, e_notF, e_neg, b_ok, b_ex, t_ok, t_ex, s_nx, s_rt, s_bk, s_ct, s_ex, o_ok, e_rt, e_fnx, i_add, i_sub, i_mod, Int.reduceLT, i_lt, i_le, i_gt, i_ge, i_eq, i_ne, l_add, t_add, e_r1, e_for, e_lc, e_gN, e_asg, e_tup, e_any, e_tupl, e_frz, ↓reduceIte, Bool.false_eq_true, Bool.not_true, Bool.not_false, e_and, e_or, e_yes, e_isi, tyD, kd6, truOf, e_chain, len_t, decide_eq_false h1, e_raise, e_fex]
def cBody : SF := (sIf (tNotF (tTru (fCall F_is_square (aCons (fVar 1) aNil)))) (sRaise 1) sNx)
theorem chk_loop (t : D) (ah : AH) : ∀ (xs : List PyData), (∀ x ∈ xs, plain2 x = true) → ∀ x1, ∃ x1', forL (gN 1) cBody (xs.map .p) [some t, x1] ah = if xs.all sqB then .nx [some t, x1'] ah else .ex 1 [some t, x1'] ah
  | [], _, x1 => ⟨x1, rfl⟩
  | x :: r, h, x1 => by
    obtain ⟨x1', ih⟩ := chk_loop t ah r (fun y hy => h y (List.mem_cons_of_mem _ hy)) (some (.p x))
    have hs := F_square_ok x (h x List.mem_cons_self) ah
    rw [List.map_cons, e_for_cons, e_gN]
    have hset : ([some t, x1] : DS).set 1 (some (.p x)) = [some t, some (.p x)] := rfl
    rw [hset]
    dsimp only
    cases c : sqB x with
    | true =>
      have hb : cBody [some t, some (.p x)] ah = .nx [some t, some (.p x)] ah := by
        unfold cBody
        simp only [e_seq, e_nx, e_set, e_ret, e_expr, e_if, e_f2, e_call, e_nil, e_cons, e_c, e_v0, e_vs, e_set0, e_sets, e_tB, e_tru, e_notF, e_neg, b_ok, b_ex, t_ok, t_ex, s_nx, s_rt, s_bk, s_ct, s_ex, o_ok, e_rt, e_fnx, i_add, i_sub, i_mod, Int.reduceLT, i_lt, i_le, i_gt, i_ge, i_eq, i_ne, l_add, t_add, e_r1, e_for, e_lc, e_gN, e_asg, e_tup, e_any, e_tupl, e_frz, ↓reduceIte, Bool.false_eq_true, Bool.not_true, Bool.not_false, e_and, e_or, e_yes, hs, c, truOf]
      refine ⟨x1', ?_⟩
      rw [hb]
      dsimp only
      rw [ih, List.all_cons, c, Bool.true_and]
    | false =>
      have hb : cBody [some t, some (.p x)] ah = .ex 1 [some t, some (.p x)] ah := by
        unfold cBody
        simp only [e_seq, e_nx, e_set, e_ret, e_expr, e_if, e_f2, e_call, e_nil, e_cons, e_c, e_v0, e_vs, e_set0, e_sets, e_tB, e_tru, e_notF, e_neg, b_ok, b_ex, t_ok, t_ex, s_nx, s_rt, s_bk, s_ct, s_ex, o_ok, e_rt, e_fnx, i_add, i_sub, i_mod, Int.reduceLT, i_lt, i_le, i_gt, i_ge, i_eq, i_ne, l_add, t_add, e_r1, e_for, e_lc, e_gN, e_asg, e_tup, e_any, e_tupl, e_frz, ↓reduceIte, Bool.false_eq_true, Bool.not_true, Bool.not_false, e_and, e_or, e_yes, hs, c, truOf, e_raise]
      refine ⟨some (.p x), ?_⟩
      rw [hb]
      dsimp only
      rw [List.all_cons, c, Bool.false_and]
      rfl
theorem chk_head (xs : List PyData) (ah : AH) (h : 1 ≤ xs.length ∧ xs.length ≤ 24) : F_checked [.p (.tuple xs)] ah
    = ((forL (gN 1) cBody (xs.map .p) [some (.p (.tuple xs)), none] ah).seq ((sSeq (sIf (tNotF (tTru (fCall F_rises (aCons (fVar 0) aNil)))) (sRaise 1) sNx) (sRet (fVar 0))))).fin := by
  have h1 : (1 : Int) ≤ (xs.length : Int) := by omega
  have h2 : (xs.length : Int) ≤ 24 := by omega
  rw [E_checked, g_checked, e_seq]
  simp only [e_if, e_or, e_notF, e_tru, e_isi, e_v0, b_ok, tyD, kd6, truOf, e_tB, e_chain, e_call, e_cons, e_nil, e_c, len_t, i_le, decide_eq_true h1, decide_eq_true h2, t_ok, Bool.not_true, Bool.false_eq_true, ↓reduceIte, e_nx, s_nx]
  rw [e_seq, e_for, e_any, e_v0, b_ok]
  rfl
theorem chk_sq (xs : List PyData) (ah : AH) (hp : ∀ x ∈ xs, plain2 x = true) (h : 1 ≤ xs.length ∧ xs.length ≤ 24) (hb : xs.all sqB = false) : F_checked [.p (.tuple xs)] ah = .ex 1 ah := by
  obtain ⟨x1', e⟩ := chk_loop (.p (.tuple xs)) ah xs hp none
  rw [chk_head xs ah h, e, hb, if_neg Bool.false_ne_true, s_ex, e_fex]
def inS (s : Sq) : Prop := 0 ≤ s.1 ∧ s.1 ≤ 7 ∧ 0 ≤ s.2 ∧ s.2 ≤ 7
theorem sqs_ok {l : List Sq} (h : ∀ s ∈ l, inS s) : (l.map esq).all sqB = true := by
  rw [List.all_eq_true]
  intro x hx
  obtain ⟨s, hs, rfl⟩ := List.mem_map.mp hx
  obtain ⟨a, b, c, d⟩ := h s hs
  show (decide (0 ≤ s.1) && decide (s.1 ≤ 7) && (decide (0 ≤ s.2) && decide (s.2 ≤ 7))) = true
  simp [a, b, c, d]
theorem plain_sqs (l : List Sq) : ∀ x ∈ l.map esq, plain2 x = true := by
  intro x hx
  obtain ⟨s, hs, rfl⟩ := List.mem_map.mp hx
  rfl
theorem chk_up (l : List Sq) (ah : AH) (h : ∀ s ∈ l, inS s) (hl : 1 ≤ l.length ∧ l.length ≤ 24) :
    (F_checked [.p (efl l)] ah = .ok (.p (efl l)) ah ∧ ∀ i, (h : i + 1 < l.length) → sqLt (l[i]'(by omega)) l[i + 1]) ∨ (F_checked [.p (efl l)] ah = .ex 1 ah ∧ ∃ i, ∃ h : i + 1 < l.length, ¬ sqLt (l[i]'(by omega)) l[i + 1]) := by
  obtain ⟨x1', e⟩ := chk_loop (.p (efl l)) ah (l.map esq) (plain_sqs l) none
  have hh := chk_head (l.map esq) ah (by rw [List.length_map]; exact hl)
  rw [sqs_ok h, if_pos rfl] at e
  have hx : PyData.tuple (l.map esq) = efl l := rfl
  rw [hx, e, s_nx] at hh
  rcases F_rises_ok l (by omega) ah with ⟨e1, e2⟩ | ⟨e1, e2⟩
  · refine .inl ⟨?_, e2⟩
    rw [hh]
    simp only [e_seq, e_nx, e_set, e_ret, e_expr, e_if, e_f2, e_call, e_nil, e_cons, e_c, e_v0, e_vs, e_set0, e_sets, e_tB, e_tru, e_notF, e_neg, b_ok, b_ex, t_ok, t_ex, s_nx, s_rt, s_bk, s_ct, s_ex, o_ok, e_rt, e_fnx, i_add, i_sub, i_mod, Int.reduceLT, i_lt, i_le, i_gt, i_ge, i_eq, i_ne, l_add, t_add, e_r1, e_for, e_lc, e_gN, e_asg, e_tup, e_any, e_tupl, e_frz, ↓reduceIte, Bool.false_eq_true, Bool.not_true, Bool.not_false, e_and, e_or, e_yes, e1, truOf]
  · refine .inr ⟨?_, e2⟩
    rw [hh]
    simp only [e_seq, e_nx, e_set, e_ret, e_expr, e_if, e_f2, e_call, e_nil, e_cons, e_c, e_v0, e_vs, e_set0, e_sets, e_tB, e_tru, e_notF, e_neg, b_ok, b_ex, t_ok, t_ex, s_nx, s_rt, s_bk, s_ct, s_ex, o_ok, e_rt, e_fnx, i_add, i_sub, i_mod, Int.reduceLT, i_lt, i_le, i_gt, i_ge, i_eq, i_ne, l_add, t_add, e_r1, e_for, e_lc, e_gN, e_asg, e_tup, e_any, e_tupl, e_frz, ↓reduceIte, Bool.false_eq_true, Bool.not_true, Bool.not_false, e_and, e_or, e_yes, e1, truOf, e_raise, e_fex]
theorem chk_flo {l : List Sq} (fl : Flo l) (ah : AH) : F_checked [.p (efl l)] ah = .ok (.p (efl l)) ah := by
  rcases chk_up l ah fl.in_ ⟨List.length_pos_iff.mpr fl.ne, fl.le⟩ with ⟨e, _⟩ | ⟨_, i, h, z⟩
  · exact e
  · exact absurd (List.pairwise_iff_getElem.mp fl.up i (i + 1) (by omega) h (by omega)) z
theorem chk_twice (l : List Sq) (ah : AH) (h : ∀ s ∈ l, inS s) (hl : 1 ≤ l.length ∧ l.length ≤ 25) (i : Nat) (hi : i + 1 < l.length) (z : ¬ sqLt (l[i]'(by omega)) l[i + 1]) : F_checked [.p (efl l)] ah = .ex 1 ah := by
  by_cases h24 : l.length ≤ 24
  · rcases chk_up l ah h ⟨hl.1, h24⟩ with ⟨_, e⟩ | ⟨e, _⟩
    · exact absurd (e i hi) z
    · exact e
  · exact chk_len _ ah (.inr (by rw [List.length_map]; omega))
end DL

set_option Elab.async false
set_option linter.all false
set_option maxRecDepth 100000
/-! MQ: stones, checked layings; a row covers its floor. -/
namespace DL
open PySem PySem.Spec PyProof.Rows L2
theorem le_st (a b : DL.St) (ah : AH) : gLe (.p (est a)) (.p (est b)) ah = .ok (.p (.bool (!decide (stLt b a)))) ah := by
  have h : cmpOk (est a) (est b) = true := by
    unfold cmpOk
    rw [shaped_est, shaped_est]; rfl
  show (if cmpOk (est a) (est b) = true then R.ok (D.p (.bool (!PySem.W.dataLt (est b) (est a)))) ah else .bad) = _
  rw [h, lt_est]; rfl
theorem lt_sq2 (a b : Sq) (ah : AH) : gLt (.p (esq a)) (.p (esq b)) ah = .ok (.p (.bool (decide (sqLt a b)))) ah := by
  have h : cmpOk (esq a) (esq b) = true := by
    unfold cmpOk
    rw [shaped_esq, shaped_esq]; rfl
  show (if cmpOk (esq a) (esq b) = true then R.ok (D.p (.bool (PySem.W.dataLt (esq a) (esq b)))) ah else .bad) = _
  rw [h, lt_esq]; rfl
/-- rises, both answers -/
theorem F_rises_st (l : List DL.St) (hl : l.length ≤ 1000) (ah : AH) :
    (F_rises [.p (ety l)] ah = .ok (.p (.bool true)) ah ∧ ∀ i, (h : i + 1 < l.length) → stLt (l[i]'(by omega)) l[i + 1]) ∨ (F_rises [.p (ety l)] ah = .ok (.p (.bool false)) ah ∧ ∃ i, ∃ h : i + 1 < l.length, ¬ stLt (l[i]'(by omega)) l[i + 1]) := by
  have hn : gLen [.p (ety l)] ah = .ok (.p (.int l.length)) ah := by unfold ety; rw [len_t, List.length_map]
  have ro : (rOk 1 && rOk (l.length : Int)) = true := by
    rw [rOk_nat (n := l.length) (by omega), show rOk 1 = true from rOk_nat (n := 1) (by decide)]; rfl
  have hr : rangeD 1 ((l.length : Int) - 1).toNat = (List.range (l.length - 1)).map fun (i : Nat) => D.p (.int (1 + (i : Int))) := by
    unfold rangeD
    rw [show ((l.length : Int) - 1).toNat = l.length - 1 by omega]
  rcases for_rt (σ := [some (D.p (ety l)), none]) (ah := ah) (gt := gN 1) (f := (sIf (tB (f2 gLe (f2 gSub2 (fVar 0) (fVar 1)) (f2 gSub2 (fVar 0) (f2 gSub (fVar 1) (fC (.int 1)))))) (sRet (fC (.bool false))) sNx)) (fun (i : Nat) => D.p (.int (1 + (i : Int))))
    (fun done σ ah' => ah' = ah ∧ (∃ x, σ = [some (D.p (ety l)), x]) ∧ ∀ i ∈ done, ∃ h : i + 1 < l.length, stLt (l[i]'(by omega)) l[i + 1])
    (fun d ah' => d = .p (.bool false) ∧ ah' = ah ∧ ∃ i, ∃ h : i + 1 < l.length, ¬ stLt (l[i]'(by omega)) l[i + 1]) (List.range (l.length - 1))
    (by
      intro done i rest e σ ah' hI
      obtain ⟨rfl, ⟨x, rfl⟩, hd⟩ := hI
      have hi : i + 1 < l.length := by
        have : i ∈ List.range (l.length - 1) := by rw [e]; simp
        rw [List.mem_range] at this
        omega
      have g1 : gSub2 (.p (ety l)) (.p (.int (1 + (i : Int)))) ah' = .ok (.p (est l[i + 1])) ah' := by
        rw [show (1 : Int) + (i : Int) = ((i + 1 : Nat) : Int) by omega]
        exact sub_tup (by rw [List.getElem?_map, List.getElem?_eq_getElem hi]; rfl) ah'
      have g0 : gSub2 (.p (ety l)) (.p (.int (1 + (i : Int) - 1))) ah' = .ok (.p (est (l[i]'(by omega)))) ah' := by
        rw [show (1 : Int) + (i : Int) - 1 = (i : Int) by omega]
        exact sub_tup (by rw [List.getElem?_map, List.getElem?_eq_getElem (by omega)]; rfl) ah'
      refine ⟨[some (D.p (ety l)), some (.p (.int (1 + (i : Int))))], rfl, ?_⟩
      by_cases c : stLt (l[i]'(by omega)) l[i + 1]
      · refine .inl ⟨[some (D.p (ety l)), some (.p (.int (1 + (i : Int))))], ah', .inl ?_, rfl, ⟨some (.p (.int (1 + (i : Int)))), rfl⟩, ?_⟩
        · simp only [e_seq, e_nx, e_set, e_ret, e_expr, e_if, e_f2, e_call, e_nil, e_cons, e_c, e_v0, e_vs, e_set0, e_sets, e_tB, e_tru, e_notF, e_neg, b_ok, b_ex, t_ok, t_ex, s_nx, s_rt, s_bk, s_ct, s_ex, o_ok, e_rt, e_fnx, i_add, i_sub, i_mod, Int.reduceLT, i_lt, i_le, i_gt, i_ge, i_eq, i_ne, l_add, t_add, e_r1, e_for, e_lc, e_gN, e_asg, e_tup, e_any, e_tupl, e_frz, ↓reduceIte, Bool.false_eq_true, Bool.not_true, Bool.not_false, e_and, e_or, e_yes, g1, g0, le_st, decide_eq_true c]
        · intro j hj
          rcases List.mem_append.mp hj with hj | hj
          · exact hd j hj
          · rw [List.mem_singleton] at hj
            subst hj
            exact ⟨hi, c⟩
      · refine .inr ⟨.p (.bool false), ah', ?_, rfl, rfl, i, hi, c⟩
        simp only [e_seq, e_nx, e_set, e_ret, e_expr, e_if, e_f2, e_call, e_nil, e_cons, e_c, e_v0, e_vs, e_set0, e_sets, e_tB, e_tru, e_notF, e_neg, b_ok, b_ex, t_ok, t_ex, s_nx, s_rt, s_bk, s_ct, s_ex, o_ok, e_rt, e_fnx, i_add, i_sub, i_mod, Int.reduceLT, i_lt, i_le, i_gt, i_ge, i_eq, i_ne, l_add, t_add, e_r1, e_for, e_lc, e_gN, e_asg, e_tup, e_any, e_tupl, e_frz, ↓reduceIte, Bool.false_eq_true, Bool.not_true, Bool.not_false, e_and, e_or, e_yes, g1, g0, le_st, decide_eq_false c])
    ⟨rfl, ⟨none, rfl⟩, fun i hi => by cases hi⟩ with ⟨σ', ah', e1, rfl, ⟨x, rfl⟩, e2⟩ | ⟨d, ah', e1, rfl, rfl, e2⟩
  · refine .inl ⟨?_, fun i h => ?_⟩
    · rw [E_rises, g_rises, e_seq]
      simp only [e_for, e_r2, e_call, e_cons, e_nil, e_c, e_v0, b_ok, hn, ro, ↓reduceIte, t_ok, hr, e1, s_nx, e_ret, e_rt]
    · obtain ⟨_, h2⟩ := e2 i (List.mem_range.mpr (by omega))
      exact h2
  · refine .inr ⟨?_, e2⟩
    rw [E_rises, g_rises, e_seq]
    simp only [e_for, e_r2, e_call, e_cons, e_nil, e_c, e_v0, b_ok, hn, ro, ↓reduceIte, t_ok, hr, e1, s_rt, e_rt]
theorem evF_nodups : ∀ (n : Nat) (l : List Sq), l.Pairwise sqLt → ∀ row ∈ evF n l, row.Nodup
  | 0, _, _, row, h => by cases h
  | n + 1, l, up, row, h => by
    cases e : l.getLast? with
    | none =>
      unfold evF at h
      rw [e, List.mem_singleton] at h
      subst h
      exact List.nodup_nil
    | some m =>
      rw [evF_some e] at h
      obtain ⟨o, ho, h2⟩ := List.mem_flatMap.mp h
      obtain ⟨r, hr, rfl⟩ := List.mem_map.mp h2
      rw [List.nodup_append]
      refine ⟨evF_nodups n _ (up.sublist (rm_sub ..)) r hr, by simp, ?_⟩
      intro x hx y hy
      rw [List.mem_singleton] at hy
      subst hy
      rintro rfl
      exact (mem_rm.mp (evF_stone n _ (up.sublist (rm_sub ..)) r hr _ hx).2.1).2.1 rfl
/-! a row covers its floor -/
def sqs (r : List DL.St) : List Sq := r.flatMap fun x => [x.1, x.2]
theorem rm_perm {l : List Sq} {a b : Sq} (nd : l.Nodup) (ha : a ∈ l) (hb : b ∈ l) (h : a ≠ b) : (rm l a b ++ [b, a]).Perm l := by
  refine (List.perm_ext_iff_of_nodup ?_ nd).mpr fun x => ?_
  · rw [List.nodup_append]
    refine ⟨nd.sublist (rm_sub ..), by simp [Ne.symm h], ?_⟩
    intro x hx y hy z
    subst z
    have := mem_rm.mp hx
    simp only [List.mem_cons, List.not_mem_nil, or_false] at hy
    rcases hy with rfl | rfl
    · exact this.2.2 rfl
    · exact this.2.1 rfl
  · rw [List.mem_append, mem_rm]
    simp only [List.mem_cons, List.not_mem_nil, or_false]
    constructor
    · rintro (h1 | rfl | rfl)
      · exact h1.1
      · exact hb
      · exact ha
    · intro h1
      by_cases e1 : x = a
      · exact .inr (.inr e1)
      · by_cases e2 : x = b
        · exact .inr (.inl e2)
        · exact .inl ⟨h1, e1, e2⟩
theorem evF_cover : ∀ (n : Nat) (l : List Sq), l.Nodup → ∀ row ∈ evF n l, (sqs row).Perm l
  | 0, _, _, row, h => by cases h
  | n + 1, l, nd, row, h => by
    cases e : l.getLast? with
    | none =>
      have hl : l = [] := List.getLast?_eq_none_iff.mp e
      subst hl
      unfold evF at h
      rw [List.getLast?_nil, List.mem_singleton] at h
      subst h
      exact List.Perm.refl _
    | some m =>
      rw [evF_some e] at h
      obtain ⟨o, ho, h2⟩ := List.mem_flatMap.mp h
      obtain ⟨r, hr, rfl⟩ := List.mem_map.mp h2
      obtain ⟨h3, h4⟩ := nb_mem ho
      have ih := evF_cover n _ (nd.sublist (rm_sub l m o)) r hr
      unfold sqs at ih ⊢
      rw [List.flatMap_append, List.flatMap_cons, List.flatMap_nil, List.append_nil]
      exact (ih.append_right [o, m]).trans (rm_perm nd (last_mem e) h3 fun z => nbs_ne m o h4 z.symm)
/-- a good stone -/
structure GSt (x : DL.St) : Prop where
  a : inS x.1
  b : inS x.2
  n : x.2 ∈ nbs x.1
  l : sqLt x.1 x.2
/-- a laying of l -/
structure Lay (l : List Sq) (M : List DL.St) : Prop where
  g : ∀ x ∈ M, GSt x
  up : M.Pairwise stLt
  c : (sqs M).Perm l
theorem sqs_len (M : List DL.St) : (sqs M).length = 2 * M.length := by
  induction M with
  | nil => rfl
  | cons x r ih =>
    have : sqs (x :: r) = x.1 :: x.2 :: sqs r := rfl
    rw [this, List.length_cons, List.length_cons, List.length_cons, ih]
    omega
theorem sqs_perm {M N : List DL.St} (h : M.Perm N) : (sqs M).Perm (sqs N) := h.flatMap_right _
theorem lay_of {l : List Sq} (fl : Flo l) {rs : List (List DL.St)} (p : rs.Perm ((evF 26 l).map srt)) : ∀ M ∈ rs, Lay l M := fun M hM => by
  obtain ⟨r, hr, rfl⟩ := List.mem_map.mp (p.mem_iff.mp hM)
  refine ⟨fun x hx => ?_, srt_up (evF_nodups 26 l fl.up r hr), (sqs_perm (srt_perm r)).trans (evF_cover 26 l (up_nd fl.up) r hr)⟩
  have hx' := (srt_perm r).mem_iff.mp hx
  obtain ⟨h1, h2, h3, h4⟩ := evF_stone 26 l fl.up r hr x hx'
  exact ⟨fl.in_ _ h1, fl.in_ _ h2, h3, h4⟩
/-! squares, sorted -/
def srtq (r : List Sq) : List Sq := r.mergeSort fun a b => !decide (sqLt b a)
theorem srtq_data (r : List Sq) : sortD (r.map esq) = (srtq r).map esq := by
  unfold sortD srtq
  refine (List.map_mergeSort fun a _ b _ => ?_).symm
  show (!decide (sqLt b a)) = !PySem.W.dataLt (esq b) (esq a)
  rw [lt_esq]
theorem srtq_perm (r : List Sq) : (srtq r).Perm r := List.mergeSort_perm ..
theorem srtq_up {r : List Sq} (nd : r.Nodup) : (srtq r).Pairwise sqLt := by
  have h1 : (srtq r).Pairwise fun a b => (!decide (sqLt b a)) = true := List.pairwise_mergeSort (fun a b c h k => by
    simp only [Bool.not_eq_true', decide_eq_false_iff_not] at *
    intro z
    rcases sqLt_tri a b h with rfl | h
    · exact k z
    · rcases sqLt_tri b c k with rfl | k
      · exact sqLt_irr (sqLt_trans z h)
      · exact sqLt_irr (sqLt_trans z (sqLt_trans h k))) (fun a b => by
    by_cases z : sqLt b a
    · have : ¬ sqLt a b := fun y => sqLt_irr (sqLt_trans z y)
      simp [this]
    · simp [z]) r
  have h2 : (srtq r).Nodup := (srtq_perm r).nodup_iff.mpr nd
  unfold List.Nodup at h2
  refine (h1.and h2).imp fun {a b} ⟨x, y⟩ => ?_
  simp only [Bool.not_eq_true', decide_eq_false_iff_not] at x
  rcases sqLt_tri a b x with z | z
  · exact absurd z y
  · exact z
theorem srtq_eq {q l : List Sq} (p : q.Perm l) (up : l.Pairwise sqLt) : srtq q = l := by
  have nd := up_nd up
  have ndq := p.nodup_iff.mpr nd
  exact List.Perm.eq_of_pairwise (fun a b _ _ x y => (sqLt_irr (sqLt_trans x y)).elim) (srtq_up ndq) up ((srtq_perm q).trans p)
theorem sortOk_esqs (r : List Sq) (h : r.length ≤ 16777216) : sortOk (r.map esq) = true := by
  unfold sortOk
  rw [shaped_lst, List.length_map, decide_eq_true h, Bool.and_true, Bool.and_true]
  have h1 : allAlike (r.map esq) = true := by
    unfold allAlike
    rw [List.all_eq_true]
    intro x hx
    rw [List.all_eq_true]
    intro y hy
    obtain ⟨a, _, rfl⟩ := List.mem_map.mp hx
    obtain ⟨b, _, rfl⟩ := List.mem_map.mp hy
    exact alike_esq a b
  have h2 : (r.map esq).all tupNE = true := by
    rw [List.all_eq_true]
    intro x hx
    obtain ⟨a, _, rfl⟩ := List.mem_map.mp hx
    rfl
  rw [h1, h2]; rfl
def fsq (q : List Sq) : AO := .lst ((q.map esq).map .p)
theorem sorted_ref {ah : AH} {q : List Sq} (h : q.length ≤ 16777216) : gSortedL [.r ah.length] (ah ++ [fsq q]) = .ok (.p (.list ((srtq q).map esq))) (ah ++ [fsq q]) := by
  have e : dataOf (ah ++ [fsq q]) (.r ah.length) = some (.list (q.map esq)) := by
    unfold dataOf fsq
    simp only [get_last, pures_p]
    rfl
  unfold gSortedL
  dsimp only
  rw [e]
  show (if sortOk (q.map esq) = true then R.ok (D.p (.list (sortD (q.map esq)))) _ else .bad) = _
  rw [if_pos (sortOk_esqs q h), srtq_data]
theorem ne_fl (q l : List Sq) (ah : AH) : gNe (.p (efl q)) (.p (efl l)) ah = .ok (.p (.bool (!decide (q = l)))) ah := by
  have hv : ∀ q l : List Sq, PyData.eqvAll (q.map esq) (l.map esq) = decide (q = l) := by
    intro q
    induction q with
    | nil => intro l; cases l <;> simp [PyData.eqvAll]
    | cons a q ih =>
      intro l
      cases l with
      | nil => simp [PyData.eqvAll]
      | cons b l =>
        rw [List.map_cons, List.map_cons, PyData.eqvAll, eqv_esq, ih l]
        by_cases h1 : a = b <;> by_cases h2 : q = l <;> simp [h1, h2]
  show (if (SeqAt.shaped (efl q) && SeqAt.shaped (efl l)) = true then R.ok (D.p (.bool (!PyData.eqvAll (q.map esq) (l.map esq)))) ah else .bad) = _
  rw [shaped_efl, shaped_efl, Bool.and_self, if_pos rfl, hv]
/-! is_stone -/
theorem sq_in {s : Sq} (h : inS s) : sqB (esq s) = true := by
  obtain ⟨a, b, c, d⟩ := h
  show (decide (0 ≤ s.1) && decide (s.1 ≤ 7) && (decide (0 ≤ s.2) && decide (s.2 ≤ 7))) = true
  simp [a, b, c, d]
theorem st_no (d : PyData) (ah : AH) (h : ∃ u, tyD ah (.p d) = some u ∧ kitB u "tuple" = some false) : F_is_stone [.p d] ah = .ok (.p (.bool false)) ah := by
  obtain ⟨u, h1, h2⟩ := h
  rw [E_is_stone, g_is_stone]
  simp only [e_seq, e_nx, e_set, e_ret, e_expr, e_if, e_f2, e_call, e_nil, e_cons, e_c, e_v0, e_vs, e_set0, e_sets, e_tB, e_tru, e_notF, e_neg, b_ok, b_ex, t_ok, t_ex, s_nx, s_rt, s_bk, s_ct, s_ex, o_ok, e_rt, e_fnx, i_add, i_sub, i_mod, Int.reduceLT, i_lt, i_le, i_gt, i_ge, i_eq, i_ne, l_add, t_add, e_r1, e_for, e_lc, e_gN, e_asg, e_tup, e_any, e_tupl, e_frz, ↓reduceIte, Bool.false_eq_true, Bool.not_true, Bool.not_false, e_and, e_or, e_yes, e_isi, h1, h2, truOf]
theorem st_len (xs : List PyData) (ah : AH) (h : xs.length ≠ 2) : F_is_stone [.p (.tuple xs)] ah = .ok (.p (.bool false)) ah := by
  have h' : ¬ (xs.length : Int) = 2 := by omega
  rw [E_is_stone, g_is_stone]
  simp only [e_seq, e_nx, e_set, e_ret, e_expr, e_if, e_f2, e_call, e_nil, e_cons, e_c, e_v0, e_vs, e_set0, e_sets, e_tB, e_tru, e_notF, e_neg, b_ok, b_ex, t_ok, t_ex, s_nx, s_rt, s_bk, s_ct, s_ex, o_ok, e_rt, e_fnx, i_add, i_sub, i_mod, Int.reduceLT, i_lt, i_le, i_gt, i_ge, i_eq, i_ne, l_add, t_add, e_r1, e_for, e_lc, e_gN, e_asg, e_tup, e_any, e_tupl, e_frz, ↓reduceIte, Bool.false_eq_true, Bool.not_true, Bool.not_false, e_and, e_or, e_yes, e_isi, tyD, kd6, truOf, len_t, decide_eq_false h']
theorem st_sq (x y : PyData) (ah : AH) (hx : plain2 x = true) (hy : plain2 y = true) (h : sqB x = false ∨ sqB y = false) : F_is_stone [.p (.tuple [x, y])] ah = .ok (.p (.bool false)) ah := by
  have t0 : ∀ ah, gSub2 (.p (.tuple [x, y])) (.p (.int 0)) ah = .ok (.p x) ah := fun ah => sub_tup (k := 0) rfl ah
  have t1 : ∀ ah, gSub2 (.p (.tuple [x, y])) (.p (.int 1)) ah = .ok (.p y) ah := fun ah => sub_tup (k := 1) rfl ah
  have hl : (([x, y] : List PyData).length : Int) = 2 := rfl
  rw [E_is_stone, g_is_stone]
  cases c : sqB x with
  | false => simp only [e_seq, e_nx, e_set, e_ret, e_expr, e_if, e_f2, e_call, e_nil, e_cons, e_c, e_v0, e_vs, e_set0, e_sets, e_tB, e_tru, e_notF, e_neg, b_ok, b_ex, t_ok, t_ex, s_nx, s_rt, s_bk, s_ct, s_ex, o_ok, e_rt, e_fnx, i_add, i_sub, i_mod, Int.reduceLT, i_lt, i_le, i_gt, i_ge, i_eq, i_ne, l_add, t_add, e_r1, e_for, e_lc, e_gN, e_asg, e_tup, e_any, e_tupl, e_frz, ↓reduceIte, Bool.false_eq_true, Bool.not_true, Bool.not_false, e_and, e_or, e_yes, e_isi, tyD, kd6, truOf, len_t, hl, decide_true, t0, t1, F_square_ok x hx, F_square_ok y hy, c]
  | true =>
    have c2 : sqB y = false := by rcases h with h | h; rw [c] at h; cases h; exact h
    simp only [e_seq, e_nx, e_set, e_ret, e_expr, e_if, e_f2, e_call, e_nil, e_cons, e_c, e_v0, e_vs, e_set0, e_sets, e_tB, e_tru, e_notF, e_neg, b_ok, b_ex, t_ok, t_ex, s_nx, s_rt, s_bk, s_ct, s_ex, o_ok, e_rt, e_fnx, i_add, i_sub, i_mod, Int.reduceLT, i_lt, i_le, i_gt, i_ge, i_eq, i_ne, l_add, t_add, e_r1, e_for, e_lc, e_gN, e_asg, e_tup, e_any, e_tupl, e_frz, ↓reduceIte, Bool.false_eq_true, Bool.not_true, Bool.not_false, e_and, e_or, e_yes, e_isi, tyD, kd6, truOf, len_t, hl, decide_true, t0, t1, F_square_ok x hx, F_square_ok y hy, c, c2]
theorem in_nbs (s t : Sq) (ah : AH) : gIn (.p (esq t)) (.p (.list ((nbs s).map esq))) ah = .ok (.p (.bool (decide (t ∈ nbs s)))) ah := by
  have h : inOf ah (.p (esq t)) (.p (.list ((nbs s).map esq))) = some (decide (t ∈ nbs s)) := by
    unfold inOf
    show (if (SeqAt.shaped (esq t) && SeqAt.shaped (.list ((nbs s).map esq))) = true then some (((nbs s).map esq).any fun y => PyData.eqv y (esq t)) else none) = _
    rw [shaped_esq, shaped_lst, Bool.and_self, if_pos rfl, any_esq]
  unfold gIn
  rw [h]
theorem st_two (s t : Sq) (ah : AH) (hs : inS s) (ht : inS t) : F_is_stone [.p (.tuple [esq s, esq t])] ah = .ok (.p (.bool (decide (t ∈ nbs s) && decide (sqLt s t)))) ah := by
  have t0 : ∀ ah, gSub2 (.p (.tuple [esq s, esq t])) (.p (.int 0)) ah = .ok (.p (esq s)) ah := fun ah => sub_tup (k := 0) rfl ah
  have t1 : ∀ ah, gSub2 (.p (.tuple [esq s, esq t])) (.p (.int 1)) ah = .ok (.p (esq t)) ah := fun ah => sub_tup (k := 1) rfl ah
  have hl : (([esq s, esq t] : List PyData).length : Int) = 2 := rfl
  rw [E_is_stone, g_is_stone]
  simp only [e_seq, e_nx, e_set, e_ret, e_expr, e_if, e_f2, e_call, e_nil, e_cons, e_c, e_v0, e_vs, e_set0, e_sets, e_tB, e_tru, e_notF, e_neg, b_ok, b_ex, t_ok, t_ex, s_nx, s_rt, s_bk, s_ct, s_ex, o_ok, e_rt, e_fnx, i_add, i_sub, i_mod, Int.reduceLT, i_lt, i_le, i_gt, i_ge, i_eq, i_ne, l_add, t_add, e_r1, e_for, e_lc, e_gN, e_asg, e_tup, e_any, e_tupl, e_frz, ↓reduceIte, Bool.false_eq_true, Bool.not_true, Bool.not_false, e_and, e_or, e_yes, e_isi, tyD, kd6, truOf, len_t, hl, decide_true, t0, t1, F_square_ok (esq s) rfl, F_square_ok (esq t) rfl, sq_in hs, sq_in ht, e_fAnd, F_beside_eq, in_nbs]
  by_cases h : t ∈ nbs s
  · simp only [e_seq, e_nx, e_set, e_ret, e_expr, e_if, e_f2, e_call, e_nil, e_cons, e_c, e_v0, e_vs, e_set0, e_sets, e_tB, e_tru, e_notF, e_neg, b_ok, b_ex, t_ok, t_ex, s_nx, s_rt, s_bk, s_ct, s_ex, o_ok, e_rt, e_fnx, i_add, i_sub, i_mod, Int.reduceLT, i_lt, i_le, i_gt, i_ge, i_eq, i_ne, l_add, t_add, e_r1, e_for, e_lc, e_gN, e_asg, e_tup, e_any, e_tupl, e_frz, ↓reduceIte, Bool.false_eq_true, Bool.not_true, Bool.not_false, e_and, e_or, e_yes, decide_eq_true h, t0, t1, lt_sq2, Bool.true_and]
  · simp only [e_seq, e_nx, e_set, e_ret, e_expr, e_if, e_f2, e_call, e_nil, e_cons, e_c, e_v0, e_vs, e_set0, e_sets, e_tB, e_tru, e_notF, e_neg, b_ok, b_ex, t_ok, t_ex, s_nx, s_rt, s_bk, s_ct, s_ex, o_ok, e_rt, e_fnx, i_add, i_sub, i_mod, Int.reduceLT, i_lt, i_le, i_gt, i_ge, i_eq, i_ne, l_add, t_add, e_r1, e_for, e_lc, e_gN, e_asg, e_tup, e_any, e_tupl, e_frz, ↓reduceIte, Bool.false_eq_true, Bool.not_true, Bool.not_false, e_and, e_or, e_yes, decide_eq_false h, Bool.false_and]
theorem st_good {x : DL.St} (g : GSt x) (ah : AH) : F_is_stone [.p (est x)] ah = .ok (.p (.bool true)) ah := by
  have := st_two x.1 x.2 ah g.a g.b
  rw [decide_eq_true g.n, decide_eq_true g.l] at this
  exact this
/-! checked_laying -/
theorem ext_last {ah : AH} {q : List Sq} {x : DL.St} (h : q.length ≤ 1000) : gExtend (.r ah.length) [.p (est x)] (ah ++ [fsq q]) = .ok (.p .none) (ah ++ [fsq (q ++ [x.1, x.2])]) := by
  unfold gExtend est fsq
  dsimp only
  rw [get_last]
  dsimp only
  rw [if_pos (by simp only [List.length_map, List.length_cons, List.length_nil]; omega), set_last, List.map_append, List.map_append]
  rfl
def lBody : SF := (sSeq (sIf (tNotF (tTru (fCall F_is_stone (aCons (fVar 3) aNil)))) (sRaise 2) sNx) (sExpr (fMt isL gExtend (fVar 2) (aCons (fVar 3) aNil))))
theorem isL_fsq {ah : AH} {q : List Sq} : isL (ah ++ [fsq q]) (.r ah.length) = true := isL_last
theorem cl_good (f l : D) (ah : AH) : ∀ (ms : List DL.St), (∀ x ∈ ms, GSt x) → ∀ (q : List Sq) (x3 : Option D), q.length + 2 * ms.length ≤ 1000 → ∃ x3', forL (gN 3) lBody ((ms.map est).map .p) [some f, some l, some (.r ah.length), x3] (ah ++ [fsq q]) = .nx [some f, some l, some (.r ah.length), x3'] (ah ++ [fsq (q ++ sqs ms)])
  | [], _, q, x3, _ => ⟨x3, by show O.nx _ _ = O.nx _ (ah ++ [fsq (q ++ [])]); rw [List.append_nil]⟩
  | x :: ms, h, q, x3, hl => by
    rw [List.length_cons] at hl
    obtain ⟨x3', ih⟩ := cl_good f l ah ms (fun y hy => h y (List.mem_cons_of_mem _ hy)) (q ++ [x.1, x.2]) (some (.p (est x))) (by simp only [List.length_append, List.length_cons, List.length_nil]; omega)
    refine ⟨x3', ?_⟩
    have hb : lBody [some f, some l, some (.r ah.length), some (.p (est x))] (ah ++ [fsq q]) = .nx [some f, some l, some (.r ah.length), some (.p (est x))] (ah ++ [fsq (q ++ [x.1, x.2])]) := by
      unfold lBody
      simp only [e_seq, e_nx, e_set, e_ret, e_expr, e_if, e_f2, e_call, e_nil, e_cons, e_c, e_v0, e_vs, e_set0, e_sets, e_tB, e_tru, e_notF, e_neg, b_ok, b_ex, t_ok, t_ex, s_nx, s_rt, s_bk, s_ct, s_ex, o_ok, e_rt, e_fnx, i_add, i_sub, i_mod, Int.reduceLT, i_lt, i_le, i_gt, i_ge, i_eq, i_ne, l_add, t_add, e_r1, e_for, e_lc, e_gN, e_asg, e_tup, e_any, e_tupl, e_frz, ↓reduceIte, Bool.false_eq_true, Bool.not_true, Bool.not_false, e_and, e_or, e_yes, st_good (h x List.mem_cons_self), truOf, e_fMt, isL_fsq, ext_last (show q.length ≤ 1000 by omega)]
    rw [List.map_cons, List.map_cons, e_for_cons, e_gN]
    have hset : ([some f, some l, some (.r ah.length), x3] : DS).set 3 (some (.p (est x))) = [some f, some l, some (.r ah.length), some (.p (est x))] := rfl
    rw [hset]
    dsimp only
    rw [hb]
    dsimp only
    rw [ih, List.append_assoc]
    rfl
theorem cl_bad (f l : D) (ah : AH) (d : PyData) (hd : ∀ ah, F_is_stone [.p d] ah = .ok (.p (.bool false)) ah) (rest : List PyData) : ∀ (ms : List DL.St), (∀ x ∈ ms, GSt x) → ∀ (q : List Sq) (x3 : Option D), q.length + 2 * ms.length ≤ 1000 → ∃ σ ah', forL (gN 3) lBody ((ms.map est ++ d :: rest).map .p) [some f, some l, some (.r ah.length), x3] (ah ++ [fsq q]) = .ex 2 σ ah'
  | [], _, q, x3, _ => by
    have hb : lBody [some f, some l, some (.r ah.length), some (.p d)] (ah ++ [fsq q]) = .ex 2 [some f, some l, some (.r ah.length), some (.p d)] (ah ++ [fsq q]) := by
      unfold lBody
      simp only [e_seq, e_nx, e_set, e_ret, e_expr, e_if, e_f2, e_call, e_nil, e_cons, e_c, e_v0, e_vs, e_set0, e_sets, e_tB, e_tru, e_notF, e_neg, b_ok, b_ex, t_ok, t_ex, s_nx, s_rt, s_bk, s_ct, s_ex, o_ok, e_rt, e_fnx, i_add, i_sub, i_mod, Int.reduceLT, i_lt, i_le, i_gt, i_ge, i_eq, i_ne, l_add, t_add, e_r1, e_for, e_lc, e_gN, e_asg, e_tup, e_any, e_tupl, e_frz, ↓reduceIte, Bool.false_eq_true, Bool.not_true, Bool.not_false, e_and, e_or, e_yes, hd, truOf, e_raise]
    refine ⟨[some f, some l, some (.r ah.length), some (.p d)], ah ++ [fsq q], ?_⟩
    · rw [List.map_nil, List.nil_append, List.map_cons, e_for_cons, e_gN]
      have hset : ([some f, some l, some (.r ah.length), x3] : DS).set 3 (some (.p d)) = [some f, some l, some (.r ah.length), some (.p d)] := rfl
      rw [hset]
      dsimp only
      rw [hb]
  | x :: ms, h, q, x3, hl => by
    rw [List.length_cons] at hl
    obtain ⟨σ, ah', ih⟩ := cl_bad f l ah d hd rest ms (fun y hy => h y (List.mem_cons_of_mem _ hy)) (q ++ [x.1, x.2]) (some (.p (est x))) (by simp only [List.length_append, List.length_cons, List.length_nil]; omega)
    refine ⟨σ, ah', ?_⟩
    have hb : lBody [some f, some l, some (.r ah.length), some (.p (est x))] (ah ++ [fsq q]) = .nx [some f, some l, some (.r ah.length), some (.p (est x))] (ah ++ [fsq (q ++ [x.1, x.2])]) := by
      unfold lBody
      simp only [e_seq, e_nx, e_set, e_ret, e_expr, e_if, e_f2, e_call, e_nil, e_cons, e_c, e_v0, e_vs, e_set0, e_sets, e_tB, e_tru, e_notF, e_neg, b_ok, b_ex, t_ok, t_ex, s_nx, s_rt, s_bk, s_ct, s_ex, o_ok, e_rt, e_fnx, i_add, i_sub, i_mod, Int.reduceLT, i_lt, i_le, i_gt, i_ge, i_eq, i_ne, l_add, t_add, e_r1, e_for, e_lc, e_gN, e_asg, e_tup, e_any, e_tupl, e_frz, ↓reduceIte, Bool.false_eq_true, Bool.not_true, Bool.not_false, e_and, e_or, e_yes, st_good (h x List.mem_cons_self), truOf, e_fMt, isL_fsq, ext_last (show q.length ≤ 1000 by omega)]
    rw [List.map_cons, List.cons_append, List.map_cons, e_for_cons, e_gN]
    have hset : ([some f, some l, some (.r ah.length), x3] : DS).set 3 (some (.p (est x))) = [some f, some l, some (.r ah.length), some (.p (est x))] := rfl
    rw [hset]
    dsimp only
    rw [hb]
    dsimp only
    exact ih
theorem cl_no (f : D) (d : PyData) (ah : AH) (h : ∃ u, tyD ah (.p d) = some u ∧ kitB u "tuple" = some false) : ∃ ah', F_checked_laying [f, .p d] ah = .ex 2 ah' := by
  obtain ⟨u, h1, h2⟩ := h
  refine ⟨ah, ?_⟩
  rw [E_checked_laying, g_checked_laying]
  simp only [e_seq, e_nx, e_set, e_ret, e_expr, e_if, e_f2, e_call, e_nil, e_cons, e_c, e_v0, e_vs, e_set0, e_sets, e_tB, e_tru, e_notF, e_neg, b_ok, b_ex, t_ok, t_ex, s_nx, s_rt, s_bk, s_ct, s_ex, o_ok, e_rt, e_fnx, i_add, i_sub, i_mod, Int.reduceLT, i_lt, i_le, i_gt, i_ge, i_eq, i_ne, l_add, t_add, e_r1, e_for, e_lc, e_gN, e_asg, e_tup, e_any, e_tupl, e_frz, ↓reduceIte, Bool.false_eq_true, Bool.not_true, Bool.not_false, e_and, e_or, e_yes, e_isi, h1, h2, truOf, e_raise, e_fex]
theorem cl_head (f : D) (xs : List PyData) (ah : AH) : F_checked_laying [f, .p (.tuple xs)] ah
    = ((forL (gN 3) lBody (xs.map .p) [some f, some (.p (.tuple xs)), some (.r ah.length), none] (ah ++ [fsq []])).seq ((sSeq (sIf (tOrF (tNotF (tTru (fCall F_rises (aCons (fVar 1) aNil)))) (tB (f2 gNe (fCall gTuple (aCons (fCall gSortedL (aCons (fVar 2) aNil)) aNil)) (fVar 0)))) (sRaise 2) sNx) (sRet (fVar 1))))).fin := by
  rw [E_checked_laying, g_checked_laying, e_seq]
  simp only [e_if, e_notF, e_tru, e_isi, e_vs, e_v0, b_ok, tyD, kd6, truOf, t_ok, Bool.not_true, Bool.false_eq_true, ↓reduceIte, e_nx, s_nx]
  rw [e_seq]
  simp only [e_set, e_lstM, e_nil, b_ok, List.length_nil, Nat.zero_le, ↓reduceIte, e_set0, e_sets, t_ok, s_nx]
  rw [e_seq, e_for, e_any, e_vs, e_v0, b_ok]
  rfl
theorem cl_stone (f : D) (ms : List DL.St) (hm : ∀ x ∈ ms, GSt x) (hl : ms.length ≤ 400) (d : PyData) (hd : ∀ ah, F_is_stone [.p d] ah = .ok (.p (.bool false)) ah) (rest : List PyData) (ah : AH) : ∃ ah', F_checked_laying [f, .p (.tuple (ms.map est ++ d :: rest))] ah = .ex 2 ah' := by
  obtain ⟨σ, ah', e⟩ := cl_bad f (.p (.tuple (ms.map est ++ d :: rest))) ah d hd rest ms hm [] none (by rw [List.length_nil]; omega)
  exact ⟨ah', by rw [cl_head, e, s_ex, e_fex]⟩
/-- good stones: by the order, by the squares -/
theorem cl_rest (l : List Sq) (M : List DL.St) (hm : ∀ x ∈ M, GSt x) (hl : M.length ≤ 400) (ah : AH) :
    ((∀ i, (h : i + 1 < M.length) → stLt (M[i]'(by omega)) M[i + 1]) ∧ srtq (sqs M) = l ∧ ∃ ah', F_checked_laying [.p (efl l), .p (ety M)] ah = .ok (.p (ety M)) ah') ∨
    (((∃ i, ∃ h : i + 1 < M.length, ¬ stLt (M[i]'(by omega)) M[i + 1]) ∨ srtq (sqs M) ≠ l) ∧ ∃ ah', F_checked_laying [.p (efl l), .p (ety M)] ah = .ex 2 ah') := by
  obtain ⟨x3', e⟩ := cl_good (.p (efl l)) (.p (ety M)) ah M hm [] none (by rw [List.length_nil]; omega)
  rw [List.nil_append] at e
  have hh := cl_head (.p (efl l)) (M.map est) ah
  have hx : PyData.tuple (M.map est) = ety M := rfl
  rw [hx, e, s_nx] at hh
  have hq : (sqs M).length ≤ 16777216 := by rw [sqs_len]; omega
  have hs := sorted_ref (ah := ah) hq
  have ht : ∀ ah', gTuple [.p (.list ((srtq (sqs M)).map esq))] ah' = .ok (.p (efl (srtq (sqs M)))) ah' := fun ah' => rfl
  rcases F_rises_st M (by omega) (ah ++ [fsq (sqs M)]) with ⟨r1, r2⟩ | ⟨r1, r2⟩
  · by_cases c : srtq (sqs M) = l
    · refine .inl ⟨r2, c, ah ++ [fsq (sqs M)], ?_⟩
      rw [hh]
      simp only [e_seq, e_nx, e_set, e_ret, e_expr, e_if, e_f2, e_call, e_nil, e_cons, e_c, e_v0, e_vs, e_set0, e_sets, e_tB, e_tru, e_notF, e_neg, b_ok, b_ex, t_ok, t_ex, s_nx, s_rt, s_bk, s_ct, s_ex, o_ok, e_rt, e_fnx, i_add, i_sub, i_mod, Int.reduceLT, i_lt, i_le, i_gt, i_ge, i_eq, i_ne, l_add, t_add, e_r1, e_for, e_lc, e_gN, e_asg, e_tup, e_any, e_tupl, e_frz, ↓reduceIte, Bool.false_eq_true, Bool.not_true, Bool.not_false, e_and, e_or, e_yes, r1, truOf, hs, ht, ne_fl, decide_eq_true c]
    · refine .inr ⟨.inr c, ah ++ [fsq (sqs M)], ?_⟩
      rw [hh]
      simp only [e_seq, e_nx, e_set, e_ret, e_expr, e_if, e_f2, e_call, e_nil, e_cons, e_c, e_v0, e_vs, e_set0, e_sets, e_tB, e_tru, e_notF, e_neg, b_ok, b_ex, t_ok, t_ex, s_nx, s_rt, s_bk, s_ct, s_ex, o_ok, e_rt, e_fnx, i_add, i_sub, i_mod, Int.reduceLT, i_lt, i_le, i_gt, i_ge, i_eq, i_ne, l_add, t_add, e_r1, e_for, e_lc, e_gN, e_asg, e_tup, e_any, e_tupl, e_frz, ↓reduceIte, Bool.false_eq_true, Bool.not_true, Bool.not_false, e_and, e_or, e_yes, r1, truOf, hs, ht, ne_fl, decide_eq_false c, e_raise, e_fex]
  · refine .inr ⟨.inl r2, ah ++ [fsq (sqs M)], ?_⟩
    rw [hh]
    simp only [e_seq, e_nx, e_set, e_ret, e_expr, e_if, e_f2, e_call, e_nil, e_cons, e_c, e_v0, e_vs, e_set0, e_sets, e_tB, e_tru, e_notF, e_neg, b_ok, b_ex, t_ok, t_ex, s_nx, s_rt, s_bk, s_ct, s_ex, o_ok, e_rt, e_fnx, i_add, i_sub, i_mod, Int.reduceLT, i_lt, i_le, i_gt, i_ge, i_eq, i_ne, l_add, t_add, e_r1, e_for, e_lc, e_gN, e_asg, e_tup, e_any, e_tupl, e_frz, ↓reduceIte, Bool.false_eq_true, Bool.not_true, Bool.not_false, e_and, e_or, e_yes, r1, truOf, e_raise, e_fex]
theorem cl_ok {l : List Sq} (fl : Flo l) {M : List DL.St} (L : Lay l M) (ah : AH) : ∃ ah', F_checked_laying [.p (efl l), .p (ety M)] ah = .ok (.p (ety M)) ah' := by
  have hlen : 2 * M.length = l.length := by rw [← sqs_len, L.c.length_eq]
  have := fl.le
  rcases cl_rest l M L.g (by omega) ah with ⟨_, _, h⟩ | ⟨h1 | h1, _⟩
  · exact h
  · obtain ⟨i, h, z⟩ := h1
    exact absurd (List.pairwise_iff_getElem.mp L.up i (i + 1) (by omega) h (by omega)) z
  · exact absurd (srtq_eq L.c fl.up) h1
theorem cl_order (l : List Sq) (M : List DL.St) (hm : ∀ x ∈ M, GSt x) (hl : M.length ≤ 400) (i : Nat) (h : i + 1 < M.length) (z : ¬ stLt (M[i]'(by omega)) M[i + 1]) (ah : AH) : ∃ ah', F_checked_laying [.p (efl l), .p (ety M)] ah = .ex 2 ah' := by
  rcases cl_rest l M hm hl ah with ⟨e, _, _⟩ | ⟨_, e⟩
  · exact absurd (e i h) z
  · exact e
theorem cl_count (l : List Sq) (M : List DL.St) (hm : ∀ x ∈ M, GSt x) (hl : M.length ≤ 400) (z : 2 * M.length ≠ l.length) (ah : AH) : ∃ ah', F_checked_laying [.p (efl l), .p (ety M)] ah = .ex 2 ah' := by
  rcases cl_rest l M hm hl ah with ⟨_, e, _⟩ | ⟨_, e⟩
  · refine absurd ?_ z
    rw [← e, (srtq_perm _).length_eq, sqs_len]
  · exact e
end DL

set_option Elab.async false
set_option linter.all false
set_option maxRecDepth 100000
/-! MT: turns. -/
namespace DL
open PySem PySem.Spec PyProof.Rows L2
def acr (s : Sq) : List DL.St := [(s, (s.1, s.2 + 1)), ((s.1 + 1, s.2), (s.1 + 1, s.2 + 1))]
def dwn (s : Sq) : List DL.St := [(s, (s.1 + 1, s.2)), ((s.1, s.2 + 1), (s.1 + 1, s.2 + 1))]
def duo (s : Sq) : PyData := .tuple [.list ((acr s).map est), .list ((dwn s).map est)]
theorem F_lying_eq (s : Sq) (ah : AH) : F_lying [.p (esq s)] ah = .ok (.p (duo s)) ah := rfl
theorem F_four_eq (s : Sq) (ah : AH) : F__law_four [.p (esq s)] ah = .ok (.p (duo s)) ah := rfl
theorem in_row (row : List DL.St) (x : DL.St) (ah : AH) : gIn (.p (est x)) (.p (ety row)) ah = .ok (.p (.bool (decide (x ∈ row)))) ah := by
  have h : inOf ah (.p (est x)) (.p (ety row)) = some (decide (x ∈ row)) := by
    unfold inOf
    show (if (SeqAt.shaped (est x) && SeqAt.shaped (.tuple (row.map est))) = true then some ((row.map est).any fun y => PyData.eqv y (est x)) else none) = _
    rw [shaped_est, shaped_ety, Bool.and_self, if_pos rfl, any_est]
  unfold gIn
  rw [h]
theorem notIn_lst (l : List DL.St) (x : DL.St) (ah : AH) : gNotIn (.p (est x)) (.p (.list (l.map est))) ah = .ok (.p (.bool (!decide (x ∈ l)))) ah := by
  have h : inOf ah (.p (est x)) (.p (.list (l.map est))) = some (decide (x ∈ l)) := by
    unfold inOf
    show (if (SeqAt.shaped (est x) && SeqAt.shaped (.list (l.map est))) = true then some ((l.map est).any fun y => PyData.eqv y (est x)) else none) = _
    rw [shaped_est, shaped_erow, Bool.and_self, if_pos rfl, any_est]
  unfold gNotIn
  rw [h]
def allIn (M : List DL.St) (x y : DL.St) : Bool := decide (x ∈ M) && decide (y ∈ M)
theorem F_has_ok (M : List DL.St) (x y : DL.St) (ah : AH) : F_has_all [.p (ety M), .p (.list [est x, est y])] ah = .ok (.p (.bool (allIn M x y))) ah := by
  have h0 : ∀ ah, gSub2 (.p (.list [est x, est y])) (.p (.int 0)) ah = .ok (.p (est x)) ah := fun ah => sub_lst (k := 0) rfl ah
  have h1 : ∀ ah, gSub2 (.p (.list [est x, est y])) (.p (.int 1)) ah = .ok (.p (est y)) ah := fun ah => sub_lst (k := 1) rfl ah
  rw [E_has_all, g_has_all]
  simp only [e_ret, e_fAnd, e_f2, e_vs, e_v0, e_c, b_ok, h0, in_row]
  unfold allIn
  cases decide (x ∈ M)
  · simp only [Bool.false_and, t_ok, e_rt]
  · simp only [e_f2, e_vs, e_v0, e_c, b_ok, h1, in_row, Bool.true_and, t_ok, e_rt]
/-- may be turned at s -/
def turnB (M : List DL.St) (s : Sq) : Bool := allIn M (s, (s.1, s.2 + 1)) ((s.1 + 1, s.2), (s.1 + 1, s.2 + 1)) || allIn M (s, (s.1 + 1, s.2)) ((s.1, s.2 + 1), (s.1 + 1, s.2 + 1))
def turnL (M : List DL.St) : List Sq := srtq ((M.filter fun x => turnB M x.1).map fun x => x.1)
theorem app_fsq {ah : AH} {q : List Sq} {x : Sq} (h : q.length ≤ 1000) : gAppend (.r ah.length) [.p (esq x)] (ah ++ [fsq q]) = .ok (.p .none) (ah ++ [fsq (q ++ [x])]) := by
  unfold fsq
  rw [app_last (by simp only [List.length_map]; omega), List.map_append, List.map_append]
  rfl
theorem F_turns_ok (M : List DL.St) (hM : M.length ≤ 400) (ah : AH) : ∃ g, F_turns [.p (ety M)] ah = .ok (.p (.list ((turnL M).map esq))) (ah ++ [g]) := by
  obtain ⟨σ', ah', e1, ⟨x2, x3, x4, e2, e3⟩⟩ := for_inv (σ := [some (D.p (ety M)), some (.r ah.length), none, none, none]) (ah := ah ++ [fsq []]) (gt := gN 2) (f := (sSeq (sAsg (fCall F_lying (aCons (f2 gSub2 (fVar 2) (fC (.int 0))) aNil)) (gPair 3 4)) (sIf (tOrF (tTru (fCall F_has_all (aCons (fVar 0) (aCons (fVar 3) aNil)))) (tTru (fCall F_has_all (aCons (fVar 0) (aCons (fVar 4) aNil))))) (sExpr (fMt isL gAppend (fVar 1) (aCons (f2 gSub2 (fVar 2) (fC (.int 0))) aNil))) sNx))) (fun x => D.p (est x))
    (fun done σ ah' => ∃ x2 x3 x4, σ = [some (D.p (ety M)), some (.r ah.length), x2, x3, x4] ∧ ah' = ah ++ [fsq ((done.filter fun x => turnB M x.1).map fun x => x.1)]) M
    (by
      intro done x rest e σ ah' hI
      obtain ⟨x2, x3, x4, rfl, rfl⟩ := hI
      have hd : done.length ≤ 400 := by
        have h1 := congrArg List.length e
        rw [List.length_append] at h1
        omega
      have hfl := List.length_filter_le (fun x => turnB M x.1) done
      have h0 : ∀ ah, gSub2 (.p (est x)) (.p (.int 0)) ah = .ok (.p (esq x.1)) ah := fun ah => sub_tup (k := 0) rfl ah
      have hA := fun ah => F_has_ok M (x.1, (x.1.1, x.1.2 + 1)) ((x.1.1 + 1, x.1.2), (x.1.1 + 1, x.1.2 + 1)) ah
      have hB := fun ah => F_has_ok M (x.1, (x.1.1 + 1, x.1.2)) ((x.1.1, x.1.2 + 1), (x.1.1 + 1, x.1.2 + 1)) ah
      have hq : ((done.filter fun x => turnB M x.1).map fun x => x.1).length ≤ 1000 := by rw [List.length_map]; omega
      have has : ∀ ah', (sAsg (fCall F_lying (aCons (f2 gSub2 (fVar 2) (fC (.int 0))) aNil)) (gPair 3 4)) [some (D.p (ety M)), some (.r ah.length), some (.p (est x)), x3, x4] ah' = .nx [some (D.p (ety M)), some (.r ah.length), some (.p (est x)), some (.p (.list [est (x.1, (x.1.1, x.1.2 + 1)), est ((x.1.1 + 1, x.1.2), (x.1.1 + 1, x.1.2 + 1))])), some (.p (.list [est (x.1, (x.1.1 + 1, x.1.2)), est ((x.1.1, x.1.2 + 1), (x.1.1 + 1, x.1.2 + 1))]))] ah' := fun ah' => by
        have h00 : f2 gSub2 (fVar 2) (fC (.int 0)) [some (D.p (ety M)), some (.r ah.length), some (.p (est x)), x3, x4] ah' = .ok (.p (esq x.1)) ah' := h0 ah'
        rw [e_asg, e_call, e_cons, h00, b_ok, e_nil, b_ok, b_ok, F_lying_eq, t_ok]
        rfl
      have hi : isL (ah ++ [fsq ((done.filter fun x => turnB M x.1).map fun x => x.1)]) (.r ah.length) = true := isL_fsq
      refine ⟨[some (D.p (ety M)), some (.r ah.length), some (.p (est x)), x3, x4], [some (D.p (ety M)), some (.r ah.length), some (.p (est x)), some (.p (.list [est (x.1, (x.1.1, x.1.2 + 1)), est ((x.1.1 + 1, x.1.2), (x.1.1 + 1, x.1.2 + 1))])), some (.p (.list [est (x.1, (x.1.1 + 1, x.1.2)), est ((x.1.1, x.1.2 + 1), (x.1.1 + 1, x.1.2 + 1))]))], ah ++ [fsq (((done ++ [x]).filter fun x => turnB M x.1).map fun x => x.1)], rfl, .inl ?_, _, _, _, rfl, rfl⟩
      rw [List.filter_append, List.map_append, List.filter_cons, List.filter_nil, e_seq, has, s_nx]
      unfold turnB at hq hi ⊢
      cases cA : allIn M (x.1, (x.1.1, x.1.2 + 1)) ((x.1.1 + 1, x.1.2), (x.1.1 + 1, x.1.2 + 1)) with
      | true =>
        simp only [e_seq, e_nx, e_set, e_ret, e_expr, e_if, e_f2, e_call, e_nil, e_cons, e_c, e_v0, e_vs, e_set0, e_sets, e_tB, e_tru, e_notF, e_neg, b_ok, b_ex, t_ok, t_ex, s_nx, s_rt, s_bk, s_ct, s_ex, o_ok, e_rt, e_fnx, i_add, i_sub, i_mod, Int.reduceLT, i_lt, i_le, i_gt, i_ge, i_eq, i_ne, l_add, t_add, e_r1, e_for, e_lc, e_gN, e_asg, e_tup, e_any, e_tupl, e_frz, ↓reduceIte, Bool.false_eq_true, Bool.not_true, Bool.not_false, e_and, e_or, e_yes, hA, cA, truOf, e_fMt, hi, h0, app_fsq hq, Bool.true_or, List.map_cons, List.map_nil]
      | false =>
        cases cB : allIn M (x.1, (x.1.1 + 1, x.1.2)) ((x.1.1, x.1.2 + 1), (x.1.1 + 1, x.1.2 + 1)) with
        | true => simp only [e_seq, e_nx, e_set, e_ret, e_expr, e_if, e_f2, e_call, e_nil, e_cons, e_c, e_v0, e_vs, e_set0, e_sets, e_tB, e_tru, e_notF, e_neg, b_ok, b_ex, t_ok, t_ex, s_nx, s_rt, s_bk, s_ct, s_ex, o_ok, e_rt, e_fnx, i_add, i_sub, i_mod, Int.reduceLT, i_lt, i_le, i_gt, i_ge, i_eq, i_ne, l_add, t_add, e_r1, e_for, e_lc, e_gN, e_asg, e_tup, e_any, e_tupl, e_frz, ↓reduceIte, Bool.false_eq_true, Bool.not_true, Bool.not_false, e_and, e_or, e_yes, hA, hB, cA, cB, truOf, e_fMt, hi, h0, app_fsq hq, Bool.false_or, List.map_cons, List.map_nil]
        | false => simp only [e_seq, e_nx, e_set, e_ret, e_expr, e_if, e_f2, e_call, e_nil, e_cons, e_c, e_v0, e_vs, e_set0, e_sets, e_tB, e_tru, e_notF, e_neg, b_ok, b_ex, t_ok, t_ex, s_nx, s_rt, s_bk, s_ct, s_ex, o_ok, e_rt, e_fnx, i_add, i_sub, i_mod, Int.reduceLT, i_lt, i_le, i_gt, i_ge, i_eq, i_ne, l_add, t_add, e_r1, e_for, e_lc, e_gN, e_asg, e_tup, e_any, e_tupl, e_frz, ↓reduceIte, Bool.false_eq_true, Bool.not_true, Bool.not_false, e_and, e_or, e_yes, hA, hB, cA, cB, truOf, Bool.false_or, List.map_nil, List.append_nil])
    ⟨none, none, none, rfl, rfl⟩
  subst e2 e3
  have hm : (M.map est).map D.p = M.map fun x => D.p (est x) := by rw [List.map_map]; rfl
  have hfl := List.length_filter_le (fun x => turnB M x.1) M
  refine ⟨fsq ((M.filter fun x => turnB M x.1).map fun x => x.1), ?_⟩
  have hit : iAny (fVar 0) [some (D.p (ety M)), some (.r ah.length), none, none, none] (ah ++ [fsq []]) = .ok ((M.map est).map .p) (ah ++ [fsq []]) := rfl
  rw [E_turns, g_turns, e_seq]
  simp only [e_set, e_lstM, e_nil, b_ok, List.length_nil, Nat.zero_le, ↓reduceIte, e_set0, e_sets, t_ok, s_nx]
  have hz : (ah ++ [AO.lst []]) = ah ++ [fsq []] := rfl
  rw [hz, e_seq, e_for, hit, t_ok, hm, e1, s_nx]
  simp only [e_ret, e_call, e_cons, e_nil, e_vs, e_v0, b_ok, sorted_ref (show ((M.filter fun x => turnB M x.1).map fun x => x.1).length ≤ 16777216 by rw [List.length_map]; omega), t_ok, e_rt]
  rfl
theorem len_two (M : List DL.St) (x y : DL.St) : decide ((([x, y].filter fun z => decide (z ∈ M)).length : Int) = 2) = allIn M x y := by
  unfold allIn
  by_cases h1 : x ∈ M <;> by_cases h2 : y ∈ M <;> simp [h1, h2]
def lawTurns (M : List DL.St) : List Sq := (List.range 8).flatMap fun (r : Nat) => ((List.range 8).filter fun (c : Nat) => turnB M ((r : Int), (c : Int))).map fun (c : Nat) => ((r : Int), (c : Int))
def ltBody : SF := (sSeq (sAsg (fCall F__law_four (aCons (fTup (aCons (fVar 2) (aCons (fVar 3) aNil))) aNil)) (gPair 4 5)) (sSeq (sSet 6 (fCall gLen (aCons (fLc (iAny (fVar 4)) 7 (tB (f2 gIn (fVar 7) (fVar 0))) (fVar 7)) aNil))) (sIf (tOrF (tB (f2 gEq (fVar 6) (fC (.int 2)))) (tB (f2 gEq (fCall gLen (aCons (fLc (iAny (fVar 5)) 7 (tB (f2 gIn (fVar 7) (fVar 0))) (fVar 7)) aNil)) (fC (.int 2))))) (sExpr (fMt isL gAppend (fVar 1) (aCons (fTup (aCons (fVar 2) (aCons (fVar 3) aNil))) aNil))) sNx)))
theorem lt_inner (M : List DL.St) (ah : AH) (r : Nat) (q : List Sq) (hq : q.length ≤ 900) (x3 x4 x5 x6 x7 : Option D) :
    ∃ x3' x4' x5' x6' x7', forL (gN 3) ltBody ((List.range 8).map fun (c : Nat) => D.p (.int (c : Int))) [some (.p (ety M)), some (.r ah.length), some (.p (.int (r : Int))), x3, x4, x5, x6, x7] (ah ++ [fsq q])
      = .nx [some (.p (ety M)), some (.r ah.length), some (.p (.int (r : Int))), x3', x4', x5', x6', x7'] (ah ++ [fsq (q ++ ((List.range 8).filter fun (c : Nat) => turnB M ((r : Int), (c : Int))).map fun (c : Nat) => ((r : Int), (c : Int)))]) := by
  obtain ⟨σ', ah', e1, ⟨x3', x4', x5', x6', x7', e2, e3⟩⟩ := for_inv (σ := [some (D.p (ety M)), some (.r ah.length), some (.p (.int (r : Int))), x3, x4, x5, x6, x7]) (ah := ah ++ [fsq q]) (gt := gN 3) (f := ltBody) (fun (c : Nat) => D.p (.int (c : Int)))
    (fun done σ ah' => ∃ x3 x4 x5 x6 x7, σ = [some (D.p (ety M)), some (.r ah.length), some (.p (.int (r : Int))), x3, x4, x5, x6, x7] ∧ ah' = ah ++ [fsq (q ++ (done.filter fun (c : Nat) => turnB M ((r : Int), (c : Int))).map fun (c : Nat) => ((r : Int), (c : Int)))]) (List.range 8)
    (by
      intro done c rest e σ ah' hI
      obtain ⟨x3, x4, x5, x6, x7, rfl, rfl⟩ := hI
      have hd : done.length ≤ 8 := by
        have h1 := congrArg List.length e
        rw [List.length_append, List.length_range] at h1
        omega
      have hfl := List.length_filter_le (fun (c : Nat) => turnB M ((r : Int), (c : Int))) done
      have hq2 : (q ++ (done.filter fun (c : Nat) => turnB M ((r : Int), (c : Int))).map fun (c : Nat) => ((r : Int), (c : Int))).length ≤ 1000 := by rw [List.length_append, List.length_map]; omega
      obtain ⟨s, hs⟩ : ∃ s : Sq, s = ((r : Int), (c : Int)) := ⟨_, rfl⟩
      have hes : esq s = .tuple [.int (r : Int), .int (c : Int)] := by rw [hs]; rfl
      obtain ⟨hp, hhp⟩ : ∃ hp, hp = ah ++ [fsq (q ++ (done.filter fun (c : Nat) => turnB M ((r : Int), (c : Int))).map fun (c : Nat) => ((r : Int), (c : Int)))] := ⟨_, rfl⟩
      have hi : isL hp (.r ah.length) = true := by rw [hhp]; exact isL_fsq
      have hap := app_fsq (ah := ah) (x := s) hq2
      rw [← hhp] at hap
      have has : (sAsg (fCall F__law_four (aCons (fTup (aCons (fVar 2) (aCons (fVar 3) aNil))) aNil)) (gPair 4 5)) [some (D.p (ety M)), some (.r ah.length), some (.p (.int (r : Int))), some (.p (.int (c : Int))), x4, x5, x6, x7] hp = .nx [some (D.p (ety M)), some (.r ah.length), some (.p (.int (r : Int))), some (.p (.int (c : Int))), some (.p (.list [est (s, (s.1, s.2 + 1)), est ((s.1 + 1, s.2), (s.1 + 1, s.2 + 1))])), some (.p (.list [est (s, (s.1 + 1, s.2)), est ((s.1, s.2 + 1), (s.1 + 1, s.2 + 1))])), x6, x7] hp := by
        have h00 : fTup (aCons (fVar 2) (aCons (fVar 3) aNil)) [some (D.p (ety M)), some (.r ah.length), some (.p (.int (r : Int))), some (.p (.int (c : Int))), x4, x5, x6, x7] hp = .ok (.p (esq s)) hp := by rw [hes]; rfl
        rw [e_asg, e_call, e_cons, h00, b_ok, e_nil, b_ok, b_ok, F_four_eq, t_ok]
        rfl
      have hl : ∀ (x y : DL.St) (i : Nat) (σ : DS), i ≠ 7 → σ[i]? = some (some (.p (.list [est x, est y]))) → σ[0]? = some (some (.p (ety M))) → 7 < σ.length → fLc (iAny (fVar i)) 7 (tB (f2 gIn (fVar 7) (fVar 0))) (fVar 7) σ hp = .ok (.p (.list (([x, y].filter fun z => decide (z ∈ M)).map est))) hp := by
        intro x y i σ hne h1 h2 h7
        have hlc : lcL 7 (tB (f2 gIn (fVar 7) (fVar 0))) (fVar 7) (([x, y].map est).map .p) σ hp = .ok (([x, y].filter fun z => decide (z ∈ M)).map est) hp := by
          refine lcL_data est (fun z => decide (z ∈ M)) est [x, y] (fun z _ => ?_) (fun z _ _ => ?_)
          · have g7 : (σ.set 7 (some (.p (est z))))[7]? = some (some (.p (est z))) := List.getElem?_set_self h7
            have g0 : (σ.set 7 (some (.p (est z))))[0]? = some (some (.p (ety M))) := by rw [List.getElem?_set_ne (by decide)]; exact h2
            rw [e_tB, e_f2, e_var g7, b_ok, e_var g0, b_ok, in_row, b_ok]
          · exact e_var (List.getElem?_set_self h7)
        rw [e_lc, e_any, e_var h1, b_ok]
        dsimp only
        rw [b_ok, if_pos (by simp only [List.length_map, List.length_cons, List.length_nil]; omega)]
        have hm : ([est x, est y].map D.p) = ([x, y].map est).map .p := rfl
        rw [hm, hlc, o_ok]
      obtain ⟨X4, hX4⟩ : ∃ X4, X4 = some (D.p (.list [est (s, (s.1, s.2 + 1)), est ((s.1 + 1, s.2), (s.1 + 1, s.2 + 1))])) := ⟨_, rfl⟩
      obtain ⟨X5, hX5⟩ : ∃ X5, X5 = some (D.p (.list [est (s, (s.1 + 1, s.2)), est ((s.1, s.2 + 1), (s.1 + 1, s.2 + 1))])) := ⟨_, rfl⟩
      rw [← hX4, ← hX5] at has
      have l4 := hl (s, (s.1, s.2 + 1)) ((s.1 + 1, s.2), (s.1 + 1, s.2 + 1)) 4 [some (D.p (ety M)), some (.r ah.length), some (.p (.int (r : Int))), some (.p (.int (c : Int))), X4, X5, x6, x7] (by decide) (by rw [hX4]; rfl) rfl (by simp)
      have l5 := fun x6 => hl (s, (s.1 + 1, s.2)) ((s.1, s.2 + 1), (s.1 + 1, s.2 + 1)) 5 [some (D.p (ety M)), some (.r ah.length), some (.p (.int (r : Int))), some (.p (.int (c : Int))), X4, X5, x6, x7] (by decide) (by rw [hX5]; rfl) rfl (by simp)
      have d4 := len_two M (s, (s.1, s.2 + 1)) ((s.1 + 1, s.2), (s.1 + 1, s.2 + 1))
      have d5 := len_two M (s, (s.1 + 1, s.2)) ((s.1, s.2 + 1), (s.1 + 1, s.2 + 1))
      have htb : turnB M ((r : Int), (c : Int)) = (allIn M (s, (s.1, s.2 + 1)) ((s.1 + 1, s.2), (s.1 + 1, s.2 + 1)) || allIn M (s, (s.1 + 1, s.2)) ((s.1, s.2 + 1), (s.1 + 1, s.2 + 1))) := by rw [hs]; rfl
      refine ⟨[some (D.p (ety M)), some (.r ah.length), some (.p (.int (r : Int))), some (.p (.int (c : Int))), x4, x5, x6, x7], [some (D.p (ety M)), some (.r ah.length), some (.p (.int (r : Int))), some (.p (.int (c : Int))), X4, X5, some (.p (.int ((([(s, (s.1, s.2 + 1)), ((s.1 + 1, s.2), (s.1 + 1, s.2 + 1))] : List DL.St).filter fun z => decide (z ∈ M)).length : Int))), x7], ah ++ [fsq (q ++ ((done ++ [c]).filter fun (c : Nat) => turnB M ((r : Int), (c : Int))).map fun (c : Nat) => ((r : Int), (c : Int)))], rfl, .inl ?_, _, _, _, _, _, rfl, rfl⟩
      have hfc : (done ++ [c]).filter (fun (c : Nat) => turnB M ((r : Int), (c : Int))) = done.filter (fun (c : Nat) => turnB M ((r : Int), (c : Int))) ++ if turnB M ((r : Int), (c : Int)) = true then [c] else [] := by rw [List.filter_append, List.filter_cons, List.filter_nil]
      rw [hfc, List.map_append, htb, ← hhp]
      unfold ltBody
      rw [e_seq, has, s_nx]
      cases cA : allIn M (s, (s.1, s.2 + 1)) ((s.1 + 1, s.2), (s.1 + 1, s.2 + 1)) with
      | true =>
        rw [cA] at d4
        simp only [e_seq, e_nx, e_set, e_ret, e_expr, e_if, e_f2, e_call, e_nil, e_cons, e_c, e_v0, e_vs, e_set0, e_sets, e_tB, e_tru, e_notF, e_neg, b_ok, b_ex, t_ok, t_ex, s_nx, s_rt, s_bk, s_ct, s_ex, o_ok, e_rt, e_fnx, i_add, i_sub, i_mod, Int.reduceLT, i_lt, i_le, i_gt, i_ge, i_eq, i_ne, l_add, t_add, e_r1, e_for, e_gN, e_asg, e_tup, e_tupl, e_frz, ↓reduceIte, Bool.false_eq_true, Bool.not_true, Bool.not_false, e_and, e_or, e_yes, l4, len_l, List.length_map, d4, e_fMt, hi, ← hes, pures, Option.map_some, List.length_cons, List.length_nil, Nat.reduceAdd, Nat.reduceLeDiff, hap, Bool.true_or, List.map_cons, List.map_nil, ← hs, List.append_assoc]
      | false =>
        rw [cA] at d4
        cases cB : allIn M (s, (s.1 + 1, s.2)) ((s.1, s.2 + 1), (s.1 + 1, s.2 + 1)) with
        | true =>
          rw [cB] at d5
          simp only [e_seq, e_nx, e_set, e_ret, e_expr, e_if, e_f2, e_call, e_nil, e_cons, e_c, e_v0, e_vs, e_set0, e_sets, e_tB, e_tru, e_notF, e_neg, b_ok, b_ex, t_ok, t_ex, s_nx, s_rt, s_bk, s_ct, s_ex, o_ok, e_rt, e_fnx, i_add, i_sub, i_mod, Int.reduceLT, i_lt, i_le, i_gt, i_ge, i_eq, i_ne, l_add, t_add, e_r1, e_for, e_gN, e_asg, e_tup, e_tupl, e_frz, ↓reduceIte, Bool.false_eq_true, Bool.not_true, Bool.not_false, e_and, e_or, e_yes, l4, l5, len_l, List.length_map, d4, d5, e_fMt, hi, ← hes, pures, Option.map_some, List.length_cons, List.length_nil, Nat.reduceAdd, Nat.reduceLeDiff, hap, Bool.false_or, List.map_cons, List.map_nil, ← hs, List.append_assoc]
        | false =>
          rw [cB] at d5
          simp only [e_seq, e_nx, e_set, e_ret, e_expr, e_if, e_f2, e_call, e_nil, e_cons, e_c, e_v0, e_vs, e_set0, e_sets, e_tB, e_tru, e_notF, e_neg, b_ok, b_ex, t_ok, t_ex, s_nx, s_rt, s_bk, s_ct, s_ex, o_ok, e_rt, e_fnx, i_add, i_sub, i_mod, Int.reduceLT, i_lt, i_le, i_gt, i_ge, i_eq, i_ne, l_add, t_add, e_r1, e_for, e_gN, e_asg, e_tup, e_tupl, e_frz, ↓reduceIte, Bool.false_eq_true, Bool.not_true, Bool.not_false, e_and, e_or, e_yes, l4, l5, len_l, List.length_map, d4, d5, Bool.false_or, List.map_nil, List.append_nil]
          rw [hhp])
    ⟨x3, x4, x5, x6, x7, rfl, by rw [List.filter_nil, List.map_nil, List.append_nil]⟩
  subst e2 e3
  exact ⟨x3', x4', x5', x6', x7', e1⟩
theorem flat8 (M : List DL.St) (done : List Nat) (h : done.length ≤ 8) : (done.flatMap fun (r : Nat) => ((List.range 8).filter fun (c : Nat) => turnB M ((r : Int), (c : Int))).map fun (c : Nat) => ((r : Int), (c : Int))).length ≤ 64 := by
  rw [List.length_flatMap]
  have := sum_le (fun (r : Nat) => (((List.range 8).filter fun (c : Nat) => turnB M ((r : Int), (c : Int))).map fun (c : Nat) => (((r : Int), (c : Int)) : Sq)).length) 8 done fun r _ => by
    rw [List.length_map]
    exact Nat.le_trans (List.length_filter_le _ _) (by rw [List.length_range]; exact Nat.le_refl _)
  omega
theorem F_lawTurns_app (M : List DL.St) (ah : AH) : ∃ g, F__law_turns [.p (ety M)] ah = .ok (.p (.list ((lawTurns M).map esq))) (ah ++ g) := by
  have ro : rOk 8 = true := rOk_nat (n := 8) (by decide)
  have hr : rangeD 0 (Int.toNat 8) = (List.range 8).map fun (i : Nat) => D.p (.int (i : Int)) := rangeD_map 8
  obtain ⟨σ', ah', e1, ⟨x2, x3, x4, x5, x6, x7, e2, e3⟩⟩ := for_inv (σ := [some (D.p (ety M)), some (.r ah.length), none, none, none, none, none, none]) (ah := ah ++ [fsq []]) (gt := gN 2) (f := (sFor (iRange1 (aCons (fC (.int 8)) aNil)) (gN 3) (sSeq (sAsg (fCall F__law_four (aCons (fTup (aCons (fVar 2) (aCons (fVar 3) aNil))) aNil)) (gPair 4 5)) (sSeq (sSet 6 (fCall gLen (aCons (fLc (iAny (fVar 4)) 7 (tB (f2 gIn (fVar 7) (fVar 0))) (fVar 7)) aNil))) (sIf (tOrF (tB (f2 gEq (fVar 6) (fC (.int 2)))) (tB (f2 gEq (fCall gLen (aCons (fLc (iAny (fVar 5)) 7 (tB (f2 gIn (fVar 7) (fVar 0))) (fVar 7)) aNil)) (fC (.int 2))))) (sExpr (fMt isL gAppend (fVar 1) (aCons (fTup (aCons (fVar 2) (aCons (fVar 3) aNil))) aNil))) sNx))))) (fun (r : Nat) => D.p (.int (r : Int)))
    (fun done σ ah' => ∃ x2 x3 x4 x5 x6 x7, σ = [some (D.p (ety M)), some (.r ah.length), x2, x3, x4, x5, x6, x7] ∧ ah' = ah ++ [fsq (done.flatMap fun (r : Nat) => ((List.range 8).filter fun (c : Nat) => turnB M ((r : Int), (c : Int))).map fun (c : Nat) => ((r : Int), (c : Int)))]) (List.range 8)
    (by
      intro done r rest e σ ah' hI
      obtain ⟨x2, x3, x4, x5, x6, x7, rfl, rfl⟩ := hI
      have hd : done.length ≤ 8 := by
        have h1 := congrArg List.length e
        rw [List.length_append, List.length_range] at h1
        omega
      have hb := flat8 M done hd
      obtain ⟨x3', x4', x5', x6', x7', hin⟩ := lt_inner M ah r _ (show _ ≤ 900 from Nat.le_trans hb (by decide)) x3 x4 x5 x6 x7
      refine ⟨[some (D.p (ety M)), some (.r ah.length), some (.p (.int (r : Int))), x3, x4, x5, x6, x7], [some (D.p (ety M)), some (.r ah.length), some (.p (.int (r : Int))), x3', x4', x5', x6', x7'], ah ++ [fsq ((done ++ [r]).flatMap fun (r : Nat) => ((List.range 8).filter fun (c : Nat) => turnB M ((r : Int), (c : Int))).map fun (c : Nat) => ((r : Int), (c : Int)))], rfl, .inl ?_, _, _, _, _, _, _, rfl, rfl⟩
      rw [List.flatMap_append, List.flatMap_cons, List.flatMap_nil, List.append_nil, e_for, e_r1, e_cons, e_c, b_ok, e_nil, b_ok, b_ok]
      dsimp only
      rw [if_pos ro, t_ok, hr]
      exact hin)
    ⟨none, none, none, none, none, none, rfl, rfl⟩
  subst e2 e3
  refine ⟨[.dead], ?_⟩
  rw [E__law_turns, g__law_turns, e_seq]
  simp only [e_set, e_lstM, e_nil, b_ok, List.length_nil, Nat.zero_le, ↓reduceIte, e_set0, e_sets, t_ok, s_nx]
  have hz : (ah ++ [AO.lst []]) = ah ++ [fsq []] := rfl
  rw [hz, e_seq, e_for, e_r1, e_cons, e_c, b_ok, e_nil, b_ok, b_ok]
  dsimp only
  rw [if_pos ro, t_ok, hr, e1, s_nx, e_ret, e_frz, e_vs, e_v0, b_ok]
  have hf : gFrz (.r ah.length) (ah ++ [fsq (lawTurns M)]) = .ok (.p (.list ((lawTurns M).map esq))) (ah ++ [.dead]) := by
    unfold gFrz fsq
    dsimp only
    rw [get_last]
    dsimp only
    rw [pures_p]
    dsimp only
    rw [set_last]
  have hl : lawTurns M = (List.range 8).flatMap fun (r : Nat) => ((List.range 8).filter fun (c : Nat) => turnB M ((r : Int), (c : Int))).map fun (c : Nat) => ((r : Int), (c : Int)) := rfl
  rw [← hl, hf, t_ok, e_rt]
theorem F_lawTurns_ok (M : List DL.St) (ah : AH) : ∃ ah', F__law_turns [.p (ety M)] ah = .ok (.p (.list ((lawTurns M).map esq))) ah' := by
  obtain ⟨g, h⟩ := F_lawTurns_app M ah
  exact ⟨_, h⟩
theorem turnB_mem {M : List DL.St} {s : Sq} (h : turnB M s = true) : ∃ x ∈ M, x.1 = s := by
  unfold turnB allIn at h
  simp only [Bool.or_eq_true, Bool.and_eq_true, decide_eq_true_eq] at h
  rcases h with h | h
  · exact ⟨_, h.1, rfl⟩
  · exact ⟨_, h.1, rfl⟩
theorem upq_ext {l k : List Sq} (h1 : l.Pairwise sqLt) (h2 : k.Pairwise sqLt) (h : ∀ x, x ∈ l ↔ x ∈ k) : l = k :=
  List.Perm.eq_of_pairwise (fun a b _ _ x y => (sqLt_irr (sqLt_trans x y)).elim) h1 h2 ((List.perm_ext_iff_of_nodup (up_nd h1) (up_nd h2)).mpr h)
theorem firsts_nd {l : List Sq} {M : List DL.St} (nd : l.Nodup) (L : Lay l M) : (M.map fun x => x.1).Nodup := by
  have hn : (sqs M).Nodup := L.c.nodup_iff.mpr nd
  unfold sqs List.Nodup at hn
  rw [List.pairwise_flatMap] at hn
  unfold List.Nodup
  rw [List.pairwise_map]
  exact hn.2.imp fun {a b} h => h _ List.mem_cons_self _ List.mem_cons_self
theorem turns_eq {l : List Sq} (fl : Flo l) {M : List DL.St} (L : Lay l M) : turnL M = lawTurns M := by
  refine upq_ext (srtq_up ?_) ?_ fun s => ?_
  · exact (firsts_nd (up_nd fl.up) L).sublist (List.filter_sublist.map _)
  · unfold lawTurns
    rw [List.pairwise_flatMap]
    refine ⟨fun r _ => ?_, List.pairwise_lt_range.imp fun {a b} h x hx y hy => ?_⟩
    · rw [List.pairwise_map]
      exact (List.pairwise_lt_range.sublist List.filter_sublist).imp fun {a b} h => .inr ⟨rfl, by show (a : Int) < (b : Int); omega⟩
    · obtain ⟨_, _, rfl⟩ := List.mem_map.mp hx
      obtain ⟨_, _, rfl⟩ := List.mem_map.mp hy
      exact .inl (by show (a : Int) < (b : Int); omega)
  · unfold turnL lawTurns
    rw [(srtq_perm _).mem_iff, List.mem_map, List.mem_flatMap]
    constructor
    · rintro ⟨x, hx, rfl⟩
      obtain ⟨h1, h2⟩ := List.mem_filter.mp hx
      obtain ⟨i1, i2, i3, i4⟩ := (L.g x h1).a
      refine ⟨x.1.1.toNat, List.mem_range.mpr (by omega), List.mem_map.mpr ⟨x.1.2.toNat, List.mem_filter.mpr ⟨List.mem_range.mpr (by omega), ?_⟩, ?_⟩⟩
      · rw [show ((x.1.1.toNat : Int), (x.1.2.toNat : Int)) = x.1 from Prod.ext (by show (x.1.1.toNat : Int) = x.1.1; omega) (by show (x.1.2.toNat : Int) = x.1.2; omega)]
        exact h2
      · exact Prod.ext (by show (x.1.1.toNat : Int) = x.1.1; omega) (by show (x.1.2.toNat : Int) = x.1.2; omega)
    · rintro ⟨r, hr, h⟩
      obtain ⟨c, hc, rfl⟩ := List.mem_map.mp h
      obtain ⟨_, h2⟩ := List.mem_filter.mp hc
      obtain ⟨x, hx, e⟩ := turnB_mem h2
      exact ⟨x, List.mem_filter.mpr ⟨hx, by rw [e]; exact h2⟩, e⟩
def exch (M A B : List DL.St) : List DL.St := srt ((M.filter fun x => !decide (x ∈ A)) ++ B)
theorem F_exch_ok (M A B : List DL.St) (hM : M.length ≤ 1000) (hB : B.length ≤ 1000) (ah : AH) : F_exchanged [.p (ety M), .p (.list (A.map est)), .p (.list (B.map est))] ah = .ok (.p (ety (exch M A B))) ah := by
  have hl : lcL 3 (tB (f2 gNotIn (fVar 3) (fVar 1))) (fVar 3) ((M.map est).map .p) [some (.p (ety M)), some (.p (.list (A.map est))), some (.p (.list (B.map est))), none] ah = .ok ((M.filter fun x => !decide (x ∈ A)).map est) ah := by
    refine lcL_data est (fun x => !decide (x ∈ A)) est M (fun x _ => ?_) (fun x _ _ => rfl)
    simp only [e_tB, e_f2, e_sets, e_set0, e_vs, e_v0, b_ok, notIn_lst]
  have hit : iAny (fVar 0) [some (D.p (ety M)), some (.p (.list (A.map est))), some (.p (.list (B.map est))), none] ah = .ok ((M.map est).map .p) ah := rfl
  have hfl := List.length_filter_le (fun x => !decide (x ∈ A)) M
  rw [E_exchanged, g_exchanged, e_ret, e_call, e_cons, e_call, e_cons, e_f2, e_lc, hit, b_ok, if_pos (by rw [List.length_map, List.length_map]; omega), hl, o_ok, b_ok, e_vs, e_vs, e_v0, b_ok, l_add (by rw [List.length_map, List.length_map]; omega), b_ok, e_nil, b_ok, b_ok, ← List.map_append, sorted_row (by rw [List.length_append]; omega), b_ok, e_nil, b_ok, b_ok, e_tupl, t_ok, e_rt]
  rfl
end DL

set_option Elab.async false
set_option linter.all false
set_option maxRecDepth 100000
/-! MU: turned; a laying by the law. -/
namespace DL
open PySem PySem.Spec PyProof.Rows L2
theorem notIn_sqs (l : List Sq) (x : Sq) (ah : AH) : gNotIn (.p (esq x)) (.p (.list (l.map esq))) ah = .ok (.p (.bool (!decide (x ∈ l)))) ah := by
  have h : inOf ah (.p (esq x)) (.p (.list (l.map esq))) = some (decide (x ∈ l)) := by
    unfold inOf
    show (if (SeqAt.shaped (esq x) && SeqAt.shaped (.list (l.map esq))) = true then some ((l.map esq).any fun y => PyData.eqv y (esq x)) else none) = _
    rw [shaped_esq, shaped_lst, Bool.and_self, if_pos rfl, any_esq]
  unfold gNotIn
  rw [h]
theorem eqv_esqs : ∀ q l : List Sq, PyData.eqvAll (q.map esq) (l.map esq) = decide (q = l) := by
  intro q
  induction q with
  | nil => intro l; cases l <;> simp [PyData.eqvAll]
  | cons a q ih =>
    intro l
    cases l with
    | nil => simp [PyData.eqvAll]
    | cons b l =>
      rw [List.map_cons, List.map_cons, PyData.eqvAll, eqv_esq, ih l]
      by_cases h1 : a = b <;> by_cases h2 : q = l <;> simp [h1, h2]
theorem eq_sqs (q l : List Sq) (ah : AH) : gEq (.p (.list (q.map esq))) (.p (.list (l.map esq))) ah = .ok (.p (.bool (decide (q = l)))) ah := by
  show (if (SeqAt.shaped (.list (q.map esq)) && SeqAt.shaped (.list (l.map esq))) = true then R.ok (D.p (.bool (PyData.eqvAll (q.map esq) (l.map esq)))) ah else .bad) = _
  rw [shaped_lst, shaped_lst, Bool.and_self, if_pos rfl, eqv_esqs]
theorem ne_sqs (q l : List Sq) (ah : AH) : gNe (.p (.list (q.map esq))) (.p (.list (l.map esq))) ah = .ok (.p (.bool (!decide (q = l)))) ah := by
  show (if (SeqAt.shaped (.list (q.map esq)) && SeqAt.shaped (.list (l.map esq))) = true then R.ok (D.p (.bool (!PyData.eqvAll (q.map esq) (l.map esq)))) ah else .bad) = _
  rw [shaped_lst, shaped_lst, Bool.and_self, if_pos rfl, eqv_esqs]
theorem eq_etys (a b : List DL.St) (ah : AH) : gEq (.p (ety a)) (.p (ety b)) ah = .ok (.p (.bool (decide (a = b)))) ah := by
  show (if (SeqAt.shaped (.tuple (a.map est)) && SeqAt.shaped (.tuple (b.map est))) = true then R.ok (D.p (.bool (PyData.eqvAll (a.map est) (b.map est)))) ah else .bad) = _
  rw [shaped_ety, shaped_ety, Bool.and_self, if_pos rfl, eqv_ests]
theorem sorted_sqs {q : List Sq} (h : q.length ≤ 16777216) (ah : AH) : gSortedL [.p (.list (q.map esq))] ah = .ok (.p (.list ((srtq q).map esq))) ah := by
  show (if sortOk (q.map esq) = true then R.ok (D.p (.list (sortD (q.map esq)))) ah else .bad) = _
  rw [if_pos (sortOk_esqs q h), srtq_data]
/-! turned -/
def acrB (M : List DL.St) (s : Sq) : Bool := allIn M (s, (s.1, s.2 + 1)) ((s.1 + 1, s.2), (s.1 + 1, s.2 + 1))
def dwnB (M : List DL.St) (s : Sq) : Bool := allIn M (s, (s.1 + 1, s.2)) ((s.1, s.2 + 1), (s.1 + 1, s.2 + 1))
theorem turnB_or (M : List DL.St) (s : Sq) : turnB M s = (acrB M s || dwnB M s) := rfl
def tL (M : List DL.St) (s : Sq) : List DL.St := if acrB M s = true then exch M (acr s) (dwn s) else exch M (dwn s) (acr s)
theorem F_turned_no (M : List DL.St) (d : PyData) (hd : plain2 d = true) (h : sqB d = false) (ah : AH) : F_turned [.p (ety M), .p d] ah = .ex 4 ah := by
  rw [E_turned, g_turned]
  simp only [e_seq, e_nx, e_set, e_ret, e_expr, e_if, e_f2, e_call, e_nil, e_cons, e_c, e_v0, e_vs, e_set0, e_sets, e_tB, e_tru, e_notF, e_neg, b_ok, b_ex, t_ok, t_ex, s_nx, s_rt, s_bk, s_ct, s_ex, o_ok, e_rt, e_fnx, i_add, i_sub, i_mod, Int.reduceLT, i_lt, i_le, i_gt, i_ge, i_eq, i_ne, l_add, t_add, e_r1, e_for, e_lc, e_gN, e_asg, e_tup, e_any, e_tupl, e_frz, ↓reduceIte, Bool.false_eq_true, Bool.not_true, Bool.not_false, e_and, e_or, e_yes, F_square_ok d hd, h, truOf, e_raise, e_fex]
theorem F_turned_out (M : List DL.St) (hM : M.length ≤ 400) (s : Sq) (hs : inS s) (h : s ∉ turnL M) (ah : AH) : ∃ ah', F_turned [.p (ety M), .p (esq s)] ah = .ex 4 ah' := by
  obtain ⟨g, ht⟩ := F_turns_ok M hM ah
  refine ⟨ah ++ [g], ?_⟩
  rw [E_turned, g_turned]
  simp only [e_seq, e_nx, e_set, e_ret, e_expr, e_if, e_f2, e_call, e_nil, e_cons, e_c, e_v0, e_vs, e_set0, e_sets, e_tB, e_tru, e_notF, e_neg, b_ok, b_ex, t_ok, t_ex, s_nx, s_rt, s_bk, s_ct, s_ex, o_ok, e_rt, e_fnx, i_add, i_sub, i_mod, Int.reduceLT, i_lt, i_le, i_gt, i_ge, i_eq, i_ne, l_add, t_add, e_r1, e_for, e_lc, e_gN, e_asg, e_tup, e_any, e_tupl, e_frz, ↓reduceIte, Bool.false_eq_true, Bool.not_true, Bool.not_false, e_and, e_or, e_yes, F_square_ok (esq s) rfl, sq_in hs, truOf, ht, notIn_sqs, decide_eq_false h, e_raise, e_fex]
theorem F_turned_app (M : List DL.St) (hM : M.length ≤ 400) (s : Sq) (hs : inS s) (h : s ∈ turnL M) (ah : AH) : ∃ g, F_turned [.p (ety M), .p (esq s)] ah = .ok (.p (ety (tL M s))) (ah ++ g) := by
  obtain ⟨g, ht⟩ := F_turns_ok M hM ah
  refine ⟨[g], ?_⟩
  have hA : ∀ ah, F_has_all [.p (ety M), .p (.list ((acr s).map est))] ah = .ok (.p (.bool (acrB M s))) ah := fun ah => F_has_ok M _ _ ah
  have has : (sAsg (fCall F_lying (aCons (fVar 1) aNil)) (gPair 2 3)) [some (.p (ety M)), some (.p (esq s)), none, none] (ah ++ [g]) = .nx [some (.p (ety M)), some (.p (esq s)), some (.p (.list ((acr s).map est))), some (.p (.list ((dwn s).map est)))] (ah ++ [g]) := by
    rw [e_asg, e_call, e_cons, e_vs, e_v0, b_ok, e_nil, b_ok, b_ok, F_lying_eq, t_ok]
    rfl
  have hif : (sIf (tOrF (tNotF (tTru (fCall F_is_square (aCons (fVar 1) aNil)))) (tB (f2 gNotIn (fVar 1) (fCall F_turns (aCons (fVar 0) aNil))))) (sRaise 4) sNx) [some (.p (ety M)), some (.p (esq s)), none, none] ah = .nx [some (.p (ety M)), some (.p (esq s)), none, none] (ah ++ [g]) := by
    simp only [e_seq, e_nx, e_set, e_ret, e_expr, e_if, e_f2, e_call, e_nil, e_cons, e_c, e_v0, e_vs, e_set0, e_sets, e_tB, e_tru, e_notF, e_neg, b_ok, b_ex, t_ok, t_ex, s_nx, s_rt, s_bk, s_ct, s_ex, o_ok, e_rt, e_fnx, i_add, i_sub, i_mod, Int.reduceLT, i_lt, i_le, i_gt, i_ge, i_eq, i_ne, l_add, t_add, e_r1, e_for, e_lc, e_gN, e_asg, e_tup, e_any, e_tupl, e_frz, ↓reduceIte, Bool.false_eq_true, Bool.not_true, Bool.not_false, e_and, e_or, e_yes, F_square_ok (esq s) rfl, sq_in hs, truOf, ht, notIn_sqs, decide_eq_true h]
  have e1 := F_exch_ok M (acr s) (dwn s)
  have e2 := F_exch_ok M (dwn s) (acr s)
  rw [E_turned, g_turned, e_seq, hif, s_nx, e_seq, has, s_nx]
  unfold tL
  cases c : acrB M s with
  | true => simp only [e_seq, e_nx, e_set, e_ret, e_expr, e_if, e_f2, e_call, e_nil, e_cons, e_c, e_v0, e_vs, e_set0, e_sets, e_tB, e_tru, e_notF, e_neg, b_ok, b_ex, t_ok, t_ex, s_nx, s_rt, s_bk, s_ct, s_ex, o_ok, e_rt, e_fnx, i_add, i_sub, i_mod, Int.reduceLT, i_lt, i_le, i_gt, i_ge, i_eq, i_ne, l_add, t_add, e_r1, e_for, e_lc, e_gN, e_asg, e_tup, e_any, e_tupl, e_frz, ↓reduceIte, Bool.false_eq_true, Bool.not_true, Bool.not_false, e_and, e_or, e_yes, hA, c, truOf, e1 (by omega) (show 2 ≤ 1000 by decide)]
  | false => simp only [e_seq, e_nx, e_set, e_ret, e_expr, e_if, e_f2, e_call, e_nil, e_cons, e_c, e_v0, e_vs, e_set0, e_sets, e_tB, e_tru, e_notF, e_neg, b_ok, b_ex, t_ok, t_ex, s_nx, s_rt, s_bk, s_ct, s_ex, o_ok, e_rt, e_fnx, i_add, i_sub, i_mod, Int.reduceLT, i_lt, i_le, i_gt, i_ge, i_eq, i_ne, l_add, t_add, e_r1, e_for, e_lc, e_gN, e_asg, e_tup, e_any, e_tupl, e_frz, ↓reduceIte, Bool.false_eq_true, Bool.not_true, Bool.not_false, e_and, e_or, e_yes, hA, c, truOf, e2 (by omega) (show 2 ≤ 1000 by decide)]
theorem F_turned_ok (M : List DL.St) (hM : M.length ≤ 400) (s : Sq) (hs : inS s) (h : s ∈ turnL M) (ah : AH) : ∃ ah', F_turned [.p (ety M), .p (esq s)] ah = .ok (.p (ety (tL M s))) ah' := by
  obtain ⟨g, h⟩ := F_turned_app M hM s hs h ah
  exact ⟨_, h⟩
def ltL (M : List DL.St) (s : Sq) : List DL.St := if (s, (s.1, s.2 + 1)) ∈ M then exch M (acr s) (dwn s) else exch M (dwn s) (acr s)
theorem F_lawTurned_ok (M : List DL.St) (hM : M.length ≤ 400) (s : Sq) (ah : AH) : F__law_turned [.p (ety M), .p (esq s)] ah = .ok (.p (ety (ltL M s))) ah := by
  have has : (sAsg (fCall F__law_four (aCons (fVar 1) aNil)) (gPair 2 3)) [some (.p (ety M)), some (.p (esq s)), none, none, none] ah = .nx [some (.p (ety M)), some (.p (esq s)), some (.p (.list ((acr s).map est))), some (.p (.list ((dwn s).map est))), none] ah := by
    rw [e_asg, e_call, e_cons, e_vs, e_v0, b_ok, e_nil, b_ok, b_ok, F_four_eq, t_ok]
    rfl
  have h0 : ∀ ah, gSub2 (.p (.list ((acr s).map est))) (.p (.int 0)) ah = .ok (.p (est (s, (s.1, s.2 + 1)))) ah := fun ah => sub_lst (k := 0) rfl ah
  have hl : ∀ (i : Nat) (A : List DL.St), ([some (.p (ety M)), some (.p (esq s)), some (.p (.list ((acr s).map est))), some (.p (.list ((dwn s).map est))), none] : DS)[i]? = some (some (.p (.list (A.map est)))) → i ≠ 4 → lcL 4 (tB (f2 gNotIn (fVar 4) (fVar i))) (fVar 4) ((M.map est).map .p) [some (.p (ety M)), some (.p (esq s)), some (.p (.list ((acr s).map est))), some (.p (.list ((dwn s).map est))), none] ah = .ok ((M.filter fun x => !decide (x ∈ A)).map est) ah := fun i A hi hne => by
    refine lcL_data est (fun x => !decide (x ∈ A)) est M (fun x _ => ?_) (fun x _ _ => rfl)
    have gi : (([some (.p (ety M)), some (.p (esq s)), some (.p (.list ((acr s).map est))), some (.p (.list ((dwn s).map est))), none] : DS).set 4 (some (.p (est x))))[i]? = some (some (.p (.list (A.map est)))) := by rw [List.getElem?_set_ne (Ne.symm hne)]; exact hi
    have g4 : (([some (.p (ety M)), some (.p (esq s)), some (.p (.list ((acr s).map est))), some (.p (.list ((dwn s).map est))), none] : DS).set 4 (some (.p (est x))))[4]? = some (some (.p (est x))) := rfl
    rw [e_tB, e_f2, e_var g4, b_ok, e_var gi, b_ok, notIn_lst, b_ok]
  have hit : iAny (fVar 0) [some (.p (ety M)), some (.p (esq s)), some (.p (.list ((acr s).map est))), some (.p (.list ((dwn s).map est))), none] ah = .ok ((M.map est).map .p) ah := rfl
  have hfl := fun A : List DL.St => List.length_filter_le (fun x => !decide (x ∈ A)) M
  have hlen : ((M.map est).map D.p).length ≤ 16777216 := by rw [List.length_map, List.length_map]; omega
  have hx : ∀ (A B : List DL.St), B.length ≤ 1000 → gAdd (.p (.list ((M.filter fun x => !decide (x ∈ A)).map est))) (.p (.list (B.map est))) ah = .ok (.p (.list (((M.filter fun x => !decide (x ∈ A)) ++ B).map est))) ah := fun A B hB => by
    have := hfl A
    rw [l_add (by rw [List.length_map, List.length_map]; omega), List.map_append]
  have hsr : ∀ (A B : List DL.St), B.length ≤ 1000 → gSortedL [.p (.list (((M.filter fun x => !decide (x ∈ A)) ++ B).map est))] ah = .ok (.p (.list ((exch M A B).map est))) ah := fun A B hB => by
    have := hfl A
    exact sorted_row (by rw [List.length_append]; omega) ah
  have l2 := hl 2 (acr s) rfl (by decide)
  have l3 := hl 3 (dwn s) rfl (by decide)
  rw [E__law_turned, g__law_turned, e_seq, has, s_nx]
  unfold ltL
  by_cases c : (s, (s.1, s.2 + 1)) ∈ M
  · rw [if_pos c]
    simp only [e_seq, e_nx, e_set, e_ret, e_expr, e_if, e_f2, e_call, e_nil, e_cons, e_c, e_v0, e_vs, e_set0, e_sets, e_tB, e_tru, e_notF, e_neg, b_ok, b_ex, t_ok, t_ex, s_nx, s_rt, s_bk, s_ct, s_ex, o_ok, e_rt, e_fnx, i_add, i_sub, i_mod, Int.reduceLT, i_lt, i_le, i_gt, i_ge, i_eq, i_ne, l_add, t_add, e_r1, e_for, e_gN, e_asg, e_tup, e_tupl, e_frz, ↓reduceIte, Bool.false_eq_true, Bool.not_true, Bool.not_false, e_and, e_or, e_yes, h0, in_row, decide_eq_true c]
    rw [e_lc, hit, b_ok, if_pos hlen, l2, o_ok, b_ok, hx (acr s) (dwn s) (show 2 ≤ 1000 by decide), b_ok, b_ok, hsr (acr s) (dwn s) (show 2 ≤ 1000 by decide)]
    rfl
  · rw [if_neg c]
    simp only [e_seq, e_nx, e_set, e_ret, e_expr, e_if, e_f2, e_call, e_nil, e_cons, e_c, e_v0, e_vs, e_set0, e_sets, e_tB, e_tru, e_notF, e_neg, b_ok, b_ex, t_ok, t_ex, s_nx, s_rt, s_bk, s_ct, s_ex, o_ok, e_rt, e_fnx, i_add, i_sub, i_mod, Int.reduceLT, i_lt, i_le, i_gt, i_ge, i_eq, i_ne, l_add, t_add, e_r1, e_for, e_gN, e_asg, e_tup, e_tupl, e_frz, ↓reduceIte, Bool.false_eq_true, Bool.not_true, Bool.not_false, e_and, e_or, e_yes, h0, in_row, decide_eq_false c]
    rw [e_lc, hit, b_ok, if_pos hlen, l3, o_ok, b_ok, hx (dwn s) (acr s) (show 2 ≤ 1000 by decide), b_ok, b_ok, hsr (dwn s) (acr s) (show 2 ≤ 1000 by decide)]
    rfl
/-! the mathematics of a turn -/
theorem Lay.uniq {l : List Sq} {M : List DL.St} (nd : l.Nodup) (L : Lay l M) {x y : DL.St} (hx : x ∈ M) (hy : y ∈ M) {v : Sq} (h1 : v = x.1 ∨ v = x.2) (h2 : v = y.1 ∨ v = y.2) : x = y := by
  have hn : (sqs M).Nodup := L.c.nodup_iff.mpr nd
  unfold sqs List.Nodup at hn
  rw [List.pairwise_flatMap] at hn
  obtain ⟨i, hi, rfl⟩ := List.getElem_of_mem hx
  obtain ⟨j, hj, rfl⟩ := List.getElem_of_mem hy
  have key := List.pairwise_iff_getElem.mp hn.2
  rcases Nat.lt_trichotomy i j with h | h | h
  · exact absurd rfl (key i j hi hj h v (by simpa using h1) v (by simpa using h2))
  · subst h; rfl
  · exact absurd rfl (key j i hj hi h v (by simpa using h2) v (by simpa using h1))
theorem nd_of_sqs {X : List DL.St} (h : (sqs X).Nodup) : X.Nodup := by
  unfold sqs List.Nodup at h
  rw [List.pairwise_flatMap] at h
  unfold List.Nodup
  exact h.2.imp fun {a b} h e => h a.1 List.mem_cons_self b.1 List.mem_cons_self (by rw [e])
theorem sqs_app (X Y : List DL.St) : sqs (X ++ Y) = sqs X ++ sqs Y := List.flatMap_append
theorem mem_exch {M A B : List DL.St} {x : DL.St} : x ∈ exch M A B ↔ (x ∈ M ∧ x ∉ A) ∨ x ∈ B := by
  unfold exch
  rw [(srt_perm _).mem_iff, List.mem_append, List.mem_filter, Bool.not_eq_true', decide_eq_false_iff_not]
theorem lay_exch {l : List Sq} {M A B : List DL.St} (fl : Flo l) (L : Lay l M) (hA : ∀ x ∈ A, x ∈ M) (ndA : A.Nodup) (hB : ∀ x ∈ B, GSt x) (p : (sqs B).Perm (sqs A)) : Lay l (exch M A B) := by
  have ndM : M.Nodup := nd_of_sqs (L.c.nodup_iff.mpr (up_nd fl.up))
  have pM : ((M.filter fun x => !decide (x ∈ A)) ++ A).Perm M := by
    refine (List.perm_ext_iff_of_nodup ?_ ndM).mpr fun x => ?_
    · rw [List.nodup_append]
      refine ⟨ndM.sublist List.filter_sublist, ndA, fun a ha b hb e => ?_⟩
      subst e
      have := (List.mem_filter.mp ha).2
      rw [decide_eq_true hb] at this
      cases this
    · rw [List.mem_append, List.mem_filter]
      constructor
      · rintro (h | h)
        · exact h.1
        · exact hA x h
      · intro h
        by_cases e : x ∈ A
        · exact .inr e
        · exact .inl ⟨h, by rw [decide_eq_false e]; rfl⟩
  have pc : (sqs ((M.filter fun x => !decide (x ∈ A)) ++ B)).Perm l := by
    rw [sqs_app]
    refine (p.append_left _).trans ?_
    rw [← sqs_app]
    exact (sqs_perm pM).trans L.c
  refine ⟨fun x hx => ?_, srt_up (nd_of_sqs (pc.nodup_iff.mpr (up_nd fl.up))), (sqs_perm (srt_perm _)).trans pc⟩
  rcases mem_exch.mp hx with h | h
  · exact L.g x h.1
  · exact hB x h
theorem g_acr {s : Sq} (h1 : inS s) (h2 : inS (s.1 + 1, s.2 + 1)) : ∀ x ∈ acr s, GSt x := by
  intro x hx
  unfold acr at hx
  unfold inS at h1 h2
  simp only [List.mem_cons, List.not_mem_nil, or_false] at hx
  rcases hx with rfl | rfl
  · exact ⟨h1, by unfold inS; dsimp only at *; omega, by simp [nbs], by unfold sqLt; dsimp only; omega⟩
  · exact ⟨by unfold inS; dsimp only at *; omega, h2, by simp [nbs], by unfold sqLt; dsimp only; omega⟩
theorem g_dwn {s : Sq} (h1 : inS s) (h2 : inS (s.1 + 1, s.2 + 1)) : ∀ x ∈ dwn s, GSt x := by
  intro x hx
  unfold dwn at hx
  unfold inS at h1 h2
  simp only [List.mem_cons, List.not_mem_nil, or_false] at hx
  rcases hx with rfl | rfl
  · exact ⟨h1, by unfold inS; dsimp only at *; omega, by simp [nbs], by unfold sqLt; dsimp only; omega⟩
  · exact ⟨by unfold inS; dsimp only at *; omega, h2, by simp [nbs], by unfold sqLt; dsimp only; omega⟩
theorem acrB_iff {M : List DL.St} {s : Sq} : acrB M s = true ↔ ∀ x ∈ acr s, x ∈ M := by
  unfold acrB allIn acr
  simp
theorem dwnB_iff {M : List DL.St} {s : Sq} : dwnB M s = true ↔ ∀ x ∈ dwn s, x ∈ M := by
  unfold dwnB allIn dwn
  simp
theorem perm_ad (s : Sq) : (sqs (dwn s)).Perm (sqs (acr s)) := List.Perm.cons _ (List.Perm.swap _ _ _)
theorem nd_acr (s : Sq) : (acr s).Nodup := by
  unfold acr
  rw [List.nodup_cons]
  refine ⟨fun h => ?_, by simp⟩
  rw [List.mem_singleton] at h
  have := congrArg (fun x : DL.St => x.1.1) h
  dsimp only at this
  omega
theorem nd_dwn (s : Sq) : (dwn s).Nodup := by
  unfold dwn
  rw [List.nodup_cons]
  refine ⟨fun h => ?_, by simp⟩
  rw [List.mem_singleton] at h
  have := congrArg (fun x : DL.St => x.1.2) h
  dsimp only at this
  omega
theorem sq_ne1 (s : Sq) : ((s.1, s.2 + 1) : Sq) ≠ (s.1 + 1, s.2) := fun h => by
  have := congrArg Prod.fst h
  dsimp only at this
  omega
/-- not both ways -/
theorem no_both {l : List Sq} {M : List DL.St} (nd : l.Nodup) (L : Lay l M) {s : Sq} (h1 : (s, (s.1, s.2 + 1)) ∈ M) (h2 : (s, (s.1 + 1, s.2)) ∈ M) : False :=
  sq_ne1 s (Prod.mk.inj (Lay.uniq nd L h1 h2 (.inl rfl) (.inl rfl))).2
/-- no stone of the other way -/
theorem no_dwn {l : List Sq} {M : List DL.St} (nd : l.Nodup) (L : Lay l M) {s : Sq} (h : ∀ x ∈ acr s, x ∈ M) : ∀ x ∈ dwn s, x ∉ M := by
  have a1 := h (s, (s.1, s.2 + 1)) (by simp [acr])
  have a2 := h ((s.1 + 1, s.2), (s.1 + 1, s.2 + 1)) (by simp [acr])
  intro x hx hm
  unfold dwn at hx
  simp only [List.mem_cons, List.not_mem_nil, or_false] at hx
  rcases hx with rfl | rfl
  · exact no_both nd L a1 hm
  · have e := Lay.uniq nd L a2 hm (v := (s.1 + 1, s.2 + 1)) (.inr rfl) (.inr rfl)
    have := congrArg (fun x : DL.St => x.1.1) e
    dsimp only at this
    omega
theorem no_acr {l : List Sq} {M : List DL.St} (nd : l.Nodup) (L : Lay l M) {s : Sq} (h : ∀ x ∈ dwn s, x ∈ M) : ∀ x ∈ acr s, x ∉ M := by
  have a1 := h (s, (s.1 + 1, s.2)) (by simp [dwn])
  have a2 := h ((s.1, s.2 + 1), (s.1 + 1, s.2 + 1)) (by simp [dwn])
  intro x hx hm
  unfold acr at hx
  simp only [List.mem_cons, List.not_mem_nil, or_false] at hx
  rcases hx with rfl | rfl
  · exact no_both nd L hm a1
  · have e := Lay.uniq nd L a2 hm (v := (s.1 + 1, s.2 + 1)) (.inr rfl) (.inr rfl)
    have := congrArg (fun x : DL.St => x.1.1) e
    dsimp only at this
    omega
theorem tL_eq {l : List Sq} {M : List DL.St} (nd : l.Nodup) (L : Lay l M) {s : Sq} (h : turnB M s = true) : tL M s = ltL M s := by
  unfold tL ltL
  cases c : acrB M s with
  | true => rw [if_pos rfl, if_pos (acrB_iff.mp c _ (by simp [acr]))]
  | false =>
    rw [turnB_or, c, Bool.false_or] at h
    rw [if_neg (by simp), if_neg (no_acr nd L (dwnB_iff.mp h) _ (by simp [acr]))]
/-- a turn's squares lie within -/
theorem turn_in {l : List Sq} {M : List DL.St} (L : Lay l M) {s : Sq} (h : turnB M s = true) : inS s ∧ inS (s.1 + 1, s.2 + 1) := by
  rw [turnB_or, Bool.or_eq_true] at h
  rcases h with h | h
  · have h := acrB_iff.mp h
    exact ⟨(L.g _ (h (s, (s.1, s.2 + 1)) (by simp [acr]))).a, (L.g _ (h ((s.1 + 1, s.2), (s.1 + 1, s.2 + 1)) (by simp [acr]))).b⟩
  · have h := dwnB_iff.mp h
    exact ⟨(L.g _ (h (s, (s.1 + 1, s.2)) (by simp [dwn]))).a, (L.g _ (h ((s.1, s.2 + 1), (s.1 + 1, s.2 + 1)) (by simp [dwn]))).b⟩
theorem lay_turn {l : List Sq} {M : List DL.St} (fl : Flo l) (L : Lay l M) {s : Sq} (h : turnB M s = true) : Lay l (tL M s) := by
  obtain ⟨i1, i2⟩ := turn_in L h
  unfold tL
  cases c : acrB M s with
  | true => rw [if_pos rfl]; exact lay_exch fl L (acrB_iff.mp c) (nd_acr s) (g_dwn i1 i2) (perm_ad s)
  | false =>
    rw [turnB_or, c, Bool.false_or] at h
    rw [if_neg (by simp)]
    exact lay_exch fl L (dwnB_iff.mp h) (nd_dwn s) (g_acr i1 i2) (perm_ad s).symm
theorem turn_back {l : List Sq} {M : List DL.St} (fl : Flo l) (L : Lay l M) {s : Sq} (h : turnB M s = true) : turnB (tL M s) s = true ∧ tL (tL M s) s = M := by
  have nd := up_nd fl.up
  have L2 := lay_turn fl L h
  obtain ⟨i1, i2⟩ := turn_in L h
  cases c : acrB M s with
  | true =>
    have e : tL M s = exch M (acr s) (dwn s) := by unfold tL; rw [if_pos c]
    have hd : ∀ x ∈ dwn s, x ∈ tL M s := fun x hx => by rw [e]; exact mem_exch.mpr (.inr hx)
    have c2 : acrB (tL M s) s = false := by
      cases c3 : acrB (tL M s) s with
      | false => rfl
      | true => exact absurd (hd (s, (s.1 + 1, s.2)) (by simp [dwn])) (no_dwn nd L2 (acrB_iff.mp c3) _ (by simp [dwn]))
    refine ⟨by rw [turnB_or, dwnB_iff.mpr hd, Bool.or_true], ?_⟩
    have L3 := lay_exch fl L2 hd (nd_dwn s) (g_acr i1 i2) (perm_ad s).symm
    have e2 : tL (tL M s) s = exch (tL M s) (dwn s) (acr s) := by
      have : tL (tL M s) s = if acrB (tL M s) s = true then exch (tL M s) (acr s) (dwn s) else exch (tL M s) (dwn s) (acr s) := rfl
      rw [this, c2, if_neg (by simp)]
    rw [e2]
    refine up_ext L3.up L.up fun x => ?_
    rw [mem_exch, e, mem_exch]
    have hA := acrB_iff.mp c
    have hN := no_dwn nd L hA
    constructor
    · rintro (⟨h1 | h1, h2⟩ | h1)
      · exact h1.1
      · exact absurd h1 h2
      · exact hA x h1
    · intro hx
      by_cases z : x ∈ acr s
      · exact .inr z
      · exact .inl ⟨.inl ⟨hx, z⟩, fun y => hN x y hx⟩
  | false =>
    have h' := h
    rw [turnB_or, c, Bool.false_or] at h'
    have e : tL M s = exch M (dwn s) (acr s) := by unfold tL; rw [if_neg (by rw [c]; simp)]
    have hd : ∀ x ∈ acr s, x ∈ tL M s := fun x hx => by rw [e]; exact mem_exch.mpr (.inr hx)
    refine ⟨by rw [turnB_or, acrB_iff.mpr hd, Bool.true_or], ?_⟩
    have L3 := lay_exch fl L2 hd (nd_acr s) (g_dwn i1 i2) (perm_ad s)
    have e2 : tL (tL M s) s = exch (tL M s) (acr s) (dwn s) := by
      have : tL (tL M s) s = if acrB (tL M s) s = true then exch (tL M s) (acr s) (dwn s) else exch (tL M s) (dwn s) (acr s) := rfl
      rw [this, acrB_iff.mpr hd, if_pos rfl]
    rw [e2]
    refine up_ext L3.up L.up fun x => ?_
    rw [mem_exch, e, mem_exch]
    have hA := dwnB_iff.mp h'
    have hN := no_acr nd L hA
    constructor
    · rintro (⟨h1 | h1, h2⟩ | h1)
      · exact h1.1
      · exact absurd h1 h2
      · exact hA x h1
    · intro hx
      by_cases z : x ∈ dwn s
      · exact .inr z
      · exact .inl ⟨.inl ⟨hx, z⟩, fun y => hN x y hx⟩
theorem mem_turnL {M : List DL.St} {s : Sq} : s ∈ turnL M ↔ turnB M s = true := by
  unfold turnL
  rw [(srtq_perm _).mem_iff, List.mem_map]
  constructor
  · rintro ⟨x, hx, rfl⟩
    exact (List.mem_filter.mp hx).2
  · intro h
    obtain ⟨x, hx, e⟩ := turnB_mem h
    exact ⟨x, List.mem_filter.mpr ⟨hx, by rw [e]; exact h⟩, e⟩
/-! a laying, by the law -/
theorem e_enumT {fa : AF} {σ : DS} {ah : AH} : iEnumT fa σ ah = (fa σ ah).bind fun ds ah1 => match ds with
  | [.p (.tuple xs)] => .ok (enumD 0 xs) ah1
  | _ => .bad := (rfl)
theorem gPair34 {x y : PyData} {a b c d e : Option D} {ah : AH} : gPair 3 4 (.p (.tuple [x, y])) [a, b, c, d, e] ah = some [a, b, c, some (.p x), some (.p y)] := rfl
def ilBody : SF := (sSeq (sIf (tOrF (tNotF (tTru (fIsi "tuple" (fVar 4)))) (tOrF (tB (f2 gNe (fCall gLen (aCons (fVar 4) aNil)) (fC (.int 2)))) (tNotF (tB (f2 gLt (f2 gSub2 (fVar 4) (fC (.int 0))) (f2 gSub2 (fVar 4) (fC (.int 1)))))))) (sRet (fC (.bool false))) sNx) (sSeq (sIf (tOrF (tB (f2 gNotIn (f2 gSub2 (fVar 4) (fC (.int 1))) (fCall F__law_near (aCons (fVar 0) (aCons (f2 gSub2 (fVar 4) (fC (.int 0))) aNil))))) (tAndF (tB (f2 gGt (fVar 3) (fC (.int 0)))) (tB (f2 gLe (fVar 4) (f2 gSub2 (fVar 1) (f2 gSub (fVar 3) (fC (.int 1)))))))) (sRet (fC (.bool false))) sNx) (sSet 2 (f2 gAdd (fVar 2) (fLst (aCons (f2 gSub2 (fVar 4) (fC (.int 0))) (aCons (f2 gSub2 (fVar 4) (fC (.int 1))) aNil)))))))
theorem il_loop {l : List Sq} {M : List DL.St} (L : Lay l M) (hl : l.length ≤ 24) (ah : AH) : ∀ (ms pre : List DL.St), M = pre ++ ms → ∀ x3 x4, ∃ x3' x4', forL (gPair 3 4) ilBody (enumD pre.length (ms.map est)) [some (.p (efl l)), some (.p (ety M)), some (.p (.list ((sqs pre).map esq))), x3, x4] ah
    = .nx [some (.p (efl l)), some (.p (ety M)), some (.p (.list ((sqs M).map esq))), x3', x4'] ah
  | [], pre, e, x3, x4 => ⟨x3, x4, by rw [e, List.append_nil]; rfl⟩
  | x :: ms, pre, e, x3, x4 => by
    have hx : x ∈ M := by rw [e]; simp
    have g := L.g x hx
    have hm : x.1 ∈ l ∧ x.2 ∈ l := by
      have : ∀ v ∈ sqs [x], v ∈ l := fun v hv => L.c.mem_iff.mp (by
        unfold sqs at hv ⊢
        rw [List.mem_flatMap]
        exact ⟨x, hx, by simpa using hv⟩)
      exact ⟨this x.1 (by simp [sqs]), this x.2 (by simp [sqs])⟩
    have hn : x.2 ∈ nb l x.1 := by
      unfold nb
      rw [List.mem_filter, decide_eq_true_eq]
      exact ⟨g.n, hm.2⟩
    obtain ⟨x3', x4', ih⟩ := il_loop L hl ah ms (pre ++ [x]) (by rw [e]; simp) (some (.p (.int (pre.length : Int)))) (some (.p (est x)))
    refine ⟨x3', x4', ?_⟩
    have hlen : 2 * M.length = l.length := by rw [← sqs_len, L.c.length_eq]
    have hpl : pre.length ≤ 24 := by
      have := congrArg List.length e
      rw [List.length_append] at this
      omega
    have s0 : ∀ ah, gSub2 (.p (est x)) (.p (.int 0)) ah = .ok (.p (esq x.1)) ah := fun ah => sub_tup (k := 0) rfl ah
    have s1 : ∀ ah, gSub2 (.p (est x)) (.p (.int 1)) ah = .ok (.p (esq x.2)) ah := fun ah => sub_tup (k := 1) rfl ah
    have hl2 : ∀ ah, gLen [.p (est x)] ah = .ok (.p (.int 2)) ah := fun ah => by unfold est; rw [len_t]; rfl
    have hty : tyD ah (.p (est x)) = some "tuple" := rfl
    have hq : sqs (pre ++ [x]) = sqs pre ++ [x.1, x.2] := by rw [sqs_app]; rfl
    have hadd : ∀ ah, gAdd (.p (.list ((sqs pre).map esq))) (.p (.list [esq x.1, esq x.2])) ah = .ok (.p (.list ((sqs (pre ++ [x])).map esq))) ah := fun ah => by
      rw [l_add (by rw [List.length_map, sqs_len]; simp only [List.length_cons, List.length_nil]; omega), hq, List.map_append]
      rfl
    have hb : ilBody [some (.p (efl l)), some (.p (ety M)), some (.p (.list ((sqs pre).map esq))), some (.p (.int (pre.length : Int))), some (.p (est x))] ah = .nx [some (.p (efl l)), some (.p (ety M)), some (.p (.list ((sqs (pre ++ [x])).map esq))), some (.p (.int (pre.length : Int))), some (.p (est x))] ah := by
      unfold ilBody
      by_cases c : pre = []
      · subst c
        simp only [e_seq, e_nx, e_set, e_ret, e_expr, e_if, e_f2, e_call, e_nil, e_cons, e_c, e_v0, e_vs, e_set0, e_sets, e_tB, e_tru, e_notF, e_neg, b_ok, b_ex, t_ok, t_ex, s_nx, s_rt, s_bk, s_ct, s_ex, o_ok, e_rt, e_fnx, i_add, i_sub, i_mod, Int.reduceLT, i_lt, i_le, i_gt, i_ge, i_eq, i_ne, l_add, t_add, e_r1, e_for, e_lc, e_gN, e_asg, e_tup, e_any, e_tupl, e_frz, ↓reduceIte, Bool.false_eq_true, Bool.not_true, Bool.not_false, e_and, e_or, e_yes, e_isi, hty, kd6, truOf, hl2, s0, s1, lt_sq2, decide_eq_true g.l, F_near_eq, notIn_sqs, decide_eq_true hn, e_lst, pures, Option.map_some, List.length_cons, List.length_nil, Nat.reduceAdd, Nat.reduceLeDiff, hadd, Int.natCast_zero, decide_true, Int.lt_irrefl, decide_false, Int.ofNat_eq_natCast]
      · have hp : 0 < pre.length := List.length_pos_iff.mpr c
        obtain ⟨y, hy⟩ : ∃ y, pre[pre.length - 1]? = some y := ⟨pre[pre.length - 1], List.getElem?_eq_getElem (by omega)⟩
        have hMy : M[pre.length - 1]? = some y := by rw [e, List.getElem?_append_left (by omega)]; exact hy
        have sM : ∀ ah, gSub2 (.p (ety M)) (.p (.int ((pre.length : Int) - 1))) ah = .ok (.p (est y)) ah := fun ah => by
          rw [show (pre.length : Int) - 1 = ((pre.length - 1 : Nat) : Int) by omega]
          exact sub_tup (by rw [List.getElem?_map, hMy]; rfl) ah
        have hlt : stLt y x := by
          have up := L.up
          rw [e, List.pairwise_append] at up
          exact up.2.2 y (List.mem_of_getElem? hy) x List.mem_cons_self
        simp only [e_seq, e_nx, e_set, e_ret, e_expr, e_if, e_f2, e_call, e_nil, e_cons, e_c, e_v0, e_vs, e_set0, e_sets, e_tB, e_tru, e_notF, e_neg, b_ok, b_ex, t_ok, t_ex, s_nx, s_rt, s_bk, s_ct, s_ex, o_ok, e_rt, e_fnx, i_add, i_sub, i_mod, Int.reduceLT, i_lt, i_le, i_gt, i_ge, i_eq, i_ne, l_add, t_add, e_r1, e_for, e_lc, e_gN, e_asg, e_tup, e_any, e_tupl, e_frz, ↓reduceIte, Bool.false_eq_true, Bool.not_true, Bool.not_false, e_and, e_or, e_yes, e_isi, hty, kd6, truOf, hl2, s0, s1, lt_sq2, decide_eq_true g.l, F_near_eq, notIn_sqs, decide_eq_true hn, e_lst, pures, Option.map_some, List.length_cons, List.length_nil, Nat.reduceAdd, Nat.reduceLeDiff, hadd, decide_true, decide_eq_true (show (0 : Int) < (pre.length : Int) by omega), sM, le_st, decide_eq_true hlt]
    have hen : enumD pre.length ((x :: ms).map est) = .p (.tuple [.int (pre.length : Int), est x]) :: enumD (pre ++ [x]).length (ms.map est) := by
      rw [List.length_append]
      rfl
    rw [hen, e_for_cons, gPair34]
    dsimp only
    rw [hb]
    dsimp only
    exact ih
theorem F_isLaying_ok {l : List Sq} {M : List DL.St} (fl : Flo l) (L : Lay l M) (ah : AH) : F__law_is_laying [.p (efl l), .p (ety M)] ah = .ok (.p (.bool true)) ah := by
  obtain ⟨x3', x4', e⟩ := il_loop L fl.le ah M [] rfl none none
  have hle := fl.le
  have hlen : 2 * M.length = l.length := by rw [← sqs_len, L.c.length_eq]
  have h0 : enumD ([] : List DL.St).length (M.map est) = enumD 0 (M.map est) := rfl
  rw [h0] at e
  have hq : ((sqs ([] : List DL.St)).map esq) = [] := rfl
  rw [hq] at e
  have hi : iEnumT (aCons (fVar 1) aNil) [some (.p (efl l)), some (.p (ety M)), some (.p (.list [])), none, none] ah = .ok (enumD 0 (M.map est)) ah := rfl
  have hs := sorted_sqs (q := sqs M) (by rw [sqs_len]; omega) ah
  have hli : gList [.p (efl l)] ah = .ok (.p (.list (l.map esq))) ah := rfl
  have hty : tyD ah (.p (ety M)) = some "tuple" := rfl
  rw [E__law_is_laying, g__law_is_laying, e_seq]
  simp only [e_if, e_notF, e_tru, e_isi, e_vs, e_v0, b_ok, hty, kd6, truOf, t_ok, Bool.not_true, Bool.false_eq_true, ↓reduceIte, e_nx, s_nx]
  rw [e_seq, e_set, e_lst0, t_ok, s_nx]
  simp only [e_sets, e_set0]
  rw [e_seq, e_for, hi, t_ok]
  have e' := e
  unfold ilBody at e'
  rw [e', s_nx]
  simp only [e_seq, e_nx, e_set, e_ret, e_expr, e_if, e_f2, e_call, e_nil, e_cons, e_c, e_v0, e_vs, e_set0, e_sets, e_tB, e_tru, e_notF, e_neg, b_ok, b_ex, t_ok, t_ex, s_nx, s_rt, s_bk, s_ct, s_ex, o_ok, e_rt, e_fnx, i_add, i_sub, i_mod, Int.reduceLT, i_lt, i_le, i_gt, i_ge, i_eq, i_ne, l_add, t_add, e_r1, e_for, e_lc, e_gN, e_asg, e_tup, e_any, e_tupl, e_frz, ↓reduceIte, Bool.false_eq_true, Bool.not_true, Bool.not_false, e_and, e_or, e_yes, hs, hli, eq_sqs, srtq_eq L.c fl.up, decide_true]
end DL

set_option Elab.async false
set_option linter.all false
set_option maxRecDepth 100000
/-! MR: a search over squares. -/
namespace DL
open PySem PySem.Spec PyProof.Rows L2
/-! ### the store with things behind -/
theorem h_at (ah : AH) (x : AO) (g : AH) : (ah ++ x :: g)[ah.length]? = some x := by
  rw [List.getElem?_append_right (Nat.le_refl _)]; simp
theorem h_set (ah : AH) (x y : AO) (g : AH) : (ah ++ x :: g).set ah.length y = ah ++ y :: g := by
  rw [List.set_append_right _ _ (Nat.le_refl _)]; simp
theorem h_at1 (ah : AH) (x y : AO) (g : AH) : (ah ++ x :: y :: g)[ah.length + 1]? = some y := by
  rw [List.getElem?_append_right (by omega)]; simp
theorem h_set1 (ah : AH) (x y z : AO) (g : AH) : (ah ++ x :: y :: g).set (ah.length + 1) z = ah ++ x :: z :: g := by
  rw [List.set_append_right _ _ (by omega)]; simp
theorem e_dput {fd fk fv : EF} {σ : DS} {ah : AH} : sDPut fd fk fv σ ah = (fv σ ah).then σ fun v ah1 => (fd σ ah1).then σ fun d ah2 => (fk σ ah2).then σ fun k ah3 => match gDPut d k v ah3 with
  | some ah4 => .nx σ ah4
  | none => .bad := (rfl)
theorem e_fMt0 {ty : AH → D → Bool} {g : D → AH → R D} {fo : EF} {σ : DS} {ah : AH} : fMt0 ty g fo σ ah = (fo σ ah).bind fun d ah1 => if ty ah1 d = true then g d ah1 else .bad := (rfl)
/-- a while loop, by a measure -/
theorem while_run {c : TF} {f : SF} (I : Nat → DS → AH → Prop) (Post : DS → AH → Prop)
    (st : ∀ m σ ah, I m σ ah → (∃ ah1, c σ ah = .ok false ah1 ∧ Post σ ah1) ∨ (∃ ah1 σ2 ah2, c σ ah = .ok true ah1 ∧ f σ ah1 = .nx σ2 ah2 ∧ ∃ m', m' < m ∧ I m' σ2 ah2)) :
    ∀ (n m : Nat) (σ : DS) (ah : AH), m < n → I m σ ah → ∃ σ' ah', sWhile c f n σ ah = .nx σ' ah' ∧ Post σ' ah'
  | 0, _, _, _, h, _ => absurd h (Nat.not_lt_zero _)
  | n + 1, m, σ, ah, h, hI => by
    rcases st m σ ah hI with ⟨ah1, e1, hp⟩ | ⟨ah1, σ2, ah2, e1, e2, m', hm, hI2⟩
    · refine ⟨σ, ah1, ?_, hp⟩
      unfold sWhile
      rw [e1]
      rfl
    · obtain ⟨σ', ah', e3, hp⟩ := while_run I Post st n m' σ2 ah2 (by omega) hI2
      refine ⟨σ', ah', ?_, hp⟩
      unfold sWhile
      rw [e1, t_ok, if_pos rfl, e2]
      exact e3
/-- what has no two alike and lies in U is no longer -/
theorem nd_le : ∀ (F U : List Sq), F.Nodup → (∀ x ∈ F, x ∈ U) → F.length ≤ U.length
  | [], _, _, _ => Nat.zero_le _
  | a :: F, U, nd, h => by
    rw [List.nodup_cons] at nd
    have hlt := filter_lt (h a List.mem_cons_self)
    have := nd_le F (U.filter fun x => decide (x ≠ a)) nd.2 fun x hx => by
      rw [List.mem_filter, decide_eq_true_eq]
      exact ⟨h x (List.mem_cons_of_mem _ hx), fun z => nd.1 (z ▸ hx)⟩
    rw [List.length_cons]
    omega
/-! ### what is led to -/
inductive Rch (P : Sq → Bool) (nx : Sq → List Sq) (s : Sq) : Sq → Prop
  | base : Rch P nx s s
  | step {x y : Sq} : Rch P nx s x → y ∈ nx x → P y = true → Rch P nx s y
/-- the new ones among ys -/
def addN (P : Sq → Bool) : List Sq → List Sq → List Sq
  | _, [] => []
  | F, y :: ys => if P y = true ∧ y ∉ F then y :: addN P (F ++ [y]) ys else addN P F ys
theorem addN_len (P : Sq → Bool) : ∀ (ys F : List Sq), (addN P F ys).length ≤ ys.length
  | [], _ => Nat.zero_le _
  | y :: ys, F => by
    unfold addN
    split
    · have := addN_len P ys (F ++ [y])
      simp only [List.length_cons]
      omega
    · have := addN_len P ys F
      simp only [List.length_cons]
      omega
theorem addN_mem (P : Sq → Bool) : ∀ (ys F : List Sq) (x : Sq), x ∈ addN P F ys → x ∈ ys ∧ P x = true ∧ x ∉ F
  | [], _, _, h => by cases h
  | y :: ys, F, x, h => by
    unfold addN at h
    split at h
    · rename_i c
      rcases List.mem_cons.mp h with rfl | h
      · exact ⟨List.mem_cons_self, c⟩
      · obtain ⟨h1, h2, h3⟩ := addN_mem P ys (F ++ [y]) x h
        exact ⟨List.mem_cons_of_mem _ h1, h2, fun z => h3 (List.mem_append_left _ z)⟩
    · obtain ⟨h1, h2⟩ := addN_mem P ys F x h
      exact ⟨List.mem_cons_of_mem _ h1, h2⟩
theorem addN_all (P : Sq → Bool) : ∀ (ys F : List Sq) (x : Sq), x ∈ ys → P x = true → x ∈ F ++ addN P F ys
  | [], _, _, h, _ => by cases h
  | y :: ys, F, x, h, hp => by
    unfold addN
    split
    · rename_i c
      rcases List.mem_cons.mp h with rfl | h
      · simp
      · have := addN_all P ys (F ++ [y]) x h hp
        simpa using this
    · rename_i c
      rcases List.mem_cons.mp h with rfl | h
      · have : x ∈ F := Decidable.byContradiction fun z => c ⟨hp, z⟩
        exact List.mem_append_left _ this
      · exact addN_all P ys F x h hp
theorem addN_nd (P : Sq → Bool) : ∀ (ys F : List Sq), F.Nodup → (F ++ addN P F ys).Nodup
  | [], F, h => by unfold addN; rwa [List.append_nil]
  | y :: ys, F, h => by
    unfold addN
    split
    · rename_i c
      have h2 : (F ++ [y]).Nodup := by
        rw [List.nodup_append]
        exact ⟨h, by simp, fun a ha b hb e => by rw [List.mem_singleton] at hb; subst hb; subst e; exact c.2 ha⟩
      have := addN_nd P ys (F ++ [y]) h2
      simpa using this
    · exact addN_nd P ys F h
/-- a search under way: F found, T still to be gone on from -/
structure Srch (P : Sq → Bool) (nx : Sq → List Sq) (s : Sq) (F T : List Sq) : Prop where
  nd : F.Nodup
  st : s ∈ F
  sub : ∀ x ∈ T, x ∈ F
  rch : ∀ x ∈ F, Rch P nx s x
  cl : ∀ x ∈ F, x ∉ T → ∀ y ∈ nx x, P y = true → y ∈ F
theorem srch_0 (P : Sq → Bool) (nx : Sq → List Sq) (s : Sq) : Srch P nx s [s] [s] :=
  ⟨by simp, by simp, fun x h => h, fun x h => by rw [List.mem_singleton.mp h]; exact .base, fun x h1 h2 => absurd h1 h2⟩
/-- one is gone on from -/
theorem Srch.next {P : Sq → Bool} {nx : Sq → List Sq} {s : Sq} {F T T' : List Sq} {x : Sq} (S : Srch P nx s F T) (hx : x ∈ T) (hT : ∀ z, z ∈ T → z = x ∨ z ∈ T') (hT2 : ∀ z ∈ T', z ∈ T) : Srch P nx s (F ++ addN P F (nx x)) (T' ++ addN P F (nx x)) := by
  refine ⟨addN_nd P _ F S.nd, List.mem_append_left _ S.st, fun z hz => ?_, fun z hz => ?_, fun z hz hn y hy hp => ?_⟩
  · rcases List.mem_append.mp hz with h | h
    · exact List.mem_append_left _ (S.sub z (hT2 z h))
    · exact List.mem_append_right _ h
  · rcases List.mem_append.mp hz with h | h
    · exact S.rch z h
    · obtain ⟨h1, h2, _⟩ := addN_mem P _ F z h
      exact .step (S.rch x (S.sub x hx)) h1 h2
  · rcases List.mem_append.mp hz with h | h
    · by_cases e : z = x
      · subst e
        exact addN_all P _ F y hy hp
      · refine List.mem_append_left _ (S.cl z h (fun hzT => ?_) y hy hp)
        rcases hT z hzT with h2 | h2
        · exact e h2
        · exact hn (List.mem_append_left _ h2)
    · exact absurd (List.mem_append_right _ h) hn
theorem Srch.iff {P : Sq → Bool} {nx : Sq → List Sq} {s : Sq} {F : List Sq} (S : Srch P nx s F []) (x : Sq) : x ∈ F ↔ Rch P nx s x := by
  refine ⟨S.rch x, fun h => ?_⟩
  induction h with
  | base => exact S.st
  | step h1 h2 h3 ih => exact S.cl _ ih (by simp) _ h2 h3
theorem Rch.in_ {P : Sq → Bool} {nx : Sq → List Sq} {s x : Sq} (h : Rch P nx s x) : x = s ∨ P x = true := by
  cases h with
  | base => exact .inl rfl
  | step _ _ h => exact .inr h
theorem Srch.le {P : Sq → Bool} {nx : Sq → List Sq} {s : Sq} {F T U : List Sq} (S : Srch P nx s F T) (hU : ∀ x, P x = true → x ∈ U) (hs : s ∈ U) : F.length ≤ U.length :=
  nd_le F U S.nd fun x hx => (S.rch x hx).in_.elim (fun e => by rw [e]; exact hs) (hU x)
/-! ### dicts of squares -/
def dF (v : PyData) (F : List Sq) : AO := .dct (F.map fun x => (esq x, D.p v))
theorem kfind_sq (v : PyData) (F : List Sq) (y : Sq) : (kfind (F.map fun x => (esq x, D.p v)) (esq y)).isSome = decide (y ∈ F) := by
  rw [kfind_any]
  induction F with
  | nil => rfl
  | cons a F ih =>
    rw [List.map_cons, List.any_cons, ih]
    by_cases h : y = a
    · subst h; simp
    · have h' : ¬ a = y := fun z => h z.symm
      simp [nk_esq, h, h']
theorem notIn_dF {ah : AH} {i : Nat} {v : PyData} {F : List Sq} {y : Sq} (h : ah[i]? = some (dF v F)) : gNotIn (.p (esq y)) (.r i) ah = .ok (.p (.bool (!decide (y ∈ F)))) ah := by
  unfold gNotIn
  rw [inOf_dct h (keyOk_esq y), kfind_sq]
theorem put_dF {ah g : AH} {v : PyData} {F : List Sq} {y : Sq} (hy : y ∉ F) (hl : F.length ≤ 1000) : gDPut (.r ah.length) (.p (esq y)) (.p v) (ah ++ dF v F :: g) = some (ah ++ dF v (F ++ [y]) :: g) := by
  have h1 : (ah ++ dF v F :: g)[ah.length]? = some (.dct (F.map fun x => (esq x, D.p v))) := h_at _ _ _
  rw [dput_dct h1 (keyOk_esq y) (by rw [List.length_map]; omega), h_set]
  have hn : kfind (F.map fun x => (esq x, D.p v)) (esq y) = none := by
    have := kfind_sq v F y
    rw [decide_eq_false hy] at this
    cases q : kfind (F.map fun x => (esq x, D.p v)) (esq y) with
    | none => rfl
    | some _ => rw [q] at this; cases this
  rw [kput_new hn]
  unfold dF
  rw [List.map_append]
  rfl
theorem isL1 {ah g : AH} {x : AO} {l : List D} : isL (ah ++ x :: .lst l :: g) (.r (ah.length + 1)) = true := by
  unfold isL
  simp only [h_at1]
theorem app1 {ah g : AH} {x : AO} {q : List Sq} {y : Sq} (h : q.length ≤ 1000) : gAppend (.r (ah.length + 1)) [.p (esq y)] (ah ++ x :: fsq q :: g) = .ok (.p .none) (ah ++ x :: fsq (q ++ [y]) :: g) := by
  unfold gAppend fsq
  simp only [h_at1, h_set1]
  rw [if_pos (by simp only [List.length_map]; omega), List.map_append, List.map_append]
  rfl
theorem pop1 {ah g : AH} {x : AO} {q : List Sq} {y : Sq} : gPop (.r (ah.length + 1)) (ah ++ x :: fsq (q ++ [y]) :: g) = .ok (.p (esq y)) (ah ++ x :: fsq q :: g) := by
  unfold gPop fsq
  simp only [h_at1, h_set1]
  have e : ((q ++ [y]).map esq).map D.p = (q.map esq).map D.p ++ [.p (esq y)] := by rw [List.map_append, List.map_append]; rfl
  rw [e, List.getLast?_concat, List.dropLast_concat]
theorem tru1 {ah g : AH} {x : AO} {q : List Sq} : truOf (ah ++ x :: fsq q :: g) (.r (ah.length + 1)) = some (!q.isEmpty) := by
  unfold truOf fsq
  have e : dctOf (ah ++ x :: AO.lst ((q.map esq).map .p) :: g) (.r (ah.length + 1)) = none := by unfold dctOf; simp only [h_at1]
  cases q with
  | nil => first | (simp only [h_at1, e]; rfl) | (simp [itemsOf, dctOf, h_at1])
  | cons a q => first | (simp only [h_at1, e]; rfl) | (simp [itemsOf, dctOf, h_at1])
end DL

set_option Elab.async false
set_option linter.all false
set_option maxRecDepth 100000
/-! MY: plain floors: what the program finds, what the law finds. -/
namespace DL
open PySem PySem.Spec PyProof.Rows L2
/-! ### the eight squares round one -/
def ars3 (s : Sq) (d : Int) : List Sq := [(s.1 + d, s.2 + -1), (s.1 + d, s.2 + 0), (s.1 + d, s.2 + 1)]
def ars (s : Sq) : List Sq := (([-1, 0, 1] : List Int).flatMap (ars3 s)).filter fun x => !decide (x = s)
theorem ext_lst {ah : AH} {q A : List Sq} (h : q.length + A.length ≤ 1000) : gExtend (.r ah.length) [.p (.list (A.map esq))] (ah ++ [fsq q]) = .ok (.p .none) (ah ++ [fsq (q ++ A)]) := by
  unfold gExtend fsq
  dsimp only
  rw [get_last]
  dsimp only
  rw [if_pos (by simp only [List.length_map]; omega), set_last, List.map_append, List.map_append]
theorem e_frzS {i : Nat} {σ : DS} {ah : AH} {d d' : D} {ah' : AH} (h : σ[i]? = some (some d)) (e : gFrz d ah = .ok d' ah') : sFrz i σ ah = .nx (σ.set i (some d')) ah' := by
  unfold sFrz
  rw [h]
  dsimp only
  rw [e]
theorem frz_last {ah : AH} {q : List Sq} : gFrz (.r ah.length) (ah ++ [fsq q]) = .ok (.p (.list (q.map esq))) (ah ++ [.dead]) := by
  unfold gFrz fsq
  dsimp only
  rw [get_last]
  dsimp only
  rw [pures_p]
  dsimp only
  rw [set_last]
theorem F_around_ok (s : Sq) (ah : AH) : F_around [.p (esq s)] ah = .ok (.p (.list ((ars s).map esq))) (ah ++ [.dead]) := by
  obtain ⟨σ', ah', e1, ⟨x4, e2, e3⟩⟩ := for_inv (σ := [some (D.p (esq s)), some (.p (.int s.1)), some (.p (.int s.2)), some (.r ah.length), none, none, none]) (ah := ah ++ [fsq []]) (gt := gN 4) (f := (sExpr (fMt isL gExtend (fVar 3) (aCons (fLc (iAny (fTup (aCons (fNeg (fC (.int 1))) (aCons (fC (.int 0)) (aCons (fC (.int 1)) aNil))))) 5 tYesF (fTup (aCons (f2 gAdd (fVar 1) (fVar 4)) (aCons (f2 gAdd (fVar 2) (fVar 5)) aNil)))) aNil)))) (fun (d : Int) => D.p (.int d))
    (fun done σ ah' => ∃ x4, σ = [some (D.p (esq s)), some (.p (.int s.1)), some (.p (.int s.2)), some (.r ah.length), x4, none, none] ∧ ah' = ah ++ [fsq (done.flatMap (ars3 s))]) [-1, 0, 1]
    (by
      intro done d rest e σ ah' hI
      obtain ⟨x4, rfl, rfl⟩ := hI
      have hd : done.length ≤ 3 := by
        have := congrArg List.length e
        rw [List.length_append] at this
        simp only [List.length_cons, List.length_nil] at this
        omega
      have hl : ∀ q : List Int, (q.flatMap (ars3 s)).length = 3 * q.length := fun q => by
        induction q with
        | nil => rfl
        | cons a q ih => rw [List.flatMap_cons, List.length_append, ih, List.length_cons]; show 3 + _ = _; omega
      have hc : ∀ hp : AH, (fLc (iAny (fTup (aCons (fNeg (fC (.int 1))) (aCons (fC (.int 0)) (aCons (fC (.int 1)) aNil))))) 5 tYesF (fTup (aCons (f2 gAdd (fVar 1) (fVar 4)) (aCons (f2 gAdd (fVar 2) (fVar 5)) aNil)))) [some (D.p (esq s)), some (.p (.int s.1)), some (.p (.int s.2)), some (.r ah.length), some (.p (.int d)), none, none] hp = .ok (.p (.list ((ars3 s d).map esq))) hp := fun hp => rfl
      refine ⟨[some (D.p (esq s)), some (.p (.int s.1)), some (.p (.int s.2)), some (.r ah.length), some (.p (.int d)), none, none], [some (D.p (esq s)), some (.p (.int s.1)), some (.p (.int s.2)), some (.r ah.length), some (.p (.int d)), none, none], ah ++ [fsq ((done ++ [d]).flatMap (ars3 s))], rfl, .inl ?_, _, rfl, rfl⟩
      rw [e_expr, e_fMt, e_vs, e_vs, e_vs, e_v0, b_ok, isL_fsq, if_pos rfl, e_cons, hc, b_ok, e_nil, b_ok, b_ok, ext_lst (by rw [hl]; show 3 * done.length + 3 ≤ 1000; omega), t_ok, List.flatMap_append, List.flatMap_cons, List.flatMap_nil, List.append_nil])
    ⟨none, rfl, rfl⟩
  subst e2 e3
  have hit : iAny (fTup (aCons (fNeg (fC (.int 1))) (aCons (fC (.int 0)) (aCons (fC (.int 1)) aNil)))) [some (D.p (esq s)), some (.p (.int s.1)), some (.p (.int s.2)), some (.r ah.length), none, none, none] (ah ++ [fsq []]) = .ok (([-1, 0, 1] : List Int).map fun (d : Int) => D.p (.int d)) (ah ++ [fsq []]) := rfl
  have has : (sAsg (fVar 0) (gPair 1 2)) [some (D.p (esq s)), none, none, none, none, none, none] ah = .nx [some (D.p (esq s)), some (.p (.int s.1)), some (.p (.int s.2)), none, none, none, none] ah := rfl
  have hlc : lcL 6 (tB (f2 gNe (fVar 6) (fVar 0))) (fVar 6) (((([-1, 0, 1] : List Int).flatMap (ars3 s)).map esq).map .p) [some (D.p (esq s)), some (.p (.int s.1)), some (.p (.int s.2)), some (.p (.list ((([-1, 0, 1] : List Int).flatMap (ars3 s)).map esq))), x4, none, none] (ah ++ [.dead]) = .ok ((ars s).map esq) (ah ++ [.dead]) := by
    refine lcL_data esq (fun x => !decide (x = s)) esq _ (fun x _ => ?_) (fun x _ _ => rfl)
    simp only [e_tB, e_f2, e_sets, e_set0, e_vs, e_v0, b_ok, gNe_sq]
  rw [E_around, g_around, e_seq, has, s_nx, e_seq]
  simp only [e_set, e_lstM, e_nil, b_ok, List.length_nil, Nat.zero_le, ↓reduceIte, e_set0, e_sets, t_ok, s_nx]
  have hz : (ah ++ [AO.lst []]) = ah ++ [fsq []] := rfl
  rw [hz, e_seq, e_for, hit, t_ok, e1, s_nx, e_seq, e_frzS (d := .r ah.length) rfl frz_last, s_nx]
  simp only [e_set0, e_sets]
  have hit2 : iAny (fVar 3) [some (D.p (esq s)), some (.p (.int s.1)), some (.p (.int s.2)), some (.p (.list ((([-1, 0, 1] : List Int).flatMap (ars3 s)).map esq))), x4, none, none] (ah ++ [.dead]) = .ok (((([-1, 0, 1] : List Int).flatMap (ars3 s)).map esq).map .p) (ah ++ [.dead]) := rfl
  rw [e_ret, e_lc, hit2, b_ok, if_pos (by rw [List.length_map, List.length_map]; exact (show 9 ≤ 16777216 by decide)), hlc, o_ok, t_ok, e_rt]
/-! ### reached -/
def bT : PyData := .bool true
theorem e_callV {tab : Nat → Option DF} {i n : Nat} {fa : AF} {σ : DS} {ah : AH} {F : DF} (h : σ[i]? = some (some (.f n))) (hF : tab n = some F) : fCallV tab i fa σ ah = (fa σ ah).bind fun ds ah1 => F ds ah1 := by
  unfold fCallV
  rw [h]
  dsimp only
  rw [hF]
def rBody : SF := (sIf (tAndF (tB (f2 gIn (fVar 5) (fVar 0))) (tB (f2 gNotIn (fVar 5) (fVar 3)))) (sSeq (sDPut (fVar 3) (fVar 5) (fC (.bool true))) (sExpr (fMt isL gAppend (fVar 4) (aCons (fVar 5) aNil)))) sNx)
theorem reached_in {ds : D} {P : Sq → Bool} {ah0 : AH} (hin : ∀ (y : Sq) (g : AH), gIn (.p (esq y)) ds (ah0 ++ g) = .ok (.p (.bool (P y))) (ah0 ++ g)) (s : Sq) (k : Nat) : ∀ (ys F T : List Sq) (x5 : Option D) (g : AH), F.length + ys.length ≤ 1000 → T.length + ys.length ≤ 1000 →
    ∃ x5', forL (gN 5) rBody ((ys.map esq).map .p) [some ds, some (.p (esq s)), some (.f k), some (.r ah0.length), some (.r (ah0.length + 1)), x5] (ah0 ++ dF bT F :: fsq T :: g)
      = .nx [some ds, some (.p (esq s)), some (.f k), some (.r ah0.length), some (.r (ah0.length + 1)), x5'] (ah0 ++ dF bT (F ++ addN P F ys) :: fsq (T ++ addN P F ys) :: g)
  | [], F, T, x5, g, _, _ => ⟨x5, by unfold addN; rw [List.append_nil, List.append_nil]; rfl⟩
  | y :: ys, F, T, x5, g, h1, h2 => by
    rw [List.length_cons] at h1 h2
    have hset : ([some ds, some (.p (esq s)), some (.f k), some (.r ah0.length), some (.r (ah0.length + 1)), x5] : DS).set 5 (some (.p (esq y))) = [some ds, some (.p (esq s)), some (.f k), some (.r ah0.length), some (.r (ah0.length + 1)), some (.p (esq y))] := rfl
    have hni : gNotIn (.p (esq y)) (.r ah0.length) (ah0 ++ dF bT F :: fsq T :: g) = .ok (.p (.bool (!decide (y ∈ F)))) (ah0 ++ dF bT F :: fsq T :: g) := notIn_dF (h_at _ _ _)
    have hP := hin y (dF bT F :: fsq T :: g)
    rw [List.map_cons, List.map_cons, e_for_cons, e_gN, hset]
    dsimp only
    unfold addN
    by_cases c : P y = true ∧ y ∉ F
    · rw [if_pos c]
      obtain ⟨x5', ih⟩ := reached_in hin s k ys (F ++ [y]) (T ++ [y]) (some (.p (esq y))) g (by simp only [List.length_append, List.length_cons, List.length_nil]; omega) (by simp only [List.length_append, List.length_cons, List.length_nil]; omega)
      refine ⟨x5', ?_⟩
      have hput : gDPut (.r ah0.length) (.p (esq y)) (.p (.bool true)) (ah0 ++ dF bT F :: fsq T :: g) = some (ah0 ++ dF bT (F ++ [y]) :: fsq T :: g) := put_dF c.2 (by omega)
      have happ := app1 (ah := ah0) (g := g) (x := dF bT (F ++ [y])) (q := T) (y := y) (by omega)
      have hL : isL (ah0 ++ dF bT (F ++ [y]) :: fsq T :: g) (.r (ah0.length + 1)) = true := isL1
      have hb : rBody [some ds, some (.p (esq s)), some (.f k), some (.r ah0.length), some (.r (ah0.length + 1)), some (.p (esq y))] (ah0 ++ dF bT F :: fsq T :: g) = .nx [some ds, some (.p (esq s)), some (.f k), some (.r ah0.length), some (.r (ah0.length + 1)), some (.p (esq y))] (ah0 ++ dF bT (F ++ [y]) :: fsq (T ++ [y]) :: g) := by
        unfold rBody
        simp only [e_seq, e_nx, e_set, e_ret, e_expr, e_if, e_f2, e_call, e_nil, e_cons, e_c, e_v0, e_vs, e_set0, e_sets, e_tB, e_tru, e_notF, e_neg, b_ok, b_ex, t_ok, t_ex, s_nx, s_rt, s_bk, s_ct, s_ex, o_ok, e_rt, e_fnx, i_add, i_sub, i_mod, Int.reduceLT, i_lt, i_le, i_gt, i_ge, i_eq, i_ne, l_add, t_add, e_r1, e_for, e_gN, e_asg, e_tup, e_tupl, e_frz, ↓reduceIte, Bool.false_eq_true, Bool.not_true, Bool.not_false, e_and, e_or, e_yes, hP, c.1, hni, decide_eq_false c.2, e_dput, hput, e_fMt, hL, happ]
      rw [hb]
      dsimp only
      rw [ih, List.append_assoc, List.append_assoc]
      rfl
    · rw [if_neg c]
      obtain ⟨x5', ih⟩ := reached_in hin s k ys F T (some (.p (esq y))) g (by omega) (by omega)
      refine ⟨x5', ?_⟩
      have hb : rBody [some ds, some (.p (esq s)), some (.f k), some (.r ah0.length), some (.r (ah0.length + 1)), some (.p (esq y))] (ah0 ++ dF bT F :: fsq T :: g) = .nx [some ds, some (.p (esq s)), some (.f k), some (.r ah0.length), some (.r (ah0.length + 1)), some (.p (esq y))] (ah0 ++ dF bT F :: fsq T :: g) := by
        unfold rBody
        cases cP : P y with
        | false => simp only [e_seq, e_nx, e_set, e_ret, e_expr, e_if, e_f2, e_call, e_nil, e_cons, e_c, e_v0, e_vs, e_set0, e_sets, e_tB, e_tru, e_notF, e_neg, b_ok, b_ex, t_ok, t_ex, s_nx, s_rt, s_bk, s_ct, s_ex, o_ok, e_rt, e_fnx, i_add, i_sub, i_mod, Int.reduceLT, i_lt, i_le, i_gt, i_ge, i_eq, i_ne, l_add, t_add, e_r1, e_for, e_gN, e_asg, e_tup, e_tupl, e_frz, ↓reduceIte, Bool.false_eq_true, Bool.not_true, Bool.not_false, e_and, e_or, e_yes, hP, cP]
        | true =>
          have c2 : y ∈ F := Decidable.byContradiction fun z => c ⟨cP, z⟩
          simp only [e_seq, e_nx, e_set, e_ret, e_expr, e_if, e_f2, e_call, e_nil, e_cons, e_c, e_v0, e_vs, e_set0, e_sets, e_tB, e_tru, e_notF, e_neg, b_ok, b_ex, t_ok, t_ex, s_nx, s_rt, s_bk, s_ct, s_ex, o_ok, e_rt, e_fnx, i_add, i_sub, i_mod, Int.reduceLT, i_lt, i_le, i_gt, i_ge, i_eq, i_ne, l_add, t_add, e_r1, e_for, e_gN, e_asg, e_tup, e_tupl, e_frz, ↓reduceIte, Bool.false_eq_true, Bool.not_true, Bool.not_false, e_and, e_or, e_yes, hP, cP, hni, decide_eq_true c2]
      rw [hb]
      dsimp only
      exact ih
theorem pureKv_dF (v : PyData) : ∀ F : List Sq, pureKv (F.map fun x => (esq x, D.p v)) = some (F.map fun x => (esq x, v))
  | [] => rfl
  | a :: F => by
    rw [List.map_cons, pureKv, pureKv_dF v F]
    rfl
theorem frz_dF {ah g : AH} {v : PyData} {F : List Sq} : gFrz (.r ah.length) (ah ++ dF v F :: g) = .ok (.p (.dict (F.map fun x => (esq x, v)))) (ah ++ .dead :: g) := by
  unfold gFrz
  dsimp only
  rw [h_at]
  unfold dF
  dsimp only
  rw [pureKv_dF]
  dsimp only
  rw [h_set]
theorem disp_sq {fk fv : EF} {σ : DS} {ah : AH} {s : Sq} {v : PyData} (hk : ∀ ah, fk σ ah = .ok (.p (esq s)) ah) (hv : ∀ ah, fv σ ah = .ok (.p v) ah) : fDisp1 fk fv σ ah = .ok (.r ah.length) (ah ++ [dF v [s]]) := by
  unfold fDisp1
  rw [hk, b_ok, hv, b_ok, get_last]
  dsimp only
  have hput := put_dF (ah := ah) (g := []) (v := v) (F := []) (y := s) (by simp) (by simp)
  have e : ah ++ dF v [] :: [] = ah ++ [.dct []] := rfl
  rw [e] at hput
  rw [hput]
  rfl
theorem F_reached_ok {k : Nat} {nx : Sq → List Sq} {Fk : DF} (hF : tab_reached k = some Fk) (hk : ∀ (s : Sq) (ah : AH), ∃ g, Fk [.p (esq s)] ah = .ok (.p (.list ((nx s).map esq))) (ah ++ g)) (hnl : ∀ s, (nx s).length ≤ 9) {ds : D} {P : Sq → Bool} {ah0 : AH} (hin : ∀ (y : Sq) (g : AH), gIn (.p (esq y)) ds (ah0 ++ g) = .ok (.p (.bool (P y))) (ah0 ++ g)) (s : Sq)
    (U : List Sq) (hU : ∀ x, P x = true → x ∈ U) (hs : s ∈ U) (hUl : U.length ≤ 200) : ∃ F g, Srch P nx s F [] ∧ F_reached [ds, .p (esq s), .f k] ah0 = .ok (.p (.dict (F.map fun x => (esq x, bT)))) (ah0 ++ g) := by
  have key := while_run (c := tTru (fVar 4)) (f := (sFor (iAny (fCallV tab_reached 2 (aCons (fMt0 isL gPop (fVar 4)) aNil))) (gN 5) (sIf (tAndF (tB (f2 gIn (fVar 5) (fVar 0))) (tB (f2 gNotIn (fVar 5) (fVar 3)))) (sSeq (sDPut (fVar 3) (fVar 5) (fC (.bool true))) (sExpr (fMt isL gAppend (fVar 4) (aCons (fVar 5) aNil)))) sNx))) (fun m σ ah => ∃ F T g x5, σ = [some ds, some (.p (esq s)), some (.f k), some (.r ah0.length), some (.r (ah0.length + 1)), x5] ∧ ah = ah0 ++ dF bT F :: fsq T :: g ∧ Srch P nx s F T ∧ m = 2 * (U.length - F.length) + T.length ∧ m ≤ 500)
    (fun σ ah => ∃ F g x5, σ = [some ds, some (.p (esq s)), some (.f k), some (.r ah0.length), some (.r (ah0.length + 1)), x5] ∧ ah = ah0 ++ dF bT F :: fsq [] :: g ∧ Srch P nx s F [])
    (by
      rintro m σ ah ⟨F, T, g, x5, rfl, rfl, S, hm, hm5⟩
      have hFl := S.le hU hs
      have htr : tTru (fVar 4) [some ds, some (.p (esq s)), some (.f k), some (.r ah0.length), some (.r (ah0.length + 1)), x5] (ah0 ++ dF bT F :: fsq T :: g) = .ok (!T.isEmpty) (ah0 ++ dF bT F :: fsq T :: g) := by
        simp only [e_tru, e_vs, e_v0, b_ok, tru1]
      rcases List.eq_nil_or_concat T with rfl | ⟨T', x, rfl⟩
      · exact .inl ⟨_, htr, F, g, x5, rfl, rfl, S⟩
      · rw [List.concat_eq_append] at S hm htr ⊢
        have hTl : T'.length + 1 ≤ 500 := by rw [List.length_append, List.length_singleton] at hm; omega
        have S2 := S.next (T' := T') (x := x) (by simp) (fun z hz => by rcases List.mem_append.mp hz with h | h; exact .inr h; exact .inl (List.mem_singleton.mp h)) (fun z hz => List.mem_append_left _ hz)
        have hF2 := S2.le hU hs
        obtain ⟨g', hc⟩ := hk x (ah0 ++ dF bT F :: fsq T' :: g)
        have hal := addN_len P (nx x) F
        have hn9 := hnl x
        obtain ⟨x5', hl⟩ := reached_in hin s k (nx x) F T' x5 (g ++ g') (by omega) (by omega)
        refine .inr ⟨ah0 ++ dF bT F :: fsq (T' ++ [x]) :: g, [some ds, some (.p (esq s)), some (.f k), some (.r ah0.length), some (.r (ah0.length + 1)), x5'], ah0 ++ dF bT (F ++ addN P F (nx x)) :: fsq (T' ++ addN P F (nx x)) :: (g ++ g'), htr.trans (by simp), ?_, 2 * (U.length - (F ++ addN P F (nx x)).length) + (T' ++ addN P F (nx x)).length, ?_, F ++ addN P F (nx x), T' ++ addN P F (nx x), g ++ g', x5', rfl, rfl, S2, rfl, ?_⟩
        · have hit : iAny (fCallV tab_reached 2 (aCons (fMt0 isL gPop (fVar 4)) aNil)) [some ds, some (.p (esq s)), some (.f k), some (.r ah0.length), some (.r (ah0.length + 1)), x5] (ah0 ++ dF bT F :: fsq (T' ++ [x]) :: g) = .ok (((nx x).map esq).map .p) (ah0 ++ dF bT F :: fsq T' :: (g ++ g')) := by
            have hL : isL (ah0 ++ dF bT F :: fsq (T' ++ [x]) :: g) (.r (ah0.length + 1)) = true := isL1
            rw [e_any, e_callV (n := k) rfl hF, e_cons, e_fMt0, e_vs, e_vs, e_vs, e_vs, e_v0, b_ok, if_pos hL, pop1, b_ok, e_nil, b_ok, b_ok, hc, b_ok]
            have : ah0 ++ dF bT F :: fsq T' :: g ++ g' = ah0 ++ dF bT F :: fsq T' :: (g ++ g') := by simp
            rw [this]
          rw [e_for, hit, t_ok]
          exact hl
        · rw [List.length_append] at hm hF2 ⊢
          rw [List.length_append, List.length_singleton] at *
          omega
        · rw [List.length_append] at hm hF2 ⊢
          rw [List.length_append, List.length_singleton] at *
          omega)
  obtain ⟨σ', ah', e1, F, g, x5, e2, e3, S⟩ := key 100000 (2 * (U.length - 1) + 1) [some ds, some (.p (esq s)), some (.f k), some (.r ah0.length), some (.r (ah0.length + 1)), none] (ah0 ++ dF bT [s] :: fsq [s] :: []) (by omega) ⟨[s], [s], [], none, rfl, rfl, srch_0 P nx s, rfl, by omega⟩
  subst e2 e3
  refine ⟨F, .dead :: fsq [] :: g, S, ?_⟩
  have hd : fDisp1 (fVar 1) (fC (.bool true)) [some ds, some (.p (esq s)), some (.f k), none, none, none] ah0 = .ok (.r ah0.length) (ah0 ++ [dF bT [s]]) := disp_sq (fun ah => rfl) (fun ah => rfl)
  have h2 : sSet 4 (fLstM (aCons (fVar 1) aNil)) [some ds, some (.p (esq s)), some (.f k), some (.r ah0.length), none, none] (ah0 ++ [dF bT [s]]) = .nx [some ds, some (.p (esq s)), some (.f k), some (.r ah0.length), some (.r (ah0.length + 1)), none] (ah0 ++ dF bT [s] :: fsq [s] :: []) := by
    simp only [e_set, e_lstM, e_cons, e_vs, e_v0, e_nil, b_ok, t_ok, List.length_cons, List.length_nil, Nat.reduceAdd, Nat.reduceLeDiff, ↓reduceIte, List.length_append, e_sets, e_set0, List.append_assoc, List.cons_append, List.nil_append]
    rfl
  rw [E_reached, g_reached, e_seq, e_set, hd, t_ok, s_nx]
  simp only [e_sets, e_set0]
  rw [e_seq, h2, s_nx, e_seq, e1, s_nx, e_ret, e_frz, e_vs, e_vs, e_vs, e_v0, b_ok, frz_dF, t_ok, e_rt]
end DL

set_option Elab.async false
set_option linter.all false
set_option maxRecDepth 100000
/-! MZ: is_plain and the law's own finding. -/
namespace DL
open PySem PySem.Spec PyProof.Rows L2
theorem b_eq {a b : Bool} {ah : AH} : gEq (.p (.bool a)) (.p (.bool b)) ah = .ok (.p (.bool (a == b))) ah := by cases a <;> cases b <;> rfl
theorem b_ne {a b : Bool} {ah : AH} : gNe (.p (.bool a)) (.p (.bool b)) ah = .ok (.p (.bool (!(a == b)))) ah := by cases a <;> cases b <;> rfl
theorem notIn_sq (l : List Sq) (a : Sq) (ah : AH) : gNotIn (.p (esq a)) (.p (efl l)) ah = .ok (.p (.bool (!decide (a ∈ l)))) ah := by
  have h : inOf ah (.p (esq a)) (.p (efl l)) = some (decide (a ∈ l)) := by
    unfold inOf
    show (if (SeqAt.shaped (esq a) && SeqAt.shaped (.tuple (l.map esq))) = true then some ((l.map esq).any fun y => PyData.eqv y (esq a)) else none) = _
    rw [shaped_esq, shaped_tup, Bool.and_self, if_pos rfl, any_esq]
  unfold gNotIn
  rw [h]
/-! ### pinched -/
def pinB (l : List Sq) (r c : Int) : Bool := (decide ((r, c) ∈ l) == decide ((r + 1, c + 1) ∈ l)) && ((decide ((r, c + 1) ∈ l) == decide ((r + 1, c) ∈ l)) && !(decide ((r, c) ∈ l) == decide ((r, c + 1) ∈ l)))
def Pin (l : List Sq) : Prop := ∃ r c : Nat, r < 7 ∧ c < 7 ∧ pinB l r c = true
theorem pin_body (l : List Sq) (r c : Int) (x3 x4 : Option D) (ah : AH) : (sSeq (sSet 3 (fLst (aCons (f2 gIn (fTup (aCons (fVar 1) (aCons (fVar 2) aNil))) (fVar 0)) (aCons (f2 gIn (fTup (aCons (f2 gAdd (fVar 1) (fC (.int 1))) (aCons (f2 gAdd (fVar 2) (fC (.int 1))) aNil))) (fVar 0)) aNil)))) (sSeq (sSet 4 (fLst (aCons (f2 gIn (fTup (aCons (fVar 1) (aCons (f2 gAdd (fVar 2) (fC (.int 1))) aNil))) (fVar 0)) (aCons (f2 gIn (fTup (aCons (f2 gAdd (fVar 1) (fC (.int 1))) (aCons (fVar 2) aNil))) (fVar 0)) aNil)))) (sIf (tAndF (tB (f2 gEq (f2 gSub2 (fVar 3) (fC (.int 0))) (f2 gSub2 (fVar 3) (fC (.int 1))))) (tAndF (tB (f2 gEq (f2 gSub2 (fVar 4) (fC (.int 0))) (f2 gSub2 (fVar 4) (fC (.int 1))))) (tB (f2 gNe (f2 gSub2 (fVar 3) (fC (.int 0))) (f2 gSub2 (fVar 4) (fC (.int 0))))))) (sRet (fC (.bool true))) sNx))) [some (.p (efl l)), some (.p (.int r)), some (.p (.int c)), x3, x4] ah
    = if pinB l r c = true then .rt (.p (.bool true)) ah else .nx [some (.p (efl l)), some (.p (.int r)), some (.p (.int c)), some (.p (.list [.bool (decide ((r, c) ∈ l)), .bool (decide ((r + 1, c + 1) ∈ l))])), some (.p (.list [.bool (decide ((r, c + 1) ∈ l)), .bool (decide ((r + 1, c) ∈ l))]))] ah := by
  have t1 : ∀ x3 x4, fTup (aCons (fVar 1) (aCons (fVar 2) aNil)) [some (.p (efl l)), some (.p (.int r)), some (.p (.int c)), x3, x4] ah = .ok (.p (esq (r, c))) ah := fun _ _ => rfl
  have t2 : ∀ x3 x4, fTup (aCons (f2 gAdd (fVar 1) (fC (.int 1))) (aCons (f2 gAdd (fVar 2) (fC (.int 1))) aNil)) [some (.p (efl l)), some (.p (.int r)), some (.p (.int c)), x3, x4] ah = .ok (.p (esq (r + 1, c + 1))) ah := fun _ _ => rfl
  have t3 : ∀ x3 x4, fTup (aCons (fVar 1) (aCons (f2 gAdd (fVar 2) (fC (.int 1))) aNil)) [some (.p (efl l)), some (.p (.int r)), some (.p (.int c)), x3, x4] ah = .ok (.p (esq (r, c + 1))) ah := fun _ _ => rfl
  have t4 : ∀ x3 x4, fTup (aCons (f2 gAdd (fVar 1) (fC (.int 1))) (aCons (fVar 2) aNil)) [some (.p (efl l)), some (.p (.int r)), some (.p (.int c)), x3, x4] ah = .ok (.p (esq (r + 1, c))) ah := fun _ _ => rfl
  have h3 : (sSet 3 (fLst (aCons (f2 gIn (fTup (aCons (fVar 1) (aCons (fVar 2) aNil))) (fVar 0)) (aCons (f2 gIn (fTup (aCons (f2 gAdd (fVar 1) (fC (.int 1))) (aCons (f2 gAdd (fVar 2) (fC (.int 1))) aNil))) (fVar 0)) aNil)))) [some (.p (efl l)), some (.p (.int r)), some (.p (.int c)), x3, x4] ah = .nx [some (.p (efl l)), some (.p (.int r)), some (.p (.int c)), some (.p (.list [.bool (decide ((r, c) ∈ l)), .bool (decide ((r + 1, c + 1) ∈ l))])), x4] ah := by
    rw [e_set, e_lst, e_cons, e_f2, t1, b_ok, e_v0, b_ok, gIn_sq, b_ok, e_cons, e_f2, t2, b_ok, e_v0, b_ok, gIn_sq, b_ok, e_nil, b_ok, b_ok, b_ok]
    rfl
  have h4 : (sSet 4 (fLst (aCons (f2 gIn (fTup (aCons (fVar 1) (aCons (f2 gAdd (fVar 2) (fC (.int 1))) aNil))) (fVar 0)) (aCons (f2 gIn (fTup (aCons (f2 gAdd (fVar 1) (fC (.int 1))) (aCons (fVar 2) aNil))) (fVar 0)) aNil)))) [some (.p (efl l)), some (.p (.int r)), some (.p (.int c)), some (.p (.list [.bool (decide ((r, c) ∈ l)), .bool (decide ((r + 1, c + 1) ∈ l))])), x4] ah = .nx [some (.p (efl l)), some (.p (.int r)), some (.p (.int c)), some (.p (.list [.bool (decide ((r, c) ∈ l)), .bool (decide ((r + 1, c + 1) ∈ l))])), some (.p (.list [.bool (decide ((r, c + 1) ∈ l)), .bool (decide ((r + 1, c) ∈ l))]))] ah := by
    rw [e_set, e_lst, e_cons, e_f2, t3, b_ok, e_v0, b_ok, gIn_sq, b_ok, e_cons, e_f2, t4, b_ok, e_v0, b_ok, gIn_sq, b_ok, e_nil, b_ok, b_ok, b_ok]
    rfl
  have s0 : ∀ (x y : PyData), gSub2 (.p (.list [x, y])) (.p (.int 0)) ah = .ok (.p x) ah := fun x y => sub_lst (k := 0) rfl ah
  have s1 : ∀ (x y : PyData), gSub2 (.p (.list [x, y])) (.p (.int 1)) ah = .ok (.p y) ah := fun x y => sub_lst (k := 1) rfl ah
  rw [e_seq, h3, s_nx, e_seq, h4, s_nx]
  unfold pinB
  generalize decide ((r, c) ∈ l) = a
  generalize decide ((r + 1, c + 1) ∈ l) = d
  generalize decide ((r, c + 1) ∈ l) = b
  generalize decide ((r + 1, c) ∈ l) = e
  simp only [e_seq, e_nx, e_set, e_ret, e_expr, e_if, e_f2, e_call, e_nil, e_cons, e_c, e_v0, e_vs, e_set0, e_sets, e_tB, e_tru, e_notF, e_neg, b_ok, b_ex, t_ok, t_ex, s_nx, s_rt, s_bk, s_ct, s_ex, o_ok, e_rt, e_fnx, i_add, i_sub, i_mod, Int.reduceLT, i_lt, i_le, i_gt, i_ge, i_eq, i_ne, l_add, t_add, e_r1, e_for, e_lc, e_gN, e_asg, e_tup, e_any, e_tupl, e_frz, ↓reduceIte, Bool.false_eq_true, Bool.not_true, Bool.not_false, e_and, e_or, e_yes, s0, s1, b_eq, b_ne]
  cases (a == d) <;> cases (b == e) <;> cases (a == b) <;> rfl
theorem F_pinched_ok (l : List Sq) (ah : AH) : ∃ b, F_is_pinched [.p (efl l)] ah = .ok (.p (.bool b)) ah ∧ (b = true ↔ Pin l) := by
  have ro : rOk 7 = true := rOk_nat (n := 7) (by decide)
  have hr : rangeD 0 (Int.toNat 7) = (List.range 7).map fun (i : Nat) => D.p (.int (i : Int)) := rangeD_map 7
  have inner : ∀ (r : Nat) (x2 x3 x4 : Option D), (∃ x2' x3' x4', forL (gN 2) (sSeq (sSet 3 (fLst (aCons (f2 gIn (fTup (aCons (fVar 1) (aCons (fVar 2) aNil))) (fVar 0)) (aCons (f2 gIn (fTup (aCons (f2 gAdd (fVar 1) (fC (.int 1))) (aCons (f2 gAdd (fVar 2) (fC (.int 1))) aNil))) (fVar 0)) aNil)))) (sSeq (sSet 4 (fLst (aCons (f2 gIn (fTup (aCons (fVar 1) (aCons (f2 gAdd (fVar 2) (fC (.int 1))) aNil))) (fVar 0)) (aCons (f2 gIn (fTup (aCons (f2 gAdd (fVar 1) (fC (.int 1))) (aCons (fVar 2) aNil))) (fVar 0)) aNil)))) (sIf (tAndF (tB (f2 gEq (f2 gSub2 (fVar 3) (fC (.int 0))) (f2 gSub2 (fVar 3) (fC (.int 1))))) (tAndF (tB (f2 gEq (f2 gSub2 (fVar 4) (fC (.int 0))) (f2 gSub2 (fVar 4) (fC (.int 1))))) (tB (f2 gNe (f2 gSub2 (fVar 3) (fC (.int 0))) (f2 gSub2 (fVar 4) (fC (.int 0))))))) (sRet (fC (.bool true))) sNx))) ((List.range 7).map fun (c : Nat) => D.p (.int (c : Int))) [some (.p (efl l)), some (.p (.int (r : Int))), x2, x3, x4] ah = .nx [some (.p (efl l)), some (.p (.int (r : Int))), x2', x3', x4'] ah ∧ ∀ c : Nat, c < 7 → pinB l r c = false) ∨
      (forL (gN 2) (sSeq (sSet 3 (fLst (aCons (f2 gIn (fTup (aCons (fVar 1) (aCons (fVar 2) aNil))) (fVar 0)) (aCons (f2 gIn (fTup (aCons (f2 gAdd (fVar 1) (fC (.int 1))) (aCons (f2 gAdd (fVar 2) (fC (.int 1))) aNil))) (fVar 0)) aNil)))) (sSeq (sSet 4 (fLst (aCons (f2 gIn (fTup (aCons (fVar 1) (aCons (f2 gAdd (fVar 2) (fC (.int 1))) aNil))) (fVar 0)) (aCons (f2 gIn (fTup (aCons (f2 gAdd (fVar 1) (fC (.int 1))) (aCons (fVar 2) aNil))) (fVar 0)) aNil)))) (sIf (tAndF (tB (f2 gEq (f2 gSub2 (fVar 3) (fC (.int 0))) (f2 gSub2 (fVar 3) (fC (.int 1))))) (tAndF (tB (f2 gEq (f2 gSub2 (fVar 4) (fC (.int 0))) (f2 gSub2 (fVar 4) (fC (.int 1))))) (tB (f2 gNe (f2 gSub2 (fVar 3) (fC (.int 0))) (f2 gSub2 (fVar 4) (fC (.int 0))))))) (sRet (fC (.bool true))) sNx))) ((List.range 7).map fun (c : Nat) => D.p (.int (c : Int))) [some (.p (efl l)), some (.p (.int (r : Int))), x2, x3, x4] ah = .rt (.p (.bool true)) ah ∧ ∃ c : Nat, c < 7 ∧ pinB l r c = true) := by
    intro r x2 x3 x4
    rcases for_rt (σ := [some (D.p (efl l)), some (.p (.int (r : Int))), x2, x3, x4]) (ah := ah) (gt := gN 2) (f := (sSeq (sSet 3 (fLst (aCons (f2 gIn (fTup (aCons (fVar 1) (aCons (fVar 2) aNil))) (fVar 0)) (aCons (f2 gIn (fTup (aCons (f2 gAdd (fVar 1) (fC (.int 1))) (aCons (f2 gAdd (fVar 2) (fC (.int 1))) aNil))) (fVar 0)) aNil)))) (sSeq (sSet 4 (fLst (aCons (f2 gIn (fTup (aCons (fVar 1) (aCons (f2 gAdd (fVar 2) (fC (.int 1))) aNil))) (fVar 0)) (aCons (f2 gIn (fTup (aCons (f2 gAdd (fVar 1) (fC (.int 1))) (aCons (fVar 2) aNil))) (fVar 0)) aNil)))) (sIf (tAndF (tB (f2 gEq (f2 gSub2 (fVar 3) (fC (.int 0))) (f2 gSub2 (fVar 3) (fC (.int 1))))) (tAndF (tB (f2 gEq (f2 gSub2 (fVar 4) (fC (.int 0))) (f2 gSub2 (fVar 4) (fC (.int 1))))) (tB (f2 gNe (f2 gSub2 (fVar 3) (fC (.int 0))) (f2 gSub2 (fVar 4) (fC (.int 0))))))) (sRet (fC (.bool true))) sNx)))) (fun (c : Nat) => D.p (.int (c : Int)))
      (fun done σ ah' => ah' = ah ∧ (∃ x2 x3 x4, σ = [some (D.p (efl l)), some (.p (.int (r : Int))), x2, x3, x4]) ∧ ∀ c ∈ done, pinB l (r : Int) ((c : Nat) : Int) = false)
      (fun d ah' => d = .p (.bool true) ∧ ah' = ah ∧ ∃ c : Nat, c < 7 ∧ pinB l (r : Int) (c : Int) = true) (List.range 7)
      (by
        intro done c rest e σ ah' hI
        obtain ⟨rfl, ⟨x2, x3, x4, rfl⟩, hd⟩ := hI
        have hc : c < 7 := by
          have : c ∈ List.range 7 := by rw [e]; simp
          exact List.mem_range.mp this
        refine ⟨[some (D.p (efl l)), some (.p (.int (r : Int))), some (.p (.int (c : Int))), x3, x4], rfl, ?_⟩
        rw [pin_body]
        cases hp : pinB l (r : Int) (c : Int) with
        | true => exact .inr ⟨_, _, rfl, rfl, rfl, c, hc, hp⟩
        | false =>
          refine .inl ⟨_, _, .inl rfl, rfl, ⟨_, _, _, rfl⟩, fun c' hc' => ?_⟩
          rcases List.mem_append.mp hc' with h | h
          · exact hd c' h
          · rw [List.mem_singleton.mp h]; exact hp)
      ⟨rfl, ⟨x2, x3, x4, rfl⟩, fun c hc => by cases hc⟩ with ⟨σ', ah', e1, rfl, ⟨x2', x3', x4', rfl⟩, h⟩ | ⟨d, ah', e1, rfl, rfl, h⟩
    · exact .inl ⟨x2', x3', x4', e1, fun c hc => h c (List.mem_range.mpr hc)⟩
    · exact .inr ⟨e1, h⟩
  have hit : ∀ (σ : DS), iRange1 (aCons (fC (.int 7)) aNil) σ ah = .ok ((List.range 7).map fun (c : Nat) => D.p (.int (c : Int))) ah := fun σ => by
    rw [e_r1, e_cons, e_c, b_ok, e_nil, b_ok, b_ok]
    dsimp only
    rw [if_pos ro, hr]
  rcases for_rt (σ := [some (D.p (efl l)), none, none, none, none]) (ah := ah) (gt := gN 1) (f := (sFor (iRange1 (aCons (fC (.int 7)) aNil)) (gN 2) (sSeq (sSet 3 (fLst (aCons (f2 gIn (fTup (aCons (fVar 1) (aCons (fVar 2) aNil))) (fVar 0)) (aCons (f2 gIn (fTup (aCons (f2 gAdd (fVar 1) (fC (.int 1))) (aCons (f2 gAdd (fVar 2) (fC (.int 1))) aNil))) (fVar 0)) aNil)))) (sSeq (sSet 4 (fLst (aCons (f2 gIn (fTup (aCons (fVar 1) (aCons (f2 gAdd (fVar 2) (fC (.int 1))) aNil))) (fVar 0)) (aCons (f2 gIn (fTup (aCons (f2 gAdd (fVar 1) (fC (.int 1))) (aCons (fVar 2) aNil))) (fVar 0)) aNil)))) (sIf (tAndF (tB (f2 gEq (f2 gSub2 (fVar 3) (fC (.int 0))) (f2 gSub2 (fVar 3) (fC (.int 1))))) (tAndF (tB (f2 gEq (f2 gSub2 (fVar 4) (fC (.int 0))) (f2 gSub2 (fVar 4) (fC (.int 1))))) (tB (f2 gNe (f2 gSub2 (fVar 3) (fC (.int 0))) (f2 gSub2 (fVar 4) (fC (.int 0))))))) (sRet (fC (.bool true))) sNx))))) (fun (c : Nat) => D.p (.int (c : Int)))
    (fun done σ ah' => ah' = ah ∧ (∃ x1 x2 x3 x4, σ = [some (D.p (efl l)), x1, x2, x3, x4]) ∧ ∀ r ∈ done, ∀ c : Nat, c < 7 → pinB l ((r : Nat) : Int) (c : Int) = false)
    (fun d ah' => d = .p (.bool true) ∧ ah' = ah ∧ Pin l) (List.range 7)
    (by
      intro done r rest e σ ah' hI
      obtain ⟨rfl, ⟨x1, x2, x3, x4, rfl⟩, hd⟩ := hI
      have hrr : r < 7 := by
        have : r ∈ List.range 7 := by rw [e]; simp
        exact List.mem_range.mp this
      refine ⟨[some (D.p (efl l)), some (.p (.int (r : Int))), x2, x3, x4], rfl, ?_⟩
      rw [e_for, hit, t_ok]
      rcases inner r x2 x3 x4 with ⟨x2', x3', x4', h1, h2⟩ | ⟨h1, c, hc, h2⟩
      · refine .inl ⟨_, _, .inl h1, rfl, ⟨_, _, _, _, rfl⟩, fun r' hr' => ?_⟩
        rcases List.mem_append.mp hr' with h | h
        · exact hd r' h
        · rw [List.mem_singleton.mp h]; exact h2
      · exact .inr ⟨_, _, h1, rfl, rfl, r, c, hrr, hc, h2⟩)
    ⟨rfl, ⟨none, none, none, none, rfl⟩, fun c hc => by cases hc⟩ with ⟨σ', ah', e1, rfl, ⟨x1', x2', x3', x4', rfl⟩, h⟩ | ⟨d, ah', e1, rfl, rfl, h⟩
  · refine ⟨false, ?_, ⟨(fun z => by cases z), fun ⟨r, c, h1, h2, h3⟩ => ?_⟩⟩
    · rw [E_is_pinched, g_is_pinched, e_seq, e_for, hit, t_ok, e1, s_nx]
      rfl
    · rw [h r (List.mem_range.mpr h1) c h2] at h3
      cases h3
  · refine ⟨true, ?_, ⟨fun _ => h, fun _ => rfl⟩⟩
    rw [E_is_pinched, g_is_pinched, e_seq, e_for, hit, t_ok, e1, s_rt, e_rt]
/-! ### the squares outside -/
def gridRow (i : Nat) : List Sq := (List.range 10).map fun (j : Nat) => ((-1 + (i : Int), -1 + (j : Int)) : Sq)
def outRow (l : List Sq) (i : Nat) : List Sq := (gridRow i).filter fun x => !decide (x ∈ l)
def out (l : List Sq) : List Sq := (List.range 10).flatMap (outRow l)
theorem mem_out {l : List Sq} {x : Sq} : x ∈ out l ↔ (-1 ≤ x.1 ∧ x.1 ≤ 8 ∧ -1 ≤ x.2 ∧ x.2 ≤ 8) ∧ x ∉ l := by
  unfold out outRow gridRow
  rw [List.mem_flatMap]
  constructor
  · rintro ⟨i, hi, h⟩
    rw [List.mem_filter] at h
    obtain ⟨h1, h2⟩ := h
    obtain ⟨j, hj, rfl⟩ := List.mem_map.mp h1
    rw [List.mem_range] at hi hj
    refine ⟨by dsimp only; omega, by simpa using h2⟩
  · rintro ⟨h1, h2⟩
    obtain ⟨x1, x2⟩ := x
    dsimp only at h1
    refine ⟨(x1 + 1).toNat, List.mem_range.mpr (by omega), List.mem_filter.mpr ⟨List.mem_map.mpr ⟨(x2 + 1).toNat, List.mem_range.mpr (by omega), ?_⟩, by simpa using h2⟩⟩
    exact Prod.ext (by show -1 + ((x1 + 1).toNat : Int) = x1; omega) (by show -1 + ((x2 + 1).toNat : Int) = x2; omega)
theorem gridRow_up (i : Nat) : (gridRow i).Pairwise sqLt := by
  unfold gridRow
  rw [List.pairwise_map]
  exact List.pairwise_lt_range.imp fun {a b} h => .inr ⟨rfl, by show -1 + (a : Int) < -1 + (b : Int); omega⟩
theorem out_up (l : List Sq) : (out l).Pairwise sqLt := by
  unfold out
  rw [List.pairwise_flatMap]
  refine ⟨fun i _ => (gridRow_up i).sublist List.filter_sublist, List.pairwise_lt_range.imp fun {a b} h x hx y hy => ?_⟩
  obtain ⟨_, _, rfl⟩ := List.mem_map.mp (List.mem_filter.mp hx).1
  obtain ⟨_, _, rfl⟩ := List.mem_map.mp (List.mem_filter.mp hy).1
  exact .inl (by show -1 + (a : Int) < -1 + (b : Int); omega)
theorem out_nil_len : (out []).length = 100 := by decide
theorem same_len {F U : List Sq} (h1 : F.Nodup) (h2 : U.Nodup) (h : ∀ x, x ∈ F ↔ x ∈ U) : F.length = U.length := ((List.perm_ext_iff_of_nodup h1 h2).mpr h).length_eq
theorem full_iff {F U : List Sq} (h1 : F.Nodup) (h2 : U.Nodup) (h : ∀ x ∈ F, x ∈ U) : F.length = U.length ↔ ∀ x ∈ U, x ∈ F := by
  constructor
  · intro e x hx
    refine Decidable.byContradiction fun z => ?_
    have := nd_le F (U.filter fun y => decide (y ≠ x)) h1 fun y hy => by
      rw [List.mem_filter, decide_eq_true_eq]
      exact ⟨h y hy, fun w => z (w ▸ hy)⟩
    have := filter_lt hx
    omega
  · intro hx
    exact same_len h1 h2 fun x => ⟨h x, hx x⟩
theorem out_len {l : List Sq} (fl : Flo l) : (out l).length + l.length = 100 := by
  have nd : (out l ++ l).Nodup := by
    rw [List.nodup_append]
    exact ⟨up_nd (out_up l), up_nd fl.up, fun a ha b hb e => (mem_out.mp ha).2 (e ▸ hb)⟩
  have := same_len nd (up_nd (out_up [])) fun x => by
    rw [List.mem_append, mem_out, mem_out]
    constructor
    · rintro (h | h)
      · exact ⟨h.1, by simp⟩
      · have := fl.in_ x h
        exact ⟨by omega, by simp⟩
    · rintro ⟨h, _⟩
      by_cases c : x ∈ l
      · exact .inr c
      · exact .inl ⟨h, c⟩
  rw [List.length_append, out_nil_len] at this
  exact this
structure Plain (l : List Sq) : Prop where
  hang : ∀ s ∈ l, Rch (fun x => decide (x ∈ l)) nbs (l.headD (0, 0)) s
  hole : ∀ s ∈ out l, Rch (fun x => decide (x ∈ out l)) ars (-1, -1) s
  pin : ¬ Pin l
theorem len_d {kvs : List (PyData × PyData)} {ah : AH} : gLen [.p (.dict kvs)] ah = .ok (.p (.int kvs.length)) ah := by
  show R.ok (D.p (.int ((kvs.map fun e => (e.1, D.p e.2)).length : Nat))) ah = _
  rw [List.length_map]
theorem in_ref {ah g : AH} {q : List Sq} {x : Sq} : gIn (.p (esq x)) (.r ah.length) (ah ++ fsq q :: g) = .ok (.p (.bool (decide (x ∈ q)))) (ah ++ fsq q :: g) := by
  have h : inOf (ah ++ fsq q :: g) (.p (esq x)) (.r ah.length) = some (decide (x ∈ q)) := by
    unfold inOf fsq
    have e1 : dctOf (ah ++ .lst ((q.map esq).map .p) :: g) (.r ah.length) = none := by unfold dctOf; simp only [h_at]
    have e2 : dataOf (ah ++ .lst ((q.map esq).map .p) :: g) (.r ah.length) = some (.list (q.map esq)) := by unfold dataOf; simp only [h_at, pures_p]; rfl
    rw [e1, e2]
    show (if (SeqAt.shaped (esq x) && SeqAt.shaped (.list (q.map esq))) = true then some ((q.map esq).any fun y => PyData.eqv y (esq x)) else none) = _
    rw [shaped_esq, shaped_lst, Bool.and_self, if_pos rfl, any_esq]
  unfold gIn
  rw [h]
theorem len_ref {ah g : AH} {q : List Sq} : gLen [.r ah.length] (ah ++ fsq q :: g) = .ok (.p (.int q.length)) (ah ++ fsq q :: g) := by
  have h : itemsOf (ah ++ fsq q :: g) (.r ah.length) = some ((q.map esq).map .p) := by
    unfold itemsOf fsq
    simp only [h_at]
  unfold gLen
  dsimp only
  rw [h]
  dsimp only
  rw [List.length_map, List.length_map]
theorem ars_len (s : Sq) : (ars s).length ≤ 9 := List.length_filter_le _ _
theorem head_eq {l : List Sq} (h : l ≠ []) : ∃ s r, l = s :: r ∧ l.headD (0, 0) = s := by
  obtain ⟨s, r, rfl⟩ := List.exists_cons_of_ne_nil h
  exact ⟨s, r, rfl, rfl⟩
theorem outside_ok (l : List Sq) (ah : AH) : ∃ x2, (sFor (iRange2 (aCons (fNeg (fC (.int 1))) (aCons (f2 gAdd (fC (.int 7)) (fC (.int 2))) aNil))) (gN 2) (sExpr (fMt isL gExtend (fVar 1) (aCons (fLc (iRange2 (aCons (fNeg (fC (.int 1))) (aCons (f2 gAdd (fC (.int 7)) (fC (.int 2))) aNil))) 3 (tB (f2 gNotIn (fTup (aCons (fVar 2) (aCons (fVar 3) aNil))) (fVar 0))) (fTup (aCons (fVar 2) (aCons (fVar 3) aNil)))) aNil)))) [some (.p (efl l)), some (.r ah.length), none, none] (ah ++ [fsq []]) = .nx [some (.p (efl l)), some (.r ah.length), x2, none] (ah ++ [fsq (out l)]) := by
  have ro : (rOk (-1) && rOk 9) = true := by decide +kernel
  have hr : rangeD (-1) (Int.toNat (9 - -1)) = (List.range 10).map fun (i : Nat) => D.p (.int (-1 + (i : Int))) := rfl
  have hit : ∀ (σ : DS) (ah : AH), iRange2 (aCons (fNeg (fC (.int 1))) (aCons (f2 gAdd (fC (.int 7)) (fC (.int 2))) aNil)) σ ah = .ok ((List.range 10).map fun (i : Nat) => D.p (.int (-1 + (i : Int)))) ah := fun σ ah => by
    rw [e_r2, e_cons, e_neg, e_c, b_ok]
    dsimp only
    rw [b_ok, e_cons, e_f2, e_c, b_ok, e_c, b_ok, i_add, b_ok, e_nil, b_ok, b_ok, b_ok]
    dsimp only
    rw [show (7 : Int) + 2 = 9 from rfl, if_pos ro, hr]
  obtain ⟨σ', ah', e1, x2, e2, e3⟩ := for_inv (σ := [some (D.p (efl l)), some (.r ah.length), none, none]) (ah := ah ++ [fsq []]) (gt := gN 2) (f := (sExpr (fMt isL gExtend (fVar 1) (aCons (fLc (iRange2 (aCons (fNeg (fC (.int 1))) (aCons (f2 gAdd (fC (.int 7)) (fC (.int 2))) aNil))) 3 (tB (f2 gNotIn (fTup (aCons (fVar 2) (aCons (fVar 3) aNil))) (fVar 0))) (fTup (aCons (fVar 2) (aCons (fVar 3) aNil)))) aNil)))) (fun (i : Nat) => D.p (.int (-1 + (i : Int))))
    (fun done σ ah' => ∃ x2, σ = [some (D.p (efl l)), some (.r ah.length), x2, none] ∧ ah' = ah ++ [fsq (done.flatMap (outRow l))]) (List.range 10)
    (by
      intro done i rest e σ ah' hI
      obtain ⟨x2, rfl, rfl⟩ := hI
      have hd : done.length ≤ 10 := by
        have := congrArg List.length e
        rw [List.length_append, List.length_range] at this
        omega
      have hrow : ∀ i, (outRow l i).length ≤ 10 := fun i => Nat.le_trans (List.length_filter_le _ _) (by unfold gridRow; rw [List.length_map, List.length_range]; exact Nat.le_refl _)
      have hfl : (done.flatMap (outRow l)).length ≤ done.length * 10 := by
        rw [List.length_flatMap]
        exact sum_le (fun i => (outRow l i).length) 10 done fun i _ => hrow i
      have hlc : ∀ hp : AH, lcL 3 (tB (f2 gNotIn (fTup (aCons (fVar 2) (aCons (fVar 3) aNil))) (fVar 0))) (fTup (aCons (fVar 2) (aCons (fVar 3) aNil))) ((List.range 10).map fun (j : Nat) => D.p (.int (-1 + (j : Int)))) [some (D.p (efl l)), some (.r ah.length), some (.p (.int (-1 + (i : Int)))), none] hp = .ok ((outRow l i).map esq) hp := fun hp => by
        have h1 : outRow l i = ((List.range 10).filter fun (j : Nat) => !decide (((-1 + (i : Int), -1 + (j : Int)) : Sq) ∈ l)).map fun (j : Nat) => ((-1 + (i : Int), -1 + (j : Int)) : Sq) := by
          unfold outRow gridRow
          rw [List.filter_map]
          rfl
        rw [h1, List.map_map]
        refine lcL_map (fun (j : Nat) => D.p (.int (-1 + (j : Int)))) (fun (j : Nat) => !decide (((-1 + (i : Int), -1 + (j : Int)) : Sq) ∈ l)) (fun (j : Nat) => esq (-1 + (i : Int), -1 + (j : Int))) (List.range 10) (fun j _ => ?_) (fun j _ _ => rfl)
        have t : fTup (aCons (fVar 2) (aCons (fVar 3) aNil)) [some (D.p (efl l)), some (.r ah.length), some (.p (.int (-1 + (i : Int)))), some (.p (.int (-1 + (j : Int))))] hp = .ok (.p (esq (-1 + (i : Int), -1 + (j : Int)))) hp := rfl
        rw [e_tB, e_f2]
        simp only [e_sets, e_set0]
        rw [t, b_ok, e_v0, b_ok, notIn_sq, b_ok]
      have hrl := hrow i
      refine ⟨[some (D.p (efl l)), some (.r ah.length), some (.p (.int (-1 + (i : Int)))), none], [some (D.p (efl l)), some (.r ah.length), some (.p (.int (-1 + (i : Int)))), none], ah ++ [fsq ((done ++ [i]).flatMap (outRow l))], rfl, .inl ?_, _, rfl, rfl⟩
      rw [e_expr, e_fMt, e_vs, e_v0, b_ok, isL_fsq, if_pos rfl, e_cons, e_lc, hit, b_ok, if_pos (by rw [List.length_map, List.length_range]; decide), hlc, o_ok, b_ok, e_nil, b_ok, b_ok, ext_lst (by omega), t_ok, List.flatMap_append, List.flatMap_cons, List.flatMap_nil, List.append_nil])
    ⟨none, rfl, rfl⟩
  subst e2 e3
  refine ⟨x2, ?_⟩
  rw [e_for, hit, t_ok]
  exact e1
theorem F_isPlain_ok {l : List Sq} (fl : Flo l) (ah : AH) : ∃ b ah', F_is_plain [.p (efl l)] ah = .ok (.p (.bool b)) ah' ∧ (b = true ↔ Plain l) := by
  obtain ⟨s, r, hl, hd⟩ := head_eq fl.ne
  have hs : s ∈ l := by rw [hl]; exact List.mem_cons_self
  have hle := fl.le
  obtain ⟨F, g, S, e1⟩ := F_reached_ok (k := 0) (nx := nbs) (Fk := F_beside) rfl (fun s ah => ⟨[], by rw [List.append_nil]; exact F_beside_eq s ah⟩) (fun s => by rw [nbs_len]; decide) (ds := .p (efl l)) (P := fun x => decide (x ∈ l)) (ah0 := ah) (fun y g => gIn_sq l y _) s l (fun x hx => of_decide_eq_true hx) hs (by omega)
  have hFs : ∀ x ∈ F, x ∈ l := fun x hx => (S.rch x hx).in_.elim (fun e => by rw [e]; exact hs) fun e => of_decide_eq_true e
  have hFl := nd_le F l S.nd hFs
  have hful := full_iff S.nd (up_nd fl.up) hFs
  have hll : ∀ ah, gLen [.p (efl l)] ah = .ok (.p (.int l.length)) ah := fun ah => by unfold efl; rw [len_t, List.length_map]
  have hsub : ∀ ah, gSub2 (.p (efl l)) (.p (.int 0)) ah = .ok (.p (esq s)) ah := fun ah => by rw [hl]; exact sub_head s r ah
  have hff : ∀ (n : Nat) (σ : DS) (ah : AH), fF n σ ah = .ok (.f n) ah := fun n σ ah => rfl
  have hang_iff : F.length = l.length ↔ ∀ s ∈ l, Rch (fun x => decide (x ∈ l)) nbs (l.headD (0, 0)) s := by
    rw [hful, hd]
    exact ⟨fun h x hx => (S.iff x).mp (h x hx), fun h x hx => (S.iff x).mpr (h x hx)⟩
  have hlt : (f2 gLt (fCall gLen (aCons (fCall F_reached (aCons (fVar 0) (aCons (f2 gSub2 (fVar 0) (fC (.int 0))) (aCons (fF 0) aNil)))) aNil)) (fCall gLen (aCons (fVar 0) aNil))) [some (.p (efl l)), none, none, none] ah = .ok (.p (.bool (decide ((F.length : Int) < l.length)))) (ah ++ g) := by
    simp only [e_f2, e_call, e_cons, e_nil, e_v0, b_ok, e_c, hsub, hff, e1, len_d, List.length_map, hll, i_lt]
  by_cases c : F.length < l.length
  · refine ⟨false, ah ++ g, ?_, ⟨(fun z => by cases z), fun z => ?_⟩⟩
    · rw [E_is_plain, g_is_plain, e_seq, e_if, e_or, e_tB, hlt, b_ok, decide_eq_true (show (F.length : Int) < l.length by omega)]
      rfl
    · have := hang_iff.mpr z.hang
      omega
  · have hFe : F.length = l.length := by omega
    obtain ⟨b, e2, hb⟩ := F_pinched_ok l (ah ++ g)
    have hif : ∀ X Y : SF, (sIf (tOrF (tB (f2 gLt (fCall gLen (aCons (fCall F_reached (aCons (fVar 0) (aCons (f2 gSub2 (fVar 0) (fC (.int 0))) (aCons (fF 0) aNil)))) aNil)) (fCall gLen (aCons (fVar 0) aNil)))) (tTru (fCall F_is_pinched (aCons (fVar 0) aNil)))) (sRet (fC (.bool false))) sNx) [some (.p (efl l)), none, none, none] ah = if b = true then .rt (.p (.bool false)) (ah ++ g) else .nx [some (.p (efl l)), none, none, none] (ah ++ g) := fun X Y => by
      rw [e_if, e_or, e_tB, hlt, b_ok, decide_eq_false (show ¬ (F.length : Int) < l.length by omega)]
      dsimp only
      rw [b_ok, if_neg Bool.false_ne_true, e_tru, e_call, e_cons, e_v0, b_ok, e_nil, b_ok, b_ok, e2, b_ok]
      cases b <;> rfl
    cases b with
    | true =>
      refine ⟨false, ah ++ g, ?_, ⟨(fun z => by cases z), fun z => absurd (hb.mp rfl) z.pin⟩⟩
      rw [E_is_plain, g_is_plain, e_seq, hif sNx sNx]
      rfl
    | false =>
      obtain ⟨x2, e3⟩ := outside_ok l (ah ++ g)
      have hU : (out l).length ≤ 200 := by have := out_len fl; omega
      have hm1 : ((-1, -1) : Sq) ∈ out l := mem_out.mpr ⟨by decide, fun z => by have := fl.in_ _ z; omega⟩
      obtain ⟨F2, g2, S2, e4⟩ := F_reached_ok (k := 1) (nx := ars) (Fk := F_around) rfl (fun s ah => ⟨[.dead], F_around_ok s ah⟩) ars_len (ds := .r (ah ++ g).length) (P := fun x => decide (x ∈ out l)) (ah0 := ah ++ g ++ [fsq (out l)]) (fun y g' => by rw [List.append_assoc]; exact in_ref) (-1, -1) (out l) (fun x hx => of_decide_eq_true hx) hm1 hU
      have hF2s : ∀ x ∈ F2, x ∈ out l := fun x hx => (S2.rch x hx).in_.elim (fun e => by rw [e]; exact hm1) fun e => of_decide_eq_true e
      have hful2 := full_iff S2.nd (up_nd (out_up l)) hF2s
      refine ⟨decide ((F2.length : Int) = (out l).length), ah ++ g ++ [fsq (out l)] ++ g2, ?_, ?_⟩
      · have hlr : gLen [.r (ah ++ g).length] (ah ++ g ++ [fsq (out l)] ++ g2) = .ok (.p (.int (out l).length)) (ah ++ g ++ [fsq (out l)] ++ g2) := by rw [List.append_assoc]; exact len_ref
        have ht : ∀ σ ah, fTup (aCons (fNeg (fC (.int 1))) (aCons (fNeg (fC (.int 1))) aNil)) σ ah = .ok (.p (esq (-1, -1))) ah := fun σ ah => rfl
        rw [E_is_plain, g_is_plain, e_seq, hif sNx sNx, if_neg Bool.false_ne_true, s_nx, e_seq]
        simp only [e_set, e_lstM, e_nil, b_ok, List.length_nil, Nat.zero_le, ↓reduceIte, e_set0, e_sets, t_ok, s_nx]
        have hz : (ah ++ g ++ [AO.lst []]) = ah ++ g ++ [fsq []] := rfl
        rw [hz, e_seq, e3, s_nx]
        simp only [e_ret, e_f2, e_call, e_cons, e_nil, e_vs, e_v0, b_ok, ht, hff, e4, len_d, List.length_map, hlr, i_eq, t_ok, e_rt]
      · rw [decide_eq_true_eq]
        have hh : (F2.length : Int) = (out l).length ↔ ∀ x ∈ out l, x ∈ F2 := by rw [← hful2]; omega
        rw [hh]
        exact ⟨fun h => ⟨hang_iff.mp hFe, fun x hx => (S2.iff x).mp (h x hx), fun z => by have := hb.mpr z; cases this⟩, fun h x hx => (S2.iff x).mpr (h.hole x hx)⟩
end DL

set_option Elab.async false
set_option linter.all false
set_option maxRecDepth 100000
/-! NA: the law's own finding of plain floors. -/
namespace DL
open PySem PySem.Spec PyProof.Rows L2
theorem addN_filter (P : Sq → Bool) : ∀ (ys F : List Sq), ys.Nodup → addN P F ys = (ys.filter P).filter fun y => !decide (y ∈ F)
  | [], _, _ => rfl
  | y :: ys, F, nd => by
    rw [List.nodup_cons] at nd
    unfold addN
    have step : ∀ G : List Sq, (∀ x, x ∈ G ↔ x ∈ F ∨ x = y) → ((ys.filter P).filter fun z => !decide (z ∈ G)) = (ys.filter P).filter fun z => !decide (z ∈ F) := fun G hG => by
      refine List.filter_congr fun z hz => ?_
      have hzy : z ≠ y := fun e => nd.1 (e ▸ (List.mem_filter.mp hz).1)
      have : (z ∈ G) ↔ (z ∈ F) := by rw [hG]; exact ⟨fun h => h.elim id fun e => absurd e hzy, .inl⟩
      rw [decide_eq_decide.mpr this]
    by_cases c : P y = true ∧ y ∉ F
    · rw [if_pos c, addN_filter P ys _ nd.2, List.filter_cons_of_pos c.1, List.filter_cons_of_pos (by simpa using c.2), step (F ++ [y]) fun x => by simp]
    · rw [if_neg c, addN_filter P ys F nd.2]
      by_cases cP : P y = true
      · have c2 : y ∈ F := Decidable.byContradiction fun z => c ⟨cP, z⟩
        rw [List.filter_cons_of_pos cP, List.filter_cons_of_neg (by simpa using c2)]
      · rw [List.filter_cons_of_neg cP]
/-! ### hangs -/
theorem F_hangs_ok {l : List Sq} (fl : Flo l) (ah : AH) : ∃ b, F__law_hangs [.p (efl l)] ah = .ok (.p (.bool b)) ah ∧ (b = true ↔ ∀ s ∈ l, Rch (fun x => decide (x ∈ l)) nbs (l.headD (0, 0)) s) := by
  obtain ⟨s, r, hl, hd⟩ := head_eq fl.ne
  have hs : s ∈ l := by rw [hl]; exact List.mem_cons_self
  have hle := fl.le
  have hsub : ∀ ah, gSub2 (.p (efl l)) (.p (.int 0)) ah = .ok (.p (esq s)) ah := fun ah => by rw [hl]; exact sub_head s r ah
  have hlen : ∀ (F : List Sq) (ah : AH), gLen [.p (.list (F.map esq))] ah = .ok (.p (.int F.length)) ah := fun F ah => by rw [len_l, List.length_map]
  have key := while_run (c := (tB (f2 gLt (fVar 2) (fCall gLen (aCons (fVar 1) aNil))))) (f := (sSeq (sSet 1 (f2 gAdd (fVar 1) (fLc (iAny (fCall F__law_near (aCons (fVar 0) (aCons (f2 gSub2 (fVar 1) (fVar 2)) aNil)))) 3 (tB (f2 gNotIn (fVar 3) (fVar 1))) (fVar 3)))) (sSet 2 (f2 gAdd (fVar 2) (fC (.int 1)))))) (fun m σ ah' => ∃ F a x3, σ = [some (D.p (efl l)), some (.p (.list (F.map esq))), some (.p (.int ((a : Nat) : Int))), x3] ∧ ah' = ah ∧ a ≤ F.length ∧ Srch (fun x => decide (x ∈ l)) nbs s F (F.drop a) ∧ m = l.length - a)
    (fun σ ah' => ∃ F a x3, σ = [some (D.p (efl l)), some (.p (.list (F.map esq))), some (.p (.int ((a : Nat) : Int))), x3] ∧ ah' = ah ∧ Srch (fun x => decide (x ∈ l)) nbs s F [])
    (by
      rintro m σ ah' ⟨F, a, x3, rfl, rfl, ha, S, hm⟩
      have hFl := S.le (U := l) (fun x hx => of_decide_eq_true hx) hs
      have hc : (tB (f2 gLt (fVar 2) (fCall gLen (aCons (fVar 1) aNil)))) [some (D.p (efl l)), some (.p (.list (F.map esq))), some (.p (.int ((a : Nat) : Int))), x3] ah' = .ok (decide ((a : Int) < F.length)) ah' := by
        simp only [e_seq, e_nx, e_set, e_ret, e_expr, e_if, e_f2, e_call, e_nil, e_cons, e_c, e_v0, e_vs, e_set0, e_sets, e_tB, e_tru, e_notF, e_neg, b_ok, b_ex, t_ok, t_ex, s_nx, s_rt, s_bk, s_ct, s_ex, o_ok, e_rt, e_fnx, i_add, i_sub, i_mod, Int.reduceLT, i_lt, i_le, i_gt, i_ge, i_eq, i_ne, l_add, t_add, e_r1, e_for, e_lc, e_gN, e_asg, e_tup, e_any, e_tupl, e_frz, ↓reduceIte, Bool.false_eq_true, Bool.not_true, Bool.not_false, e_and, e_or, e_yes, hlen]
      by_cases c : a < F.length
      · have hx : F[a]? = some F[a] := List.getElem?_eq_getElem c
        have hgi : gSub2 (.p (.list (F.map esq))) (.p (.int (a : Int))) ah' = .ok (.p (esq F[a])) ah' := sub_i (by rw [List.getElem?_map, hx]; rfl) ah'
        have hdr : F.drop a = F[a] :: F.drop (a + 1) := List.drop_eq_getElem_cons c
        have hnew : addN (fun x => decide (x ∈ l)) F (nbs F[a]) = (nb l F[a]).filter fun y => !decide (y ∈ F) := addN_filter _ _ _ (nbs_nd _)
        have S2 := S.next (T' := F.drop (a + 1)) (x := F[a]) (by rw [hdr]; exact List.mem_cons_self) (fun z hz => by rw [hdr] at hz; exact List.mem_cons.mp hz) (fun z hz => by rw [hdr]; exact List.mem_cons_of_mem _ hz)
        rw [hnew] at S2
        have hF2 := S2.le (U := l) (fun x hx => of_decide_eq_true hx) hs
        have hb4 : ((nb l F[a]).filter fun y => !decide (y ∈ F)).length ≤ 4 := Nat.le_trans (List.length_filter_le _ _) (nb_len _ _)
        have hlc : lcL 3 (tB (f2 gNotIn (fVar 3) (fVar 1))) (fVar 3) (((nb l F[a]).map esq).map .p) [some (D.p (efl l)), some (.p (.list (F.map esq))), some (.p (.int ((a : Nat) : Int))), x3] ah' = .ok (((nb l F[a]).filter fun y => !decide (y ∈ F)).map esq) ah' := by
          refine lcL_data esq (fun y => !decide (y ∈ F)) esq _ (fun y _ => ?_) (fun y _ _ => rfl)
          simp only [e_tB, e_f2, e_sets, e_set0, e_vs, e_v0, b_ok, notIn_sqs]
        have hit : iAny (fCall F__law_near (aCons (fVar 0) (aCons (f2 gSub2 (fVar 1) (fVar 2)) aNil))) [some (D.p (efl l)), some (.p (.list (F.map esq))), some (.p (.int ((a : Nat) : Int))), x3] ah' = .ok (((nb l F[a]).map esq).map .p) ah' := by
          simp only [e_any, e_call, e_cons, e_nil, e_f2, e_vs, e_v0, b_ok, hgi, F_near_eq]
        refine .inr ⟨ah', [some (D.p (efl l)), some (.p (.list ((F ++ (nb l F[a]).filter fun y => !decide (y ∈ F)).map esq))), some (.p (.int ((a + 1 : Nat) : Int))), x3], ah', hc.trans (by rw [decide_eq_true (show (a : Int) < F.length by omega)]), ?_, l.length - (a + 1), by omega, _, a + 1, x3, rfl, rfl, by rw [List.length_append]; omega, ?_, rfl⟩
        · rw [e_seq, e_set, e_f2, e_vs, e_v0, b_ok, e_lc, hit, b_ok, if_pos (by rw [List.length_map, List.length_map]; have := nb_len l F[a]; omega), hlc, o_ok, b_ok, l_add (by rw [List.length_map, List.length_map]; omega), t_ok, s_nx, ← List.map_append]
          simp only [e_set, e_f2, e_sets, e_set0, e_vs, e_v0, e_c, b_ok, i_add, t_ok]
          rw [show ((a : Nat) : Int) + 1 = ((a + 1 : Nat) : Int) by omega]
        · rw [List.drop_append_of_le_length (by omega)]
          exact S2
      · refine .inl ⟨ah', hc.trans (by rw [decide_eq_false (show ¬ (a : Int) < F.length by omega)]), F, a, x3, rfl, rfl, ?_⟩
        rw [List.drop_of_length_le (by omega)] at S
        exact S)
  obtain ⟨σ', ah', e1, F, a, x3, e2, e3, S⟩ := key 100000 (l.length - 0) [some (D.p (efl l)), some (.p (.list ([s].map esq))), some (.p (.int ((0 : Nat) : Int))), none] ah (by omega) ⟨[s], 0, none, rfl, rfl, Nat.zero_le _, srch_0 _ _ _, rfl⟩
  subst e2 e3
  have hFs : ∀ x ∈ F, x ∈ l := fun x hx => (S.rch x hx).in_.elim (fun e => by rw [e]; exact hs) fun e => of_decide_eq_true e
  have hful := full_iff S.nd (up_nd fl.up) hFs
  have hll : ∀ ah, gLen [.p (efl l)] ah = .ok (.p (.int l.length)) ah := fun ah => by unfold efl; rw [len_t, List.length_map]
  refine ⟨decide ((F.length : Int) = l.length), ?_, ?_⟩
  · have h1 : (sSet 1 (fLst (aCons (f2 gSub2 (fVar 0) (fC (.int 0))) aNil))) [some (D.p (efl l)), none, none, none] ah' = .nx [some (D.p (efl l)), some (.p (.list ([s].map esq))), none, none] ah' := by
      rw [e_set, e_lst, e_cons, e_f2, e_v0, b_ok, e_c, b_ok, hsub, b_ok, e_nil, b_ok, b_ok]
      rfl
    have h2 : sSet 2 (fC (.int 0)) [some (D.p (efl l)), some (.p (.list ([s].map esq))), none, none] ah' = .nx [some (D.p (efl l)), some (.p (.list ([s].map esq))), some (.p (.int ((0 : Nat) : Int))), none] ah' := rfl
    rw [E__law_hangs, g__law_hangs, e_seq, h1, s_nx, e_seq, h2, s_nx, e_seq, e1, s_nx]
    simp only [e_seq, e_nx, e_set, e_ret, e_expr, e_if, e_f2, e_call, e_nil, e_cons, e_c, e_v0, e_vs, e_set0, e_sets, e_tB, e_tru, e_notF, e_neg, b_ok, b_ex, t_ok, t_ex, s_nx, s_rt, s_bk, s_ct, s_ex, o_ok, e_rt, e_fnx, i_add, i_sub, i_mod, Int.reduceLT, i_lt, i_le, i_gt, i_ge, i_eq, i_ne, l_add, t_add, e_r1, e_for, e_lc, e_gN, e_asg, e_tup, e_any, e_tupl, e_frz, ↓reduceIte, Bool.false_eq_true, Bool.not_true, Bool.not_false, e_and, e_or, e_yes, hlen, hll]
  · rw [decide_eq_true_eq, hd]
    have hh : (F.length : Int) = l.length ↔ ∀ x ∈ l, x ∈ F := by rw [← hful]; omega
    rw [hh]
    exact ⟨fun h x hx => (S.iff x).mp (h x hx), fun h x hx => (S.iff x).mpr (h x hx)⟩
/-! ### no hole -/
def nineAt (s : Sq) (k : Nat) : Sq := (s.1 + (k : Int) / 3 - 1, s.2 + (k : Int) % 3 - 1)
def nine (s : Sq) : List Sq := (List.range 9).map (nineAt s)
def oB (l : List Sq) (y : Sq) : Bool := (decide (-1 ≤ y.1) && decide (y.1 ≤ 8)) && ((decide (-1 ≤ y.2) && decide (y.2 ≤ 8)) && !decide (y ∈ l))
theorem oB_iff {l : List Sq} {y : Sq} : oB l y = decide (y ∈ out l) := by
  rw [Bool.eq_iff_iff, decide_eq_true_eq, mem_out]
  unfold oB
  simp only [Bool.and_eq_true, decide_eq_true_eq, Bool.not_eq_true', decide_eq_false_iff_not]
  constructor
  · rintro ⟨⟨a, b⟩, ⟨c, d⟩, e⟩; exact ⟨⟨a, b, c, d⟩, e⟩
  · rintro ⟨⟨a, b, c, d⟩, e⟩; exact ⟨⟨a, b⟩, ⟨c, d⟩, e⟩
theorem chain_ok {fe : EF} {σ : DS} {ah : AH} {v : Int} (h : ∀ ah, fe σ ah = .ok (.p (.int v)) ah) : fChain gLe gLe (fNeg (fC (.int 1))) fe (fC (.int 8)) σ ah = .ok (.p (.bool (decide (-1 ≤ v) && decide (v ≤ 8)))) ah := by
  rw [e_chain, e_neg, e_c, b_ok]
  dsimp only
  rw [b_ok, h, b_ok, i_le, b_ok]
  by_cases c : (-1 : Int) ≤ v
  · rw [decide_eq_true c, Bool.true_and]
    dsimp only
    rw [e_c, b_ok, i_le]
  · rw [decide_eq_false c, Bool.false_and]
def hBody : SF := (sSeq (sSet 6 (fTup (aCons (f2 gSub (f2 gAdd (fVar 3) (f2 gDiv (fVar 5) (fC (.int 3)))) (fC (.int 1))) (aCons (f2 gSub (f2 gAdd (fVar 4) (f2 gMod (fVar 5) (fC (.int 3)))) (fC (.int 1))) aNil)))) (sIf (tAndF (tB (fChain gLe gLe (fNeg (fC (.int 1))) (f2 gSub2 (fVar 6) (fC (.int 0))) (fC (.int 8)))) (tAndF (tB (fChain gLe gLe (fNeg (fC (.int 1))) (f2 gSub2 (fVar 6) (fC (.int 1))) (fC (.int 8)))) (tAndF (tB (f2 gNotIn (fVar 6) (fVar 0))) (tB (f2 gNotIn (fVar 6) (fVar 1)))))) (sSeq (sDPut (fVar 1) (fVar 6) (fC (.bool true))) (sExpr (fMt isL gAppend (fVar 2) (aCons (fVar 6) aNil)))) sNx))
theorem hole_in (l : List Sq) (s : Sq) (ah0 : AH) : ∀ (ks : List Nat) (F T : List Sq) (x5 x6 : Option D) (g : AH), F.length + ks.length ≤ 1000 → T.length + ks.length ≤ 1000 →
    ∃ x5' x6', forL (gN 5) hBody (ks.map fun (k : Nat) => D.p (.int (k : Int))) [some (.p (efl l)), some (.r ah0.length), some (.r (ah0.length + 1)), some (.p (.int s.1)), some (.p (.int s.2)), x5, x6] (ah0 ++ dF bT F :: fsq T :: g)
      = .nx [some (.p (efl l)), some (.r ah0.length), some (.r (ah0.length + 1)), some (.p (.int s.1)), some (.p (.int s.2)), x5', x6'] (ah0 ++ dF bT (F ++ addN (oB l) F (ks.map (nineAt s))) :: fsq (T ++ addN (oB l) F (ks.map (nineAt s))) :: g)
  | [], F, T, x5, x6, g, _, _ => ⟨x5, x6, by
    show O.nx _ _ = O.nx _ (ah0 ++ dF bT (F ++ []) :: fsq (T ++ []) :: g)
    rw [List.append_nil, List.append_nil]⟩
  | k :: ks, F, T, x5, x6, g, h1, h2 => by
    rw [List.length_cons] at h1 h2
    obtain ⟨y, hy⟩ : ∃ y, y = nineAt s k := ⟨_, rfl⟩
    have hset : ([some (.p (efl l)), some (.r ah0.length), some (.r (ah0.length + 1)), some (.p (.int s.1)), some (.p (.int s.2)), x5, x6] : DS).set 5 (some (.p (.int (k : Int)))) = [some (.p (efl l)), some (.r ah0.length), some (.r (ah0.length + 1)), some (.p (.int s.1)), some (.p (.int s.2)), some (.p (.int (k : Int))), x6] := rfl
    have h6 : ∀ x6 hp, (sSet 6 (fTup (aCons (f2 gSub (f2 gAdd (fVar 3) (f2 gDiv (fVar 5) (fC (.int 3)))) (fC (.int 1))) (aCons (f2 gSub (f2 gAdd (fVar 4) (f2 gMod (fVar 5) (fC (.int 3)))) (fC (.int 1))) aNil)))) [some (.p (efl l)), some (.r ah0.length), some (.r (ah0.length + 1)), some (.p (.int s.1)), some (.p (.int s.2)), some (.p (.int (k : Int))), x6] hp = .nx [some (.p (efl l)), some (.r ah0.length), some (.r (ah0.length + 1)), some (.p (.int s.1)), some (.p (.int s.2)), some (.p (.int (k : Int))), some (.p (esq y))] hp := fun x6 hp => by
      rw [hy]
      simp only [e_seq, e_nx, e_set, e_ret, e_expr, e_if, e_f2, e_call, e_nil, e_cons, e_c, e_v0, e_vs, e_set0, e_sets, e_tB, e_tru, e_notF, e_neg, b_ok, b_ex, t_ok, t_ex, s_nx, s_rt, s_bk, s_ct, s_ex, o_ok, e_rt, e_fnx, i_add, i_sub, i_mod, Int.reduceLT, i_lt, i_le, i_gt, i_ge, i_eq, i_ne, l_add, t_add, e_r1, e_for, e_gN, e_asg, e_tup, e_tupl, e_frz, ↓reduceIte, Bool.false_eq_true, Bool.not_true, Bool.not_false, e_and, e_or, e_yes, i_div (show (0 : Int) < 3 by decide) (show (3 : Int) < 1073741824 by decide), i_mod (show (0 : Int) < 3 by decide), pures, Option.map_some, List.length_cons, List.length_nil, Nat.reduceAdd, Nat.reduceLeDiff]
      rfl
    have s0 : ∀ ah, gSub2 (.p (esq y)) (.p (.int 0)) ah = .ok (.p (.int y.1)) ah := fun ah => sub_tup (k := 0) rfl ah
    have s1 : ∀ ah, gSub2 (.p (esq y)) (.p (.int 1)) ah = .ok (.p (.int y.2)) ah := fun ah => sub_tup (k := 1) rfl ah
    have hni : gNotIn (.p (esq y)) (.r ah0.length) (ah0 ++ dF bT F :: fsq T :: g) = .ok (.p (.bool (!decide (y ∈ F)))) (ah0 ++ dF bT F :: fsq T :: g) := notIn_dF (h_at _ _ _)
    have hcond : (tAndF (tB (fChain gLe gLe (fNeg (fC (.int 1))) (f2 gSub2 (fVar 6) (fC (.int 0))) (fC (.int 8)))) (tAndF (tB (fChain gLe gLe (fNeg (fC (.int 1))) (f2 gSub2 (fVar 6) (fC (.int 1))) (fC (.int 8)))) (tAndF (tB (f2 gNotIn (fVar 6) (fVar 0))) (tB (f2 gNotIn (fVar 6) (fVar 1)))))) [some (.p (efl l)), some (.r ah0.length), some (.r (ah0.length + 1)), some (.p (.int s.1)), some (.p (.int s.2)), some (.p (.int (k : Int))), some (.p (esq y))] (ah0 ++ dF bT F :: fsq T :: g) = .ok (oB l y && !decide (y ∈ F)) (ah0 ++ dF bT F :: fsq T :: g) := by
      have c0 : ∀ ah, f2 gSub2 (fVar 6) (fC (.int 0)) [some (.p (efl l)), some (.r ah0.length), some (.r (ah0.length + 1)), some (.p (.int s.1)), some (.p (.int s.2)), some (.p (.int (k : Int))), some (.p (esq y))] ah = .ok (.p (.int y.1)) ah := fun ah => s0 ah
      have c1 : ∀ ah, f2 gSub2 (fVar 6) (fC (.int 1)) [some (.p (efl l)), some (.r ah0.length), some (.r (ah0.length + 1)), some (.p (.int s.1)), some (.p (.int s.2)), some (.p (.int (k : Int))), some (.p (esq y))] ah = .ok (.p (.int y.2)) ah := fun ah => s1 ah
      rw [e_and, e_tB, chain_ok c0, b_ok]
      unfold oB
      generalize (decide (-1 ≤ y.1) && decide (y.1 ≤ 8)) = a
      cases a with
      | false => rfl
      | true =>
        dsimp only
        rw [b_ok, if_pos rfl, e_and, e_tB, chain_ok c1, b_ok]
        generalize (decide (-1 ≤ y.2) && decide (y.2 ≤ 8)) = b
        cases b with
        | false => rfl
        | true =>
          dsimp only
          rw [b_ok, if_pos rfl]
          simp only [e_and, e_tB, e_f2, e_vs, e_v0, b_ok, notIn_sq]
          cases decide (y ∈ l) with
          | true => rfl
          | false =>
            simp only [Bool.not_false, ↓reduceIte, hni, b_ok, Bool.true_and]
    rw [List.map_cons, e_for_cons, e_gN, hset]
    dsimp only
    rw [List.map_cons, ← hy]
    unfold addN
    by_cases c : oB l y = true ∧ y ∉ F
    · rw [if_pos c]
      obtain ⟨x5', x6', ih⟩ := hole_in l s ah0 ks (F ++ [y]) (T ++ [y]) (some (.p (.int (k : Int)))) (some (.p (esq y))) g (by simp only [List.length_append, List.length_cons, List.length_nil]; omega) (by simp only [List.length_append, List.length_cons, List.length_nil]; omega)
      refine ⟨x5', x6', ?_⟩
      have hput : gDPut (.r ah0.length) (.p (esq y)) (.p (.bool true)) (ah0 ++ dF bT F :: fsq T :: g) = some (ah0 ++ dF bT (F ++ [y]) :: fsq T :: g) := put_dF c.2 (by omega)
      have happ := app1 (ah := ah0) (g := g) (x := dF bT (F ++ [y])) (q := T) (y := y) (by omega)
      have hL : isL (ah0 ++ dF bT (F ++ [y]) :: fsq T :: g) (.r (ah0.length + 1)) = true := isL1
      have hb : hBody [some (.p (efl l)), some (.r ah0.length), some (.r (ah0.length + 1)), some (.p (.int s.1)), some (.p (.int s.2)), some (.p (.int (k : Int))), x6] (ah0 ++ dF bT F :: fsq T :: g) = .nx [some (.p (efl l)), some (.r ah0.length), some (.r (ah0.length + 1)), some (.p (.int s.1)), some (.p (.int s.2)), some (.p (.int (k : Int))), some (.p (esq y))] (ah0 ++ dF bT (F ++ [y]) :: fsq (T ++ [y]) :: g) := by
        unfold hBody
        rw [e_seq, h6, s_nx, e_if, hcond, t_ok, c.1, decide_eq_false c.2]
        simp only [e_seq, e_nx, e_set, e_ret, e_expr, e_if, e_f2, e_call, e_nil, e_cons, e_c, e_v0, e_vs, e_set0, e_sets, e_tB, e_tru, e_notF, e_neg, b_ok, b_ex, t_ok, t_ex, s_nx, s_rt, s_bk, s_ct, s_ex, o_ok, e_rt, e_fnx, i_add, i_sub, i_mod, Int.reduceLT, i_lt, i_le, i_gt, i_ge, i_eq, i_ne, l_add, t_add, e_r1, e_for, e_gN, e_asg, e_tup, e_tupl, e_frz, ↓reduceIte, Bool.false_eq_true, Bool.not_true, Bool.not_false, e_and, e_or, e_yes, e_dput, hput, e_fMt, hL, happ, Bool.true_and]
      rw [hb]
      dsimp only
      rw [ih, List.append_assoc, List.append_assoc]
      rfl
    · rw [if_neg c]
      obtain ⟨x5', x6', ih⟩ := hole_in l s ah0 ks F T (some (.p (.int (k : Int)))) (some (.p (esq y))) g (by omega) (by omega)
      refine ⟨x5', x6', ?_⟩
      have hf : (oB l y && !decide (y ∈ F)) = false := by
        cases cP : oB l y with
        | false => rfl
        | true =>
          have c2 : y ∈ F := Decidable.byContradiction fun z => c ⟨cP, z⟩
          rw [decide_eq_true c2]; rfl
      have hb : hBody [some (.p (efl l)), some (.r ah0.length), some (.r (ah0.length + 1)), some (.p (.int s.1)), some (.p (.int s.2)), some (.p (.int (k : Int))), x6] (ah0 ++ dF bT F :: fsq T :: g) = .nx [some (.p (efl l)), some (.r ah0.length), some (.r (ah0.length + 1)), some (.p (.int s.1)), some (.p (.int s.2)), some (.p (.int (k : Int))), some (.p (esq y))] (ah0 ++ dF bT F :: fsq T :: g) := by
        unfold hBody
        rw [e_seq, h6, s_nx, e_if, hcond, t_ok, hf, if_neg Bool.false_ne_true, e_nx]
      rw [hb]
      dsimp only
      exact ih
theorem mem_nine {s y : Sq} : y ∈ nine s ↔ y = s ∨ y ∈ ars s := by
  obtain ⟨a, b⟩ := s
  obtain ⟨c, d⟩ := y
  unfold nine ars ars3 nineAt
  simp only [List.mem_map, List.mem_range, List.mem_filter, List.flatMap_cons, List.flatMap_nil, List.append_nil, List.cons_append, List.nil_append, List.mem_cons, List.not_mem_nil, or_false, Bool.not_eq_true', decide_eq_false_iff_not, Prod.mk.injEq]
  constructor
  · rintro ⟨k, hk, h1, h2⟩
    omega
  · intro h
    have hh : (c = a - 1 ∨ c = a ∨ c = a + 1) ∧ (d = b - 1 ∨ d = b ∨ d = b + 1) := by omega
    refine ⟨((c - a + 1) * 3 + (d - b + 1)).toNat, ?_, ?_, ?_⟩ <;> omega
theorem rch_nine {P : Sq → Bool} {s x : Sq} : Rch P nine s x ↔ Rch P ars s x := by
  constructor
  · intro h
    induction h with
    | base => exact .base
    | step h1 h2 h3 ih =>
      rcases mem_nine.mp h2 with e | h
      · rw [e]; exact ih
      · exact .step ih h h3
  · intro h
    induction h with
    | base => exact .base
    | step h1 h2 h3 ih => exact .step ih (mem_nine.mpr (.inr h2)) h3
theorem nine_len (s : Sq) : (nine s).length = 9 := by unfold nine; rw [List.length_map, List.length_range]
theorem F_noHole_ok {l : List Sq} (fl : Flo l) (ah0 : AH) : ∃ b ah', F__law_no_hole [.p (efl l)] ah0 = .ok (.p (.bool b)) ah' ∧ (b = true ↔ ∀ s ∈ out l, Rch (fun x => decide (x ∈ out l)) ars (-1, -1) s) := by
  have hUl : (out l).length ≤ 200 := by have := out_len fl; omega
  have hm1 : ((-1, -1) : Sq) ∈ out l := mem_out.mpr ⟨by decide, fun z => by have := fl.in_ _ z; omega⟩
  have hU : ∀ x, oB l x = true → x ∈ out l := fun x hx => by rw [oB_iff] at hx; exact of_decide_eq_true hx
  have ro : rOk 9 = true := rOk_nat (n := 9) (by decide)
  have hr : rangeD 0 (Int.toNat 9) = (List.range 9).map fun (i : Nat) => D.p (.int (i : Int)) := rangeD_map 9
  have hit : ∀ (σ : DS) (ah : AH), iRange1 (aCons (fC (.int 9)) aNil) σ ah = .ok ((List.range 9).map fun (c : Nat) => D.p (.int (c : Int))) ah := fun σ ah => by
    rw [e_r1, e_cons, e_c, b_ok, e_nil, b_ok, b_ok]
    dsimp only
    rw [if_pos ro, hr]
  have key := while_run (c := tTru (fVar 2)) (f := (sSeq (sAsg (fMt0 isL gPop (fVar 2)) (gPair 3 4)) (sFor (iRange1 (aCons (fC (.int 9)) aNil)) (gN 5) (sSeq (sSet 6 (fTup (aCons (f2 gSub (f2 gAdd (fVar 3) (f2 gDiv (fVar 5) (fC (.int 3)))) (fC (.int 1))) (aCons (f2 gSub (f2 gAdd (fVar 4) (f2 gMod (fVar 5) (fC (.int 3)))) (fC (.int 1))) aNil)))) (sIf (tAndF (tB (fChain gLe gLe (fNeg (fC (.int 1))) (f2 gSub2 (fVar 6) (fC (.int 0))) (fC (.int 8)))) (tAndF (tB (fChain gLe gLe (fNeg (fC (.int 1))) (f2 gSub2 (fVar 6) (fC (.int 1))) (fC (.int 8)))) (tAndF (tB (f2 gNotIn (fVar 6) (fVar 0))) (tB (f2 gNotIn (fVar 6) (fVar 1)))))) (sSeq (sDPut (fVar 1) (fVar 6) (fC (.bool true))) (sExpr (fMt isL gAppend (fVar 2) (aCons (fVar 6) aNil)))) sNx))))) (fun m σ ah => ∃ F T g x3 x4 x5 x6, σ = [some (D.p (efl l)), some (.r ah0.length), some (.r (ah0.length + 1)), x3, x4, x5, x6] ∧ ah = ah0 ++ dF bT F :: fsq T :: g ∧ Srch (oB l) nine (-1, -1) F T ∧ m = 2 * ((out l).length - F.length) + T.length ∧ m ≤ 500)
    (fun σ ah => ∃ F g x3 x4 x5 x6, σ = [some (D.p (efl l)), some (.r ah0.length), some (.r (ah0.length + 1)), x3, x4, x5, x6] ∧ ah = ah0 ++ dF bT F :: fsq [] :: g ∧ Srch (oB l) nine (-1, -1) F [])
    (by
      rintro m σ ah ⟨F, T, g, x3, x4, x5, x6, rfl, rfl, S, hm, hm5⟩
      have hFl := S.le hU hm1
      have htr : tTru (fVar 2) [some (D.p (efl l)), some (.r ah0.length), some (.r (ah0.length + 1)), x3, x4, x5, x6] (ah0 ++ dF bT F :: fsq T :: g) = .ok (!T.isEmpty) (ah0 ++ dF bT F :: fsq T :: g) := by
        simp only [e_tru, e_vs, e_v0, b_ok, tru1]
      rcases List.eq_nil_or_concat T with rfl | ⟨T', x, rfl⟩
      · exact .inl ⟨_, htr, F, g, x3, x4, x5, x6, rfl, rfl, S⟩
      · rw [List.concat_eq_append] at S hm htr ⊢
        have hTl : T'.length + 1 ≤ 500 := by rw [List.length_append, List.length_singleton] at hm; omega
        have S2 := S.next (T' := T') (x := x) (by simp) (fun z hz => by rcases List.mem_append.mp hz with h | h; exact .inr h; exact .inl (List.mem_singleton.mp h)) (fun z hz => List.mem_append_left _ hz)
        have hF2 := S2.le hU hm1
        have hal := addN_len (oB l) (nine x) F
        rw [nine_len] at hal
        obtain ⟨x5', x6', hl⟩ := hole_in l x ah0 (List.range 9) F T' x5 x6 g (by rw [List.length_range]; omega) (by rw [List.length_range]; omega)
        refine .inr ⟨ah0 ++ dF bT F :: fsq (T' ++ [x]) :: g, [some (D.p (efl l)), some (.r ah0.length), some (.r (ah0.length + 1)), some (.p (.int x.1)), some (.p (.int x.2)), x5', x6'], ah0 ++ dF bT (F ++ addN (oB l) F (nine x)) :: fsq (T' ++ addN (oB l) F (nine x)) :: g, htr.trans (by simp), ?_, 2 * ((out l).length - (F ++ addN (oB l) F (nine x)).length) + (T' ++ addN (oB l) F (nine x)).length, ?_, F ++ addN (oB l) F (nine x), T' ++ addN (oB l) F (nine x), g, _, _, x5', x6', rfl, rfl, S2, rfl, ?_⟩
        · have has : (sAsg (fMt0 isL gPop (fVar 2)) (gPair 3 4)) [some (D.p (efl l)), some (.r ah0.length), some (.r (ah0.length + 1)), x3, x4, x5, x6] (ah0 ++ dF bT F :: fsq (T' ++ [x]) :: g) = .nx [some (D.p (efl l)), some (.r ah0.length), some (.r (ah0.length + 1)), some (.p (.int x.1)), some (.p (.int x.2)), x5, x6] (ah0 ++ dF bT F :: fsq T' :: g) := by
            have hL : isL (ah0 ++ dF bT F :: fsq (T' ++ [x]) :: g) (.r (ah0.length + 1)) = true := isL1
            rw [e_asg, e_fMt0, e_vs, e_vs, e_v0, b_ok, if_pos hL, pop1, t_ok]
            rfl
          rw [e_seq, has, s_nx, e_for, hit, t_ok]
          exact hl
        · rw [List.length_append] at hm hF2 ⊢
          rw [List.length_append, List.length_singleton] at *
          omega
        · rw [List.length_append] at hm hF2 ⊢
          rw [List.length_append, List.length_singleton] at *
          omega)
  obtain ⟨σ', ah', e1, F, g, x3, x4, x5, x6, e2, e3, S⟩ := key 100000 (2 * ((out l).length - 1) + 1) [some (D.p (efl l)), some (.r ah0.length), some (.r (ah0.length + 1)), none, none, none, none] (ah0 ++ dF bT [(-1, -1)] :: fsq [(-1, -1)] :: []) (by omega) ⟨[(-1, -1)], [(-1, -1)], [], none, none, none, none, rfl, rfl, srch_0 _ _ _, rfl, by omega⟩
  subst e2 e3
  have hFs : ∀ x ∈ F, x ∈ out l := fun x hx => (S.rch x hx).in_.elim (fun e => by rw [e]; exact hm1) fun e => hU x e
  have hful := full_iff S.nd (up_nd (out_up l)) hFs
  have hol := out_len fl
  refine ⟨decide ((F.length : Int) = 100 - (l.length : Int)), ah0 ++ dF bT F :: fsq [] :: g, ?_, ?_⟩
  · have ht : ∀ σ ah, fTup (aCons (fNeg (fC (.int 1))) (aCons (fNeg (fC (.int 1))) aNil)) σ ah = .ok (.p (esq (-1, -1))) ah := fun σ ah => rfl
    have hd : fDisp1 (fTup (aCons (fNeg (fC (.int 1))) (aCons (fNeg (fC (.int 1))) aNil))) (fC (.bool true)) [some (D.p (efl l)), none, none, none, none, none, none] ah0 = .ok (.r ah0.length) (ah0 ++ [dF bT [(-1, -1)]]) := disp_sq (fun ah => ht _ ah) (fun ah => rfl)
    have h2 : (sSet 2 (fLstM (aCons (fTup (aCons (fNeg (fC (.int 1))) (aCons (fNeg (fC (.int 1))) aNil))) aNil))) [some (D.p (efl l)), some (.r ah0.length), none, none, none, none, none] (ah0 ++ [dF bT [(-1, -1)]]) = .nx [some (D.p (efl l)), some (.r ah0.length), some (.r (ah0.length + 1)), none, none, none, none] (ah0 ++ dF bT [(-1, -1)] :: fsq [(-1, -1)] :: []) := by
      simp only [e_set, e_lstM, e_cons, ht, e_nil, b_ok, t_ok, List.length_cons, List.length_nil, Nat.reduceAdd, Nat.reduceLeDiff, ↓reduceIte, List.length_append, e_sets, e_set0, List.append_assoc, List.cons_append, List.nil_append]
      rfl
    have hld : gLen [.r ah0.length] (ah0 ++ dF bT F :: fsq [] :: g) = .ok (.p (.int F.length)) (ah0 ++ dF bT F :: fsq [] :: g) := by
      have i1 : itemsOf (ah0 ++ dF bT F :: fsq [] :: g) (.r ah0.length) = none := by
        unfold itemsOf dF
        simp only [h_at]
      have i2 : dctOf (ah0 ++ dF bT F :: fsq [] :: g) (.r ah0.length) = some (F.map fun x => (esq x, D.p bT)) := dctOf_r (h_at _ _ _)
      unfold gLen
      dsimp only
      rw [i1]
      dsimp only
      rw [i2]
      dsimp only
      rw [List.length_map]
    have hll : ∀ ah, gLen [.p (efl l)] ah = .ok (.p (.int l.length)) ah := fun ah => by unfold efl; rw [len_t, List.length_map]
    rw [E__law_no_hole, g__law_no_hole, e_seq, e_set, hd, t_ok, s_nx]
    simp only [e_sets, e_set0]
    rw [e_seq, h2, s_nx, e_seq, e1, s_nx]
    simp only [e_seq, e_nx, e_set, e_ret, e_expr, e_if, e_f2, e_call, e_nil, e_cons, e_c, e_v0, e_vs, e_set0, e_sets, e_tB, e_tru, e_notF, e_neg, b_ok, b_ex, t_ok, t_ex, s_nx, s_rt, s_bk, s_ct, s_ex, o_ok, e_rt, e_fnx, i_add, i_sub, i_mod, Int.reduceLT, i_lt, i_le, i_gt, i_ge, i_eq, i_ne, l_add, t_add, e_r1, e_for, e_lc, e_gN, e_asg, e_tup, e_any, e_tupl, e_frz, ↓reduceIte, Bool.false_eq_true, Bool.not_true, Bool.not_false, e_and, e_or, e_yes, hld, hll]
  · have hh : (F.length : Int) = 100 - (l.length : Int) ↔ ∀ x ∈ out l, x ∈ F := by rw [← hful]; omega
    have hP : (oB l) = fun x => decide (x ∈ out l) := by funext x; exact oB_iff
    rw [decide_eq_true_eq, hh]
    rw [hP] at S
    exact ⟨fun h x hx => rch_nine.mp ((S.iff x).mp (h x hx)), fun h x hx => (S.iff x).mpr (rch_nine.mpr (h x hx))⟩
/-! ### no pinch -/
def npB (l : List Sq) (s : Sq) (d : Int) : Bool := decide ((s.1 + 1, s.2 + d) ∈ l) && (!decide ((s.1, s.2 + d) ∈ l) && !decide ((s.1 + 1, s.2) ∈ l))
theorem np_iff {l : List Sq} (fl : Flo l) : (∃ s ∈ l, ∃ d ∈ ([-1, 1] : List Int), npB l s d = true) ↔ Pin l := by
  constructor
  · rintro ⟨s, hs, d, hd, h⟩
    obtain ⟨a, b⟩ := s
    unfold npB at h
    simp only [Bool.and_eq_true, Bool.not_eq_true', decide_eq_true_eq, decide_eq_false_iff_not] at h
    obtain ⟨h1, h2, h3⟩ := h
    have i1 := fl.in_ _ hs
    have i2 := fl.in_ _ h1
    dsimp only at i1 i2
    simp only [List.mem_cons, List.not_mem_nil, or_false] at hd
    rcases hd with rfl | rfl
    · refine ⟨a.toNat, (b - 1).toNat, by omega, by omega, ?_⟩
      rw [show ((a.toNat : Nat) : Int) = a by omega, show (((b - 1).toNat : Nat) : Int) = b + -1 by omega]
      unfold pinB
      rw [show b + -1 + 1 = b by omega, decide_eq_true hs, decide_eq_true h1, decide_eq_false h2, decide_eq_false h3]
      rfl
    · refine ⟨a.toNat, b.toNat, by omega, by omega, ?_⟩
      rw [show ((a.toNat : Nat) : Int) = a by omega, show ((b.toNat : Nat) : Int) = b by omega]
      unfold pinB
      rw [decide_eq_true hs, decide_eq_true h1, decide_eq_false h2, decide_eq_false h3]
      rfl
  · rintro ⟨r, c, hr, hc, h⟩
    unfold pinB at h
    by_cases a1 : ((r : Int), (c : Int)) ∈ l <;> by_cases a2 : ((r : Int) + 1, (c : Int) + 1) ∈ l <;> by_cases a3 : ((r : Int), (c : Int) + 1) ∈ l <;> by_cases a4 : ((r : Int) + 1, (c : Int)) ∈ l <;>
      first
      | (exfalso; simp [a1, a2, a3, a4] at h; done)
      | (refine ⟨((r : Int), (c : Int)), a1, 1, by simp, ?_⟩; unfold npB; simp [a1, a2, a3, a4]; done)
      | (refine ⟨((r : Int), (c : Int) + 1), a3, -1, by simp, ?_⟩; unfold npB; rw [show (c : Int) + 1 + -1 = c by omega]; simp [a1, a2, a3, a4]; done)
theorem np_body (l : List Sq) (s : Sq) (d : Int) (ah : AH) : (sIf (tAndF (tB (f2 gIn (fTup (aCons (f2 gAdd (fVar 1) (fC (.int 1))) (aCons (f2 gAdd (fVar 2) (fVar 3)) aNil))) (fVar 0))) (tAndF (tB (f2 gNotIn (fTup (aCons (fVar 1) (aCons (f2 gAdd (fVar 2) (fVar 3)) aNil))) (fVar 0))) (tB (f2 gNotIn (fTup (aCons (f2 gAdd (fVar 1) (fC (.int 1))) (aCons (fVar 2) aNil))) (fVar 0))))) (sRet (fC (.bool false))) sNx) [some (.p (efl l)), some (.p (.int s.1)), some (.p (.int s.2)), some (.p (.int d))] ah
    = if npB l s d = true then .rt (.p (.bool false)) ah else .nx [some (.p (efl l)), some (.p (.int s.1)), some (.p (.int s.2)), some (.p (.int d))] ah := by
  have t1 : fTup (aCons (f2 gAdd (fVar 1) (fC (.int 1))) (aCons (f2 gAdd (fVar 2) (fVar 3)) aNil)) [some (.p (efl l)), some (.p (.int s.1)), some (.p (.int s.2)), some (.p (.int d))] ah = .ok (.p (esq (s.1 + 1, s.2 + d))) ah := rfl
  have t2 : fTup (aCons (fVar 1) (aCons (f2 gAdd (fVar 2) (fVar 3)) aNil)) [some (.p (efl l)), some (.p (.int s.1)), some (.p (.int s.2)), some (.p (.int d))] ah = .ok (.p (esq (s.1, s.2 + d))) ah := rfl
  have t3 : fTup (aCons (f2 gAdd (fVar 1) (fC (.int 1))) (aCons (fVar 2) aNil)) [some (.p (efl l)), some (.p (.int s.1)), some (.p (.int s.2)), some (.p (.int d))] ah = .ok (.p (esq (s.1 + 1, s.2))) ah := rfl
  rw [e_if, e_and, e_tB, e_f2, t1, b_ok, e_v0, b_ok, gIn_sq, b_ok]
  unfold npB
  cases decide ((s.1 + 1, s.2 + d) ∈ l) with
  | false => rfl
  | true =>
    dsimp only
    rw [b_ok, if_pos rfl, e_and, e_tB, e_f2, t2, b_ok, e_v0, b_ok, notIn_sq, b_ok]
    cases decide ((s.1, s.2 + d) ∈ l) with
    | true => rfl
    | false =>
      simp only [Bool.not_false, b_ok, ↓reduceIte]
      rw [e_tB, e_f2, t3, b_ok, e_v0, b_ok, notIn_sq, b_ok]
      cases decide ((s.1 + 1, s.2) ∈ l) <;> rfl
theorem F_noPinch_ok {l : List Sq} (fl : Flo l) (ah : AH) : ∃ b, F__law_no_pinch [.p (efl l)] ah = .ok (.p (.bool b)) ah ∧ (b = true ↔ ¬ Pin l) := by
  have inner : ∀ (s : Sq) (x3 : Option D), (∃ x3', forL (gN 3) (sIf (tAndF (tB (f2 gIn (fTup (aCons (f2 gAdd (fVar 1) (fC (.int 1))) (aCons (f2 gAdd (fVar 2) (fVar 3)) aNil))) (fVar 0))) (tAndF (tB (f2 gNotIn (fTup (aCons (fVar 1) (aCons (f2 gAdd (fVar 2) (fVar 3)) aNil))) (fVar 0))) (tB (f2 gNotIn (fTup (aCons (f2 gAdd (fVar 1) (fC (.int 1))) (aCons (fVar 2) aNil))) (fVar 0))))) (sRet (fC (.bool false))) sNx) (([-1, 1] : List Int).map fun (d : Int) => D.p (.int d)) [some (.p (efl l)), some (.p (.int s.1)), some (.p (.int s.2)), x3] ah = .nx [some (.p (efl l)), some (.p (.int s.1)), some (.p (.int s.2)), x3'] ah ∧ ∀ d ∈ ([-1, 1] : List Int), npB l s d = false) ∨
      (forL (gN 3) (sIf (tAndF (tB (f2 gIn (fTup (aCons (f2 gAdd (fVar 1) (fC (.int 1))) (aCons (f2 gAdd (fVar 2) (fVar 3)) aNil))) (fVar 0))) (tAndF (tB (f2 gNotIn (fTup (aCons (fVar 1) (aCons (f2 gAdd (fVar 2) (fVar 3)) aNil))) (fVar 0))) (tB (f2 gNotIn (fTup (aCons (f2 gAdd (fVar 1) (fC (.int 1))) (aCons (fVar 2) aNil))) (fVar 0))))) (sRet (fC (.bool false))) sNx) (([-1, 1] : List Int).map fun (d : Int) => D.p (.int d)) [some (.p (efl l)), some (.p (.int s.1)), some (.p (.int s.2)), x3] ah = .rt (.p (.bool false)) ah ∧ ∃ d ∈ ([-1, 1] : List Int), npB l s d = true) := by
    intro s x3
    rcases for_rt (σ := [some (D.p (efl l)), some (.p (.int s.1)), some (.p (.int s.2)), x3]) (ah := ah) (gt := gN 3) (f := (sIf (tAndF (tB (f2 gIn (fTup (aCons (f2 gAdd (fVar 1) (fC (.int 1))) (aCons (f2 gAdd (fVar 2) (fVar 3)) aNil))) (fVar 0))) (tAndF (tB (f2 gNotIn (fTup (aCons (fVar 1) (aCons (f2 gAdd (fVar 2) (fVar 3)) aNil))) (fVar 0))) (tB (f2 gNotIn (fTup (aCons (f2 gAdd (fVar 1) (fC (.int 1))) (aCons (fVar 2) aNil))) (fVar 0))))) (sRet (fC (.bool false))) sNx)) (fun (d : Int) => D.p (.int d))
      (fun done σ ah' => ah' = ah ∧ (∃ x3, σ = [some (D.p (efl l)), some (.p (.int s.1)), some (.p (.int s.2)), x3]) ∧ ∀ d ∈ done, npB l s d = false)
      (fun z ah' => z = .p (.bool false) ∧ ah' = ah ∧ ∃ d ∈ ([-1, 1] : List Int), npB l s d = true) [-1, 1]
      (by
        intro done d rest e σ ah' hI
        obtain ⟨rfl, ⟨x3, rfl⟩, hd⟩ := hI
        have hdm : d ∈ ([-1, 1] : List Int) := by rw [e]; simp
        refine ⟨[some (D.p (efl l)), some (.p (.int s.1)), some (.p (.int s.2)), some (.p (.int d))], rfl, ?_⟩
        rw [np_body]
        cases hp : npB l s d with
        | true => exact .inr ⟨_, _, rfl, rfl, rfl, d, hdm, hp⟩
        | false =>
          refine .inl ⟨_, _, .inl rfl, rfl, ⟨_, rfl⟩, fun c' hc' => ?_⟩
          rcases List.mem_append.mp hc' with h | h
          · exact hd c' h
          · rw [List.mem_singleton.mp h]; exact hp)
      ⟨rfl, ⟨x3, rfl⟩, fun c hc => by cases hc⟩ with ⟨σ', ah', e1, rfl, ⟨x3', rfl⟩, h⟩ | ⟨d, ah', e1, rfl, rfl, h⟩
    · exact .inl ⟨x3', e1, h⟩
    · exact .inr ⟨e1, h⟩
  have hit : ∀ (σ : DS) (ah : AH), iAny (fTup (aCons (fNeg (fC (.int 1))) (aCons (fC (.int 1)) aNil))) σ ah = .ok (([-1, 1] : List Int).map fun (d : Int) => D.p (.int d)) ah := fun σ ah => rfl
  have hit0 : iAny (fVar 0) [some (D.p (efl l)), none, none, none] ah = .ok (l.map fun s => D.p (esq s)) ah := by
    rw [e_any, e_v0, b_ok]
    show R.ok ((l.map esq).map D.p) ah = _
    rw [List.map_map]
    rfl
  rcases for_rt (σ := [some (D.p (efl l)), none, none, none]) (ah := ah) (gt := gPair 1 2) (f := (sFor (iAny (fTup (aCons (fNeg (fC (.int 1))) (aCons (fC (.int 1)) aNil)))) (gN 3) (sIf (tAndF (tB (f2 gIn (fTup (aCons (f2 gAdd (fVar 1) (fC (.int 1))) (aCons (f2 gAdd (fVar 2) (fVar 3)) aNil))) (fVar 0))) (tAndF (tB (f2 gNotIn (fTup (aCons (fVar 1) (aCons (f2 gAdd (fVar 2) (fVar 3)) aNil))) (fVar 0))) (tB (f2 gNotIn (fTup (aCons (f2 gAdd (fVar 1) (fC (.int 1))) (aCons (fVar 2) aNil))) (fVar 0))))) (sRet (fC (.bool false))) sNx))) (fun s => D.p (esq s))
    (fun done σ ah' => ah' = ah ∧ (∃ x1 x2 x3, σ = [some (D.p (efl l)), x1, x2, x3]) ∧ ∀ s ∈ done, ∀ d ∈ ([-1, 1] : List Int), npB l s d = false)
    (fun z ah' => z = .p (.bool false) ∧ ah' = ah ∧ ∃ s ∈ l, ∃ d ∈ ([-1, 1] : List Int), npB l s d = true) l
    (by
      intro done s rest e σ ah' hI
      obtain ⟨rfl, ⟨x1, x2, x3, rfl⟩, hd⟩ := hI
      have hsm : s ∈ l := by rw [e]; simp
      refine ⟨[some (D.p (efl l)), some (.p (.int s.1)), some (.p (.int s.2)), x3], rfl, ?_⟩
      rw [e_for, hit, t_ok]
      rcases inner s x3 with ⟨x3', h1, h2⟩ | ⟨h1, h2⟩
      · refine .inl ⟨_, _, .inl h1, rfl, ⟨_, _, _, rfl⟩, fun r' hr' => ?_⟩
        rcases List.mem_append.mp hr' with h | h
        · exact hd r' h
        · rw [List.mem_singleton.mp h]; exact h2
      · exact .inr ⟨_, _, h1, rfl, rfl, s, hsm, h2⟩)
    ⟨rfl, ⟨none, none, none, rfl⟩, fun c hc => by cases hc⟩ with ⟨σ', ah', e1, rfl, ⟨x1', x2', x3', rfl⟩, h⟩ | ⟨d, ah', e1, rfl, rfl, h⟩
  · refine ⟨true, ?_, ⟨fun _ hp => ?_, fun _ => rfl⟩⟩
    · rw [E__law_no_pinch, g__law_no_pinch, e_seq, e_for, hit0, t_ok, e1, s_nx]
      rfl
    · obtain ⟨s, hs, d, hd, h2⟩ := (np_iff fl).mpr hp
      rw [h s hs d hd] at h2
      cases h2
  · refine ⟨false, ?_, ⟨(fun z => by cases z), fun hp => absurd ((np_iff fl).mp h) hp⟩⟩
    rw [E__law_no_pinch, g__law_no_pinch, e_seq, e_for, hit0, t_ok, e1, s_rt, e_rt]
theorem F_lawPlain_ok {l : List Sq} (fl : Flo l) (ah : AH) : ∃ b ah', F__law_plain [.p (efl l)] ah = .ok (.p (.bool b)) ah' ∧ (b = true ↔ Plain l) := by
  obtain ⟨b1, e1, h1⟩ := F_hangs_ok fl ah
  obtain ⟨b2, ah2, e2, h2⟩ := F_noHole_ok fl ah
  obtain ⟨b3, e3, h3⟩ := F_noPinch_ok fl ah2
  have hcalc : ∃ ah', F__law_plain [.p (efl l)] ah = .ok (.p (.bool (b1 && (b2 && b3)))) ah' := by
    rw [E__law_plain, g__law_plain]
    cases b1 with
    | false => refine ⟨ah, ?_⟩; simp only [e_seq, e_nx, e_set, e_ret, e_expr, e_if, e_f2, e_call, e_nil, e_cons, e_c, e_v0, e_vs, e_set0, e_sets, e_tB, e_tru, e_notF, e_neg, b_ok, b_ex, t_ok, t_ex, s_nx, s_rt, s_bk, s_ct, s_ex, o_ok, e_rt, e_fnx, i_add, i_sub, i_mod, Int.reduceLT, i_lt, i_le, i_gt, i_ge, i_eq, i_ne, l_add, t_add, e_r1, e_for, e_lc, e_gN, e_asg, e_tup, e_any, e_tupl, e_frz, ↓reduceIte, Bool.false_eq_true, Bool.not_true, Bool.not_false, e_and, e_or, e_yes, e_fAnd, e1, Bool.false_and]
    | true =>
      cases b2 with
      | false => refine ⟨ah2, ?_⟩; simp only [e_seq, e_nx, e_set, e_ret, e_expr, e_if, e_f2, e_call, e_nil, e_cons, e_c, e_v0, e_vs, e_set0, e_sets, e_tB, e_tru, e_notF, e_neg, b_ok, b_ex, t_ok, t_ex, s_nx, s_rt, s_bk, s_ct, s_ex, o_ok, e_rt, e_fnx, i_add, i_sub, i_mod, Int.reduceLT, i_lt, i_le, i_gt, i_ge, i_eq, i_ne, l_add, t_add, e_r1, e_for, e_lc, e_gN, e_asg, e_tup, e_any, e_tupl, e_frz, ↓reduceIte, Bool.false_eq_true, Bool.not_true, Bool.not_false, e_and, e_or, e_yes, e_fAnd, e1, e2, Bool.true_and, Bool.false_and]
      | true => refine ⟨ah2, ?_⟩; simp only [e_seq, e_nx, e_set, e_ret, e_expr, e_if, e_f2, e_call, e_nil, e_cons, e_c, e_v0, e_vs, e_set0, e_sets, e_tB, e_tru, e_notF, e_neg, b_ok, b_ex, t_ok, t_ex, s_nx, s_rt, s_bk, s_ct, s_ex, o_ok, e_rt, e_fnx, i_add, i_sub, i_mod, Int.reduceLT, i_lt, i_le, i_gt, i_ge, i_eq, i_ne, l_add, t_add, e_r1, e_for, e_lc, e_gN, e_asg, e_tup, e_any, e_tupl, e_frz, ↓reduceIte, Bool.false_eq_true, Bool.not_true, Bool.not_false, e_and, e_or, e_yes, e_fAnd, e1, e2, e3, Bool.true_and]
  obtain ⟨ah', e⟩ := hcalc
  refine ⟨_, ah', e, ?_⟩
  rw [Bool.and_eq_true, Bool.and_eq_true, h1, h2, h3]
  exact ⟨fun ⟨a, b, c⟩ => ⟨a, b, c⟩, fun h => ⟨h.hang, h.hole, h.pin⟩⟩
end DL

set_option Elab.async false
set_option linter.all false
set_option maxRecDepth 100000
/-! NB: two layings over one another: mates, rings. -/
namespace DL
open PySem PySem.Spec PyProof.Rows L2
/-! ### mates -/
def mt : List DL.St → Sq → Sq
  | [], s => s
  | x :: r, s => if x.1 = s then x.2 else if x.2 = s then x.1 else mt r s
theorem mt_some : ∀ {M : List DL.St} {s : Sq}, s ∈ sqs M → ∃ x ∈ M, (x.1 = s ∧ x.2 = mt M s) ∨ (x.2 = s ∧ x.1 = mt M s)
  | [], s, h => by cases h
  | x :: M, s, h => by
    by_cases c1 : x.1 = s
    · exact ⟨x, List.mem_cons_self, .inl ⟨c1, by rw [mt, if_pos c1]⟩⟩
    · by_cases c2 : x.2 = s
      · exact ⟨x, List.mem_cons_self, .inr ⟨c2, by rw [mt, if_neg c1, if_pos c2]⟩⟩
      · have h' : s ∈ sqs M := by
          have e : sqs (x :: M) = x.1 :: x.2 :: sqs M := rfl
          rw [e] at h
          rcases List.mem_cons.mp h with h | h
          · exact absurd h.symm c1
          · rcases List.mem_cons.mp h with h | h
            · exact absurd h.symm c2
            · exact h
        obtain ⟨y, h1, h2⟩ := mt_some h'
        refine ⟨y, List.mem_cons_of_mem _ h1, ?_⟩
        rw [mt, if_neg c1, if_neg c2]
        exact h2
section
variable {l : List Sq} {M : List DL.St}
theorem Lay.sq1 (L : Lay l M) {x : DL.St} (h : x ∈ M) : x.1 ∈ l ∧ x.2 ∈ l := by
  have : ∀ v ∈ sqs [x], v ∈ l := fun v hv => L.c.mem_iff.mp (by
    unfold sqs at hv ⊢
    rw [List.mem_flatMap]
    exact ⟨x, h, by simpa using hv⟩)
  exact ⟨this x.1 (by simp [sqs]), this x.2 (by simp [sqs])⟩
theorem Lay.mt1 (nd : l.Nodup) (L : Lay l M) {x : DL.St} (h : x ∈ M) : mt M x.1 = x.2 ∧ mt M x.2 = x.1 := by
  have ne : x.1 ≠ x.2 := fun e => by
    have := (L.g x h).l
    rw [e] at this
    exact sqLt_irr this
  constructor
  · obtain ⟨y, hy, h1⟩ := mt_some (M := M) (s := x.1) (L.c.mem_iff.mpr (L.sq1 h).1)
    rcases h1 with ⟨h1, h2⟩ | ⟨h1, h2⟩
    · have := Lay.uniq nd L hy h (v := x.1) (.inl h1.symm) (.inl rfl)
      rw [← h2, this]
    · have := Lay.uniq nd L hy h (v := x.1) (.inr h1.symm) (.inl rfl)
      rw [this] at h1
      exact absurd h1.symm ne
  · obtain ⟨y, hy, h1⟩ := mt_some (M := M) (s := x.2) (L.c.mem_iff.mpr (L.sq1 h).2)
    rcases h1 with ⟨h1, h2⟩ | ⟨h1, h2⟩
    · have := Lay.uniq nd L hy h (v := x.2) (.inl h1.symm) (.inr rfl)
      rw [this] at h1
      exact absurd h1 ne
    · have := Lay.uniq nd L hy h (v := x.2) (.inr h1.symm) (.inr rfl)
      rw [← h2, this]
/-- what a mate is -/
structure Mate (l : List Sq) (m : Sq → Sq) : Prop where
  in_ : ∀ s ∈ l, m s ∈ l
  inv : ∀ s ∈ l, m (m s) = s
  nb : ∀ s ∈ l, m s ∈ nbs s
theorem Lay.mate (nd : l.Nodup) (L : Lay l M) : Mate l (mt M) := by
  refine ⟨fun s hs => ?_, fun s hs => ?_, fun s hs => ?_⟩
  · obtain ⟨y, hy, h1⟩ := mt_some (M := M) (s := s) (L.c.mem_iff.mpr hs)
    rcases h1 with ⟨h1, h2⟩ | ⟨h1, h2⟩
    · rw [← h2]; exact (L.sq1 hy).2
    · rw [← h2]; exact (L.sq1 hy).1
  · obtain ⟨y, hy, h1⟩ := mt_some (M := M) (s := s) (L.c.mem_iff.mpr hs)
    have h3 := L.mt1 nd hy
    rcases h1 with ⟨h1, h2⟩ | ⟨h1, h2⟩
    · rw [← h2, h3.2, h1]
    · rw [← h2, h3.1, h1]
  · obtain ⟨y, hy, h1⟩ := mt_some (M := M) (s := s) (L.c.mem_iff.mpr hs)
    have h3 := (L.g y hy).n
    rcases h1 with ⟨h1, h2⟩ | ⟨h1, h2⟩
    · rw [← h2, ← h1]; exact h3
    · rw [← h2, ← h1]; exact nbs_sym h3
/-- the stone of two squares -/
def pr (a b : Sq) : DL.St := if sqLt b a then (b, a) else (a, b)
theorem pr_lt {a b : Sq} (h : sqLt a b) : pr a b = (a, b) := by
  unfold pr
  rw [if_neg fun z => sqLt_asym h z]
theorem pr_gt {a b : Sq} (h : sqLt b a) : pr a b = (b, a) := by
  unfold pr
  rw [if_pos h]
theorem pr_comm {a b : Sq} (h : a ≠ b) : pr a b = pr b a := by
  by_cases c : sqLt b a
  · rw [pr_gt c, pr_lt c]
  · rcases sqLt_tri a b c with e | e
    · exact absurd e h
    · rw [pr_lt e, pr_gt e]
theorem Lay.pr_in (L : Lay l M) {s : Sq} (hs : s ∈ l) : pr s (mt M s) ∈ M := by
  obtain ⟨y, hy, h1⟩ := mt_some (M := M) (s := s) (L.c.mem_iff.mpr hs)
  have hlt := (L.g y hy).l
  rcases h1 with ⟨h1, h2⟩ | ⟨h1, h2⟩
  · rw [← h2, ← h1, pr_lt hlt]; exact hy
  · rw [← h2, ← h1, pr_gt hlt]; exact hy
theorem Lay.pr_of (nd : l.Nodup) (L : Lay l M) {x : DL.St} (h : x ∈ M) : x = pr x.1 (mt M x.1) ∧ x = pr x.2 (mt M x.2) := by
  have h1 := L.mt1 nd h
  have hlt := (L.g x h).l
  rw [h1.1, h1.2, pr_lt hlt, pr_gt hlt]
  exact ⟨rfl, rfl⟩
end
/-! ### dicts whose values are told by the key -/
def dG (v : Sq → PyData) (F : List Sq) : AO := .dct (F.map fun x => (esq x, D.p (v x)))
theorem kfind_none {v : Sq → PyData} {F : List Sq} {y : Sq} (hy : y ∉ F) : kfind (F.map fun x => (esq x, D.p (v x))) (esq y) = none := by
  induction F with
  | nil => rfl
  | cons a F ih =>
    have h1 : ¬ nk (esq a) = nk (esq y) := fun z => hy (by rw [(nk_esq a y).mp z]; exact List.mem_cons_self)
    have h2 : y ∉ F := fun z => hy (List.mem_cons_of_mem _ z)
    have := ih h2
    simpa [kfind, h1] using this
theorem kfind_val {v : Sq → PyData} {F : List Sq} {y : Sq} (hy : y ∈ F) : kfind (F.map fun x => (esq x, D.p (v x))) (esq y) = some (.p (v y)) := by
  induction F with
  | nil => cases hy
  | cons a F ih =>
    by_cases h1 : a = y
    · subst h1
      simp [kfind]
    · have h2 : ¬ nk (esq a) = nk (esq y) := fun z => h1 ((nk_esq a y).mp z)
      have h3 : y ∈ F := by
        rcases List.mem_cons.mp hy with h | h
        · exact absurd h.symm h1
        · exact h
      have := ih h3
      simpa [kfind, h2] using this
theorem put_dG {ah g : AH} {v : Sq → PyData} {F : List Sq} {y : Sq} (hy : y ∉ F) (hl : F.length ≤ 1000) : gDPut (.r ah.length) (.p (esq y)) (.p (v y)) (ah ++ dG v F :: g) = some (ah ++ dG v (F ++ [y]) :: g) := by
  have h1 : (ah ++ dG v F :: g)[ah.length]? = some (.dct (F.map fun x => (esq x, D.p (v x)))) := h_at _ _ _
  rw [dput_dct h1 (keyOk_esq y) (by rw [List.length_map]; omega), h_set, kput_new (kfind_none hy)]
  unfold dG
  rw [List.map_append]
  rfl
theorem pureKv_dG (v : Sq → PyData) : ∀ F : List Sq, pureKv (F.map fun x => (esq x, D.p (v x))) = some (F.map fun x => (esq x, v x))
  | [] => rfl
  | a :: F => by
    rw [List.map_cons, pureKv, pureKv_dG v F]
    rfl
def pdG (v : Sq → PyData) (F : List Sq) : PyData := .dict (F.map fun x => (esq x, v x))
theorem frz_dG {ah g : AH} {v : Sq → PyData} {F : List Sq} : gFrz (.r ah.length) (ah ++ dG v F :: g) = .ok (.p (pdG v F)) (ah ++ .dead :: g) := by
  unfold gFrz
  dsimp only
  rw [h_at]
  unfold dG
  dsimp only
  rw [pureKv_dG]
  dsimp only
  rw [h_set]
  rfl
theorem dct_pdG (v : Sq → PyData) (F : List Sq) (ah : AH) : dctOf ah (.p (pdG v F)) = some (F.map fun x => (esq x, D.p (v x))) := by
  unfold pdG dctOf
  dsimp only
  rw [List.map_map]
  rfl
theorem sub_pdG {v : Sq → PyData} {F : List Sq} {y : Sq} (hy : y ∈ F) (ah : AH) : gSub2 (.p (pdG v F)) (.p (esq y)) ah = .ok (.p (v y)) ah := by
  unfold gSub2 gDGet
  rw [dct_pdG]
  dsimp only
  rw [if_pos (keyOk_esq y), kfind_val hy]
theorem F_mates_ok {l : List Sq} {M : List DL.St} (nd : l.Nodup) (L : Lay l M) (hl : l.length ≤ 24) (ah : AH) : F_mates [.p (ety M)] ah = .ok (.p (pdG (fun s => esq (mt M s)) (sqs M))) (ah ++ [.dead]) := by
  have hnd : (sqs M).Nodup := L.c.nodup_iff.mpr nd
  have hsl : (sqs M).length ≤ 24 := by rw [L.c.length_eq]; exact hl
  obtain ⟨σ', ah', e1, x2, x3, e2, e3⟩ := for_inv (σ := [some (D.p (ety M)), some (.r ah.length), none, none]) (ah := ah ++ [dG (fun s => esq (mt M s)) []]) (gt := gPair 2 3) (f := (sSeq (sDPut (fVar 1) (fVar 2) (fVar 3)) (sDPut (fVar 1) (fVar 3) (fVar 2)))) (fun x => D.p (est x))
    (fun done σ ah' => ∃ x2 x3, σ = [some (D.p (ety M)), some (.r ah.length), x2, x3] ∧ ah' = ah ++ [dG (fun s => esq (mt M s)) (sqs done)]) M
    (by
      intro done x rest e σ ah' hI
      obtain ⟨x2, x3, rfl, rfl⟩ := hI
      have hx : x ∈ M := by rw [e]; simp
      have hm := L.mt1 nd hx
      have hs : sqs M = sqs done ++ (x.1 :: x.2 :: sqs rest) := by rw [e, sqs_app]; rfl
      rw [hs] at hnd hsl
      rw [List.nodup_append] at hnd
      rw [List.length_append, List.length_cons] at hsl
      have n1 : x.1 ∉ sqs done := fun z => hnd.2.2 _ z _ List.mem_cons_self rfl
      have n2 : x.2 ∉ sqs done ++ [x.1] := fun z => by
        rcases List.mem_append.mp z with z | z
        · exact hnd.2.2 _ z _ (List.mem_cons_of_mem _ List.mem_cons_self) rfl
        · rw [List.mem_singleton] at z
          have := (List.nodup_cons.mp hnd.2.1).1
          exact this (by rw [← z]; exact List.mem_cons_self)
      have p1 : gDPut (.r ah.length) (.p (esq x.1)) (.p (esq x.2)) (ah ++ [dG (fun s => esq (mt M s)) (sqs done)]) = some (ah ++ [dG (fun s => esq (mt M s)) (sqs done ++ [x.1])]) := by
        have := put_dG (ah := ah) (g := []) (v := fun s => esq (mt M s)) n1 (by omega)
        rw [hm.1] at this
        exact this
      have p2 : gDPut (.r ah.length) (.p (esq x.2)) (.p (esq x.1)) (ah ++ [dG (fun s => esq (mt M s)) (sqs done ++ [x.1])]) = some (ah ++ [dG (fun s => esq (mt M s)) (sqs done ++ [x.1] ++ [x.2])]) := by
        have := put_dG (ah := ah) (g := []) (v := fun s => esq (mt M s)) n2 (by rw [List.length_append, List.length_singleton]; omega)
        rw [hm.2] at this
        exact this
      have hq : sqs (done ++ [x]) = sqs done ++ [x.1] ++ [x.2] := by rw [sqs_app, List.append_assoc]; rfl
      refine ⟨[some (D.p (ety M)), some (.r ah.length), some (.p (esq x.1)), some (.p (esq x.2))], [some (D.p (ety M)), some (.r ah.length), some (.p (esq x.1)), some (.p (esq x.2))], ah ++ [dG (fun s => esq (mt M s)) (sqs (done ++ [x]))], rfl, .inl ?_, _, _, rfl, rfl⟩
      rw [hq]
      simp only [e_seq, e_nx, e_set, e_ret, e_expr, e_if, e_f2, e_call, e_nil, e_cons, e_c, e_v0, e_vs, e_set0, e_sets, e_tB, e_tru, e_notF, e_neg, b_ok, b_ex, t_ok, t_ex, s_nx, s_rt, s_bk, s_ct, s_ex, o_ok, e_rt, e_fnx, i_add, i_sub, i_mod, Int.reduceLT, i_lt, i_le, i_gt, i_ge, i_eq, i_ne, l_add, t_add, e_r1, e_for, e_gN, e_asg, e_tup, e_tupl, e_frz, ↓reduceIte, Bool.false_eq_true, Bool.not_true, Bool.not_false, e_and, e_or, e_yes, e_dput, p1, p2])
    ⟨none, none, rfl, rfl⟩
  subst e2 e3
  have hit : iAny (fVar 0) [some (D.p (ety M)), some (.r ah.length), none, none] (ah ++ [AO.dct []]) = .ok (M.map fun x => D.p (est x)) (ah ++ [AO.dct []]) := by
    rw [e_any, e_v0, b_ok]
    show R.ok ((M.map est).map D.p) _ = _
    rw [List.map_map]
    rfl
  have hd : sSet 1 fDict [some (D.p (ety M)), none, none, none] ah = .nx [some (D.p (ety M)), some (.r ah.length), none, none] (ah ++ [AO.dct []]) := rfl
  have e1' := e1
  have hz : (ah ++ [dG (fun s => esq (mt M s)) []]) = ah ++ [AO.dct []] := rfl
  rw [hz] at e1'
  rw [E_mates, g_mates, e_seq, hd, s_nx, e_seq, e_for, hit, t_ok, e1', s_nx, e_ret, e_frz, e_vs, e_v0, b_ok, frz_dG, t_ok, e_rt]
/-! ### rings -/
def itr (m t : Sq → Sq) (s : Sq) : Nat → Sq
  | 0 => s
  | n + 1 => t (m (itr m t s n))
def seg (m t : Sq → Sq) (s : Sq) : Nat → List Sq
  | 0 => []
  | k + 1 => seg m t s k ++ [itr m t s k, m (itr m t s k)]
theorem seg_len (m t : Sq → Sq) (s : Sq) : ∀ k, (seg m t s k).length = 2 * k
  | 0 => rfl
  | k + 1 => by rw [seg, List.length_append, seg_len m t s k]; simp only [List.length_cons, List.length_nil]; omega
theorem mem_seg {m t : Sq → Sq} {s x : Sq} : ∀ {k : Nat}, x ∈ seg m t s k ↔ ∃ i, i < k ∧ (x = itr m t s i ∨ x = m (itr m t s i))
  | 0 => by simp [seg]
  | k + 1 => by
    rw [seg, List.mem_append, mem_seg]
    simp only [List.mem_cons, List.not_mem_nil, or_false]
    constructor
    · rintro (⟨i, h1, h2⟩ | h)
      · exact ⟨i, by omega, h2⟩
      · exact ⟨k, by omega, h⟩
    · rintro ⟨i, h1, h2⟩
      by_cases e : i = k
      · subst e; exact .inr h2
      · exact .inl ⟨i, by omega, h2⟩
def col (s : Sq) : Int := (s.1 + s.2) % 2
theorem col_nb {s v : Sq} (h : v ∈ nbs s) : col v ≠ col s := by
  obtain ⟨a, b⟩ := s
  obtain ⟨c, d⟩ := v
  simp only [nbs, List.mem_cons, List.not_mem_nil, or_false, Prod.mk.injEq] at h
  unfold col
  dsimp only
  omega
theorem col2 (a : Sq) : col a = 0 ∨ col a = 1 := by unfold col; omega
section
variable {l : List Sq} {m t : Sq → Sq} {s : Sq} (hm : Mate l m) (ht : Mate l t)
include hm ht
theorem itr_in (hs : s ∈ l) : ∀ k, itr m t s k ∈ l
  | 0 => hs
  | k + 1 => ht.in_ _ (hm.in_ _ (itr_in hs k))
theorem itr_col (hs : s ∈ l) : ∀ k, col (itr m t s k) = col s
  | 0 => rfl
  | k + 1 => by
    have h1 := itr_in hm ht hs k
    have h2 := col_nb (hm.nb _ h1)
    have h3 := col_nb (ht.nb _ (hm.in_ _ h1))
    rw [← itr_col hs k]
    show col (t (m (itr m t s k))) = _
    have c1 := col2 (itr m t s k)
    have c2 := col2 (m (itr m t s k))
    have c3 := col2 (t (m (itr m t s k)))
    omega
theorem itr_back (hs : s ∈ l) {i : Nat} {j : Nat} : itr m t s (i + 1) = itr m t s (j + 1) → itr m t s i = itr m t s j := fun h => by
  have a1 := itr_in hm ht hs i
  have a2 := itr_in hm ht hs j
  have e : t (m (itr m t s i)) = t (m (itr m t s j)) := h
  have e1 := congrArg t e
  rw [ht.inv _ (hm.in_ _ a1), ht.inv _ (hm.in_ _ a2)] at e1
  have e2 := congrArg m e1
  rw [hm.inv _ a1, hm.inv _ a2] at e2
  exact e2
theorem itr_eq (hs : s ∈ l) : ∀ (i d : Nat), itr m t s (i + d) = itr m t s i → itr m t s d = s
  | 0, d, h => by rw [Nat.zero_add] at h; exact h
  | i + 1, d, h => itr_eq hs i d (itr_back hm ht hs (by rw [show i + d + 1 = i + 1 + d by omega]; exact h))
theorem itr_apart (hs : s ∈ l) {k : Nat} (h : ∀ j, 0 < j → j < k → itr m t s j ≠ s) {a b : Nat} (hab : a < b) (hb : b < k) : itr m t s a ≠ itr m t s b := fun e =>
  h (b - a) (by omega) (by omega) (itr_eq hm ht hs a (b - a) (by rw [show a + (b - a) = b by omega]; exact e.symm))
theorem itr_le (hs : s ∈ l) {k : Nat} (h : ∀ j, 0 < j → j < k → itr m t s j ≠ s) : k ≤ l.length := by
  have nd : ((List.range k).map (itr m t s)).Nodup := by
    unfold List.Nodup
    rw [List.pairwise_map]
    refine (List.Pairwise.and_mem.mp List.pairwise_lt_range).imp fun {a b} ⟨_, hb, hab⟩ => itr_apart hm ht hs h hab (List.mem_range.mp hb)
  have := nd_le _ l nd fun x hx => by
    obtain ⟨i, _, rfl⟩ := List.mem_map.mp hx
    exact itr_in hm ht hs i
  rw [List.length_map, List.length_range] at this
  exact this
theorem m_inj {a b : Sq} (ha : a ∈ l) (hb : b ∈ l) (e : m a = m b) : a = b := by
  have := congrArg m e
  rwa [hm.inv _ ha, hm.inv _ hb] at this
theorem seg_nd (hs : s ∈ l) : ∀ {k : Nat}, (∀ j, 0 < j → j < k → itr m t s j ≠ s) → (seg m t s k).Nodup
  | 0, _ => List.nodup_nil
  | k + 1, h => by
    have a1 := itr_in hm ht hs k
    have c1 := col_nb (hm.nb _ a1)
    rw [seg, List.nodup_append]
    refine ⟨seg_nd hs fun j h1 h2 => h j h1 (by omega), ?_, fun x hx y hy => ?_⟩
    · rw [List.nodup_cons]
      refine ⟨fun z => ?_, by simp⟩
      rw [List.mem_singleton] at z
      exact c1 (congrArg col z).symm
    · rintro rfl
      obtain ⟨i, hi, h1⟩ := mem_seg.mp hx
      have a2 := itr_in hm ht hs i
      have c2 := col_nb (hm.nb _ a2)
      have e1 := itr_col hm ht hs i
      have e2 := itr_col hm ht hs k
      have hne := itr_apart hm ht hs h hi (Nat.lt_succ_self k)
      simp only [List.mem_cons, List.not_mem_nil, or_false] at hy
      rcases h1 with rfl | rfl <;> rcases hy with hy | hy
      · exact hne hy
      · have := congrArg col hy; omega
      · have := congrArg col hy; omega
      · exact hne (m_inj hm ht a2 a1 hy)
end
theorem sub_lastref {ah : AH} {q : List Sq} {x : Sq} : gSub2 (.r ah.length) (.p (.int (-1))) (ah ++ [fsq (q ++ [x])]) = .ok (.p (esq x)) (ah ++ [fsq (q ++ [x])]) := by
  have e1 : dctOf (ah ++ [fsq (q ++ [x])]) (.r ah.length) = none := by unfold dctOf fsq; simp only [get_last]
  have e2 : itemsOf (ah ++ [fsq (q ++ [x])]) (.r ah.length) = some (((q ++ [x]).map esq).map .p) := by unfold itemsOf fsq; simp only [get_last]
  have h1 : atI (((q ++ [x]).map esq).map D.p) (-1) = some (.p (esq x)) := by
    have e : ixN (((q ++ [x]).map esq).map D.p).length (-1) = some q.length := by
      unfold ixN
      rw [if_neg (by decide), if_pos (by simp only [List.length_map, List.length_append, List.length_singleton]; omega)]
      simp only [List.length_map, List.length_append, List.length_singleton]
      congr 1
      omega
    unfold atI
    rw [e]
    show (((q ++ [x]).map esq).map D.p)[q.length]? = _
    rw [List.getElem?_map, List.getElem?_map, List.getElem?_append_right (Nat.le_refl _), Nat.sub_self]
    rfl
  unfold gSub2
  rw [e1]
  unfold gIx
  dsimp only
  rw [e2]
  dsimp only
  rw [h1]
theorem F_ringFrom_ok {l U V : List Sq} {m t : Sq → Sq} (hm : Mate l m) (ht : Mate l t) (hU : ∀ x, x ∈ U ↔ x ∈ l) (hV : ∀ x, x ∈ V ↔ x ∈ l) (hl : l.length ≤ 24) {s : Sq} (hs : s ∈ l) (ah : AH) :
    ∃ p, 1 ≤ p ∧ p ≤ l.length ∧ itr m t s p = s ∧ (∀ j, 0 < j → j < p → itr m t s j ≠ s) ∧ F_ring_from [.p (esq s), .p (pdG (fun x => esq (m x)) U), .p (pdG (fun x => esq (t x)) V)] ah = .ok (.p (.list ((seg m t s p).map esq))) (ah ++ [.dead]) := by
  have hneg : ∀ (σ : DS) (ah : AH), fNeg (fC (.int 1)) σ ah = .ok (.p (.int (-1))) ah := fun σ ah => rfl
  have key := while_run (c := (tB (f2 gNe (f2 gSub2 (fVar 2) (f2 gSub2 (fVar 3) (fNeg (fC (.int 1))))) (fVar 0)))) (f := (sSeq (sExpr (fMt isL gAppend (fVar 3) (aCons (f2 gSub2 (fVar 2) (f2 gSub2 (fVar 3) (fNeg (fC (.int 1))))) aNil))) (sExpr (fMt isL gAppend (fVar 3) (aCons (f2 gSub2 (fVar 1) (f2 gSub2 (fVar 3) (fNeg (fC (.int 1))))) aNil))))) (fun w σ ah' => ∃ k, 1 ≤ k ∧ σ = [some (D.p (esq s)), some (.p (pdG (fun x => esq (m x)) U)), some (.p (pdG (fun x => esq (t x)) V)), some (.r ah.length)] ∧ ah' = ah ++ [fsq (seg m t s k)] ∧ (∀ j, 0 < j → j < k → itr m t s j ≠ s) ∧ w = l.length + 1 - k)
    (fun σ ah' => ∃ k, 1 ≤ k ∧ σ = [some (D.p (esq s)), some (.p (pdG (fun x => esq (m x)) U)), some (.p (pdG (fun x => esq (t x)) V)), some (.r ah.length)] ∧ ah' = ah ++ [fsq (seg m t s k)] ∧ (∀ j, 0 < j → j < k → itr m t s j ≠ s) ∧ itr m t s k = s)
    (by
      rintro w σ ah' ⟨k, hk, rfl, rfl, hj, rfl⟩
      obtain ⟨k, rfl⟩ : ∃ k', k = k' + 1 := ⟨k - 1, by omega⟩
      have a1 := itr_in hm ht hs k
      have a2 := hm.in_ _ a1
      have a3 := itr_in hm ht hs (k + 1)
      have hseg : seg m t s (k + 1) = (seg m t s k ++ [itr m t s k]) ++ [m (itr m t s k)] := by rw [seg]; simp
      have hsl := seg_len m t s (k + 1)
      have hkl := itr_le hm ht hs hj
      have hlast : gSub2 (.r ah.length) (.p (.int (-1))) (ah ++ [fsq (seg m t s (k + 1))]) = .ok (.p (esq (m (itr m t s k)))) (ah ++ [fsq (seg m t s (k + 1))]) := by rw [hseg]; exact sub_lastref
      have hth : ∀ ah, gSub2 (.p (pdG (fun x => esq (t x)) V)) (.p (esq (m (itr m t s k)))) ah = .ok (.p (esq (itr m t s (k + 1)))) ah := fun ah => sub_pdG ((hV _).mpr a2) ah
      have hc : (tB (f2 gNe (f2 gSub2 (fVar 2) (f2 gSub2 (fVar 3) (fNeg (fC (.int 1))))) (fVar 0))) [some (D.p (esq s)), some (.p (pdG (fun x => esq (m x)) U)), some (.p (pdG (fun x => esq (t x)) V)), some (.r ah.length)] (ah ++ [fsq (seg m t s (k + 1))]) = .ok (!decide (itr m t s (k + 1) = s)) (ah ++ [fsq (seg m t s (k + 1))]) := by
        simp only [e_tB, e_f2, e_vs, e_v0, b_ok, hneg, hlast, hth, gNe_sq]
      by_cases c : itr m t s (k + 1) = s
      · exact .inl ⟨_, hc.trans (by rw [decide_eq_true c]; rfl), k + 1, by omega, rfl, rfl, hj, c⟩
      · have hj2 : ∀ j, 0 < j → j < k + 2 → itr m t s j ≠ s := fun j h1 h2 => by
          by_cases e : j = k + 1
          · rw [e]; exact c
          · exact hj j h1 (by omega)
        have hkl2 := itr_le hm ht hs hj2
        refine .inr ⟨_, [some (D.p (esq s)), some (.p (pdG (fun x => esq (m x)) U)), some (.p (pdG (fun x => esq (t x)) V)), some (.r ah.length)], ah ++ [fsq (seg m t s (k + 2))], hc.trans (by rw [decide_eq_false c]; rfl), ?_, l.length + 1 - (k + 2), by omega, k + 2, by omega, rfl, rfl, hj2, rfl⟩
        have ap1 : gAppend (.r ah.length) [.p (esq (itr m t s (k + 1)))] (ah ++ [fsq (seg m t s (k + 1))]) = .ok (.p .none) (ah ++ [fsq (seg m t s (k + 1) ++ [itr m t s (k + 1)])]) := app_fsq (by omega)
        have hl2 : gSub2 (.r ah.length) (.p (.int (-1))) (ah ++ [fsq (seg m t s (k + 1) ++ [itr m t s (k + 1)])]) = .ok (.p (esq (itr m t s (k + 1)))) (ah ++ [fsq (seg m t s (k + 1) ++ [itr m t s (k + 1)])]) := sub_lastref
        have hmi : ∀ ah, gSub2 (.p (pdG (fun x => esq (m x)) U)) (.p (esq (itr m t s (k + 1)))) ah = .ok (.p (esq (m (itr m t s (k + 1))))) ah := fun ah => sub_pdG ((hU _).mpr a3) ah
        have ap2 : gAppend (.r ah.length) [.p (esq (m (itr m t s (k + 1))))] (ah ++ [fsq (seg m t s (k + 1) ++ [itr m t s (k + 1)])]) = .ok (.p .none) (ah ++ [fsq (seg m t s (k + 2))]) := by
          have e : seg m t s (k + 2) = (seg m t s (k + 1) ++ [itr m t s (k + 1)]) ++ [m (itr m t s (k + 1))] := by
            have : seg m t s (k + 2) = seg m t s (k + 1) ++ [itr m t s (k + 1), m (itr m t s (k + 1))] := rfl
            rw [this]; simp
          rw [e]
          exact app_fsq (by rw [List.length_append, List.length_singleton]; omega)
        simp only [e_seq, e_nx, e_set, e_ret, e_expr, e_if, e_f2, e_call, e_nil, e_cons, e_c, e_v0, e_vs, e_set0, e_sets, e_tB, e_tru, e_notF, e_neg, b_ok, b_ex, t_ok, t_ex, s_nx, s_rt, s_bk, s_ct, s_ex, o_ok, e_rt, e_fnx, i_add, i_sub, i_mod, Int.reduceLT, i_lt, i_le, i_gt, i_ge, i_eq, i_ne, l_add, t_add, e_r1, e_for, e_gN, e_asg, e_tup, e_tupl, e_frz, ↓reduceIte, Bool.false_eq_true, Bool.not_true, Bool.not_false, e_and, e_or, e_yes, e_fMt, isL_fsq, hneg, hlast, hth, ap1, hl2, hmi, ap2])
  obtain ⟨σ', ah', e1, p, hp, e2, e3, hj, hps⟩ := key 100000 (l.length + 1 - 1) [some (D.p (esq s)), some (.p (pdG (fun x => esq (m x)) U)), some (.p (pdG (fun x => esq (t x)) V)), some (.r ah.length)] (ah ++ [fsq (seg m t s 1)]) (by omega) ⟨1, Nat.le_refl _, rfl, rfl, fun j h1 h2 => by omega, rfl⟩
  subst e2 e3
  have hsm : ∀ ah, gSub2 (.p (pdG (fun x => esq (m x)) U)) (.p (esq s)) ah = .ok (.p (esq (m s))) ah := fun ah => sub_pdG ((hU _).mpr hs) ah
  refine ⟨p, hp, itr_le hm ht hs hj, hps, hj, ?_⟩
  have h3 : (sSet 3 (fLstM (aCons (fVar 0) (aCons (f2 gSub2 (fVar 1) (fVar 0)) aNil)))) [some (D.p (esq s)), some (.p (pdG (fun x => esq (m x)) U)), some (.p (pdG (fun x => esq (t x)) V)), none] ah = .nx [some (D.p (esq s)), some (.p (pdG (fun x => esq (m x)) U)), some (.p (pdG (fun x => esq (t x)) V)), some (.r ah.length)] (ah ++ [fsq (seg m t s 1)]) := by
    simp only [e_set, e_lstM, e_cons, e_nil, e_f2, e_vs, e_v0, b_ok, hsm, List.length_cons, List.length_nil, Nat.reduceAdd, Nat.reduceLeDiff, ↓reduceIte, t_ok, e_sets, e_set0]
    rfl
  rw [E_ring_from, g_ring_from, e_seq, h3, s_nx, e_seq, e1, s_nx, e_ret, e_frz, e_vs, e_vs, e_vs, e_v0, b_ok, frz_last, t_ok, e_rt]
end DL

set_option Elab.async false
set_option linter.all false
set_option maxRecDepth 100000
/-! NC: rings. -/
namespace DL
open PySem PySem.Spec PyProof.Rows L2
/-- a list of lists of squares -/
def esl (R : List Sq) : PyData := .list (R.map esq)
def lsq (RL : List (List Sq)) : AO := .lst ((RL.map esl).map .p)
theorem app_lsq {ah g : AH} {x : AO} {RL : List (List Sq)} {R : List Sq} (h : RL.length ≤ 1000) : gAppend (.r (ah.length + 1)) [.p (esl R)] (ah ++ x :: lsq RL :: g) = .ok (.p .none) (ah ++ x :: lsq (RL ++ [R]) :: g) := by
  unfold gAppend lsq
  simp only [h_at1, h_set1]
  rw [if_pos (by simp only [List.length_map]; omega), List.map_append, List.map_append]
  rfl
theorem isL1q {ah g : AH} {x : AO} {RL : List (List Sq)} : isL (ah ++ x :: lsq RL :: g) (.r (ah.length + 1)) = true := isL1
theorem frz1q {ah g : AH} {x : AO} {RL : List (List Sq)} : gFrz (.r (ah.length + 1)) (ah ++ x :: lsq RL :: g) = .ok (.p (.list (RL.map esl))) (ah ++ x :: .dead :: g) := by
  unfold gFrz lsq
  dsimp only
  rw [h_at1]
  dsimp only
  rw [pures_p]
  dsimp only
  rw [h_set1]
structure RingOk (l : List Sq) (m t : Sq → Sq) (R : List Sq) : Prop where
  ex : ∃ s p, 2 ≤ p ∧ p ≤ l.length ∧ R = seg m t s p ∧ itr m t s p = s ∧ (∀ j, 0 < j → j < p → itr m t s j ≠ s) ∧ s ∈ l ∧ ∀ x ∈ R, x = s ∨ sqLt s x
structure RInv (l : List Sq) (m t : Sq → Sq) (done K : List Sq) (RL : List (List Sq)) : Prop where
  kn : K.Nodup
  kl : ∀ x ∈ K, x ∈ l
  km : ∀ x ∈ K, m x ∈ K
  kt : ∀ x ∈ K, t x ∈ K
  dn : ∀ x ∈ done, x ∈ K
  rk : ∀ R ∈ RL, ∀ x ∈ R, x ∈ K
  ro : ∀ R ∈ RL, RingOk l m t R
  nr : ∀ x ∈ K, (∀ R ∈ RL, x ∉ R) → m x = t x
  fj : RL.flatten.Nodup
  fs : (RL.map fun R => R.headD (0, 0)).Pairwise sqLt
  fd : ∀ R ∈ RL, R.headD (0, 0) ∈ done
theorem seg_head {m t : Sq → Sq} {s : Sq} : ∀ {p : Nat}, 1 ≤ p → (seg m t s p).headD (0, 0) = s
  | 0, h => absurd h (by omega)
  | 1, _ => rfl
  | p + 2, _ => by
    rw [seg]
    have ih := seg_head (m := m) (t := t) (s := s) (p := p + 1) (by omega)
    cases e : seg m t s (p + 1) with
    | nil =>
      have := seg_len m t s (p + 1)
      rw [e, List.length_nil] at this
      omega
    | cons a r => rw [e] at ih; exact ih
theorem rinv_skip {l : List Sq} {m t : Sq → Sq} {done K : List Sq} {RL : List (List Sq)} {s : Sq} (I : RInv l m t done K RL) (hs : s ∈ K) : RInv l m t (done ++ [s]) K RL :=
  ⟨I.kn, I.kl, I.km, I.kt, fun x hx => by
    rcases List.mem_append.mp hx with h | h
    · exact I.dn x h
    · rw [List.mem_singleton.mp h]; exact hs, I.rk, I.ro, I.nr, I.fj, I.fs, fun R hR => List.mem_append_left _ (I.fd R hR)⟩
section
variable {l : List Sq} {m t : Sq → Sq} {s : Sq} (hm : Mate l m) (ht : Mate l t)
include hm ht
/-- what a ring touches it lies in -/
theorem seg_apart {done K : List Sq} {RL : List (List Sq)} (I : RInv l m t done K RL) (hs : s ∈ l) (hK : s ∉ K) : ∀ k, itr m t s k ∉ K
  | 0 => hK
  | k + 1 => fun h => by
    have a1 := itr_in hm ht hs k
    have h1 := I.kt _ h
    have e1 : t (itr m t s (k + 1)) = m (itr m t s k) := ht.inv _ (hm.in_ _ a1)
    rw [e1] at h1
    have h2 := I.km _ h1
    rw [hm.inv _ a1] at h2
    exact seg_apart I hs hK k h2
theorem seg_closed (hs : s ∈ l) {p : Nat} (hp : 1 ≤ p) (hps : itr m t s p = s) {x : Sq} (hx : x ∈ seg m t s p) : m x ∈ seg m t s p ∧ t x ∈ seg m t s p := by
  obtain ⟨i, hi, h⟩ := mem_seg.mp hx
  have a1 := itr_in hm ht hs i
  rcases h with rfl | rfl
  · refine ⟨mem_seg.mpr ⟨i, hi, .inr rfl⟩, ?_⟩
    cases i with
    | zero =>
      obtain ⟨q, rfl⟩ : ∃ q, p = q + 1 := ⟨p - 1, by omega⟩
      have a2 := itr_in hm ht hs q
      have e : t s = m (itr m t s q) := by
        have h1 : t (itr m t s (q + 1)) = m (itr m t s q) := ht.inv _ (hm.in_ _ a2)
        rwa [hps] at h1
      exact mem_seg.mpr ⟨q, by omega, .inr e⟩
    | succ i =>
      have a2 := itr_in hm ht hs i
      exact mem_seg.mpr ⟨i, by omega, .inr (ht.inv _ (hm.in_ _ a2))⟩
  · refine ⟨mem_seg.mpr ⟨i, hi, .inl (hm.inv _ a1)⟩, ?_⟩
    by_cases c : i + 1 = p
    · have e : t (m (itr m t s i)) = s := by
        have : t (m (itr m t s i)) = itr m t s (i + 1) := rfl
        rw [this, c, hps]
      rw [e]
      exact mem_seg.mpr ⟨0, by omega, .inl rfl⟩
    · exact mem_seg.mpr ⟨i + 1, by omega, .inl rfl⟩
theorem rinv_ring {done K rest : List Sq} {RL : List (List Sq)} (up : l.Pairwise sqLt) (hl : l = done ++ s :: rest) (I : RInv l m t done K RL) (hK : s ∉ K) {p : Nat} (hp : 1 ≤ p) (hpl : p ≤ l.length) (hps : itr m t s p = s) (hj : ∀ j, 0 < j → j < p → itr m t s j ≠ s) :
    (∀ x ∈ seg m t s p, x ∉ K) ∧ (seg m t s p).Nodup ∧ RInv l m t (done ++ [s]) (K ++ seg m t s p) (if 2 < (seg m t s p).length then RL ++ [seg m t s p] else RL) := by
  have hs : s ∈ l := by rw [hl]; simp
  have hap : ∀ x ∈ seg m t s p, x ∉ K := fun x hx z => by
    obtain ⟨i, hi, h⟩ := mem_seg.mp hx
    rcases h with rfl | rfl
    · exact seg_apart hm ht I hs hK i z
    · have := I.km _ z
      rw [hm.inv _ (itr_in hm ht hs i)] at this
      exact seg_apart hm ht I hs hK i this
  have hnd := seg_nd hm ht hs hj
  have hin : ∀ x ∈ seg m t s p, x ∈ l := fun x hx => by
    obtain ⟨i, hi, h⟩ := mem_seg.mp hx
    rcases h with rfl | rfl
    · exact itr_in hm ht hs i
    · exact hm.in_ _ (itr_in hm ht hs i)
  have hord : ∀ x ∈ seg m t s p, x = s ∨ sqLt s x := fun x hx => by
    have h1 := hin x hx
    rw [hl] at h1
    rcases List.mem_append.mp h1 with h | h
    · exact absurd (I.dn x h) (hap x hx)
    · rcases List.mem_cons.mp h with h | h
      · exact .inl h
      · rw [hl, List.pairwise_append] at up
        exact .inr ((List.pairwise_cons.mp up.2.1).1 x h)
  have hs0 : s ∈ seg m t s p := mem_seg.mpr ⟨0, by omega, .inl rfl⟩
  have hcl := fun x hx => seg_closed hm ht hs hp hps (x := x) hx
  have hdup : s ∉ done := fun z => hK (I.dn s z)
  have hkn : (K ++ seg m t s p).Nodup := by
    rw [List.nodup_append]
    exact ⟨I.kn, hnd, fun a ha b hb e => hap b hb (e ▸ ha)⟩
  refine ⟨hap, hnd, ?_⟩
  have hdn : ∀ x ∈ done ++ [s], x ∈ K ++ seg m t s p := fun x hx => by
    rcases List.mem_append.mp hx with h | h
    · exact List.mem_append_left _ (I.dn x h)
    · rw [List.mem_singleton.mp h]; exact List.mem_append_right _ hs0
  have hkl : ∀ x ∈ K ++ seg m t s p, x ∈ l := fun x hx => by
    rcases List.mem_append.mp hx with h | h
    · exact I.kl x h
    · exact hin x h
  have hkm : ∀ x ∈ K ++ seg m t s p, m x ∈ K ++ seg m t s p := fun x hx => by
    rcases List.mem_append.mp hx with h | h
    · exact List.mem_append_left _ (I.km x h)
    · exact List.mem_append_right _ (hcl x h).1
  have hkt : ∀ x ∈ K ++ seg m t s p, t x ∈ K ++ seg m t s p := fun x hx => by
    rcases List.mem_append.mp hx with h | h
    · exact List.mem_append_left _ (I.kt x h)
    · exact List.mem_append_right _ (hcl x h).2
  have hsl := seg_len m t s p
  by_cases c : 2 < (seg m t s p).length
  · rw [if_pos c]
    refine ⟨hkn, hkl, hkm, hkt, hdn, fun R hR x hx => ?_, fun R hR => ?_, fun x hx hn => ?_, ?_, ?_, fun R hR => ?_⟩
    · rcases List.mem_append.mp hR with h | h
      · exact List.mem_append_left _ (I.rk R h x hx)
      · rw [List.mem_singleton.mp h] at hx; exact List.mem_append_right _ hx
    · rcases List.mem_append.mp hR with h | h
      · exact I.ro R h
      · rw [List.mem_singleton.mp h]
        exact ⟨s, p, by omega, hpl, rfl, hps, hj, hs, hord⟩
    · rcases List.mem_append.mp hx with h | h
      · exact I.nr x h fun R hR => hn R (List.mem_append_left _ hR)
      · exact absurd h (hn _ (List.mem_append_right _ (List.mem_singleton.mpr rfl)))
    · rw [List.flatten_append, List.flatten_cons, List.flatten_nil, List.append_nil, List.nodup_append]
      refine ⟨I.fj, hnd, fun a ha b hb e => ?_⟩
      obtain ⟨R, hR, h⟩ := List.mem_flatten.mp ha
      exact hap b hb (e ▸ I.rk R hR a h)
    · rw [List.map_append, List.pairwise_append]
      refine ⟨I.fs, by simp, fun a ha b hb => ?_⟩
      obtain ⟨R, hR, rfl⟩ := List.mem_map.mp ha
      rw [List.map_cons, List.map_nil, List.mem_singleton] at hb
      rw [hb, seg_head hp]
      have h1 := I.fd R hR
      rw [hl, List.pairwise_append] at up
      exact up.2.2 _ h1 s List.mem_cons_self
    · rcases List.mem_append.mp hR with h | h
      · exact List.mem_append_left _ (I.fd R h)
      · rw [List.mem_singleton.mp h, seg_head hp]
        exact List.mem_append_right _ (List.mem_singleton.mpr rfl)
  · rw [if_neg c]
    refine ⟨hkn, hkl, hkm, hkt, hdn, fun R hR x hx => List.mem_append_left _ (I.rk R hR x hx), I.ro, fun x hx hn => ?_, I.fj, I.fs, fun R hR => List.mem_append_left _ (I.fd R hR)⟩
    rcases List.mem_append.mp hx with h | h
    · exact I.nr x h hn
    · have hp1 : p = 1 := by omega
      subst hp1
      have e1 : t (m s) = s := hps
      have e2 : m s = t s := by
        have := congrArg t e1
        rwa [ht.inv _ (hm.in_ _ hs)] at this
      obtain ⟨i, hi, h⟩ := mem_seg.mp h
      have hi0 : i = 0 := by omega
      subst hi0
      rcases h with rfl | rfl
      · exact e2
      · show m (m s) = t (m s)
        rw [hm.inv _ hs, e1]
end
theorem put_all {ah : AH} {g : AH} : ∀ (ys K : List Sq) (x0 x1 x2 x3 x5 x6 x7 x8 : Option D), (K ++ ys).Nodup → (K ++ ys).length ≤ 1000 →
    ∃ x8', forL (gN 8) (sDPut (fVar 4) (fVar 8) (fC (.bool true))) ((ys.map esq).map .p) [x0, x1, x2, x3, some (.r ah.length), x5, x6, x7, x8] (ah ++ dF bT K :: g) = .nx [x0, x1, x2, x3, some (.r ah.length), x5, x6, x7, x8'] (ah ++ dF bT (K ++ ys) :: g)
  | [], K, x0, x1, x2, x3, x5, x6, x7, x8, _, _ => ⟨x8, by rw [List.append_nil]; rfl⟩
  | y :: ys, K, x0, x1, x2, x3, x5, x6, x7, x8, nd, hl => by
    have e : K ++ y :: ys = (K ++ [y]) ++ ys := by simp
    rw [e] at nd hl
    have hy : y ∉ K := fun z => by
      rw [List.nodup_append] at nd
      have := nd.1
      rw [List.nodup_append] at this
      exact this.2.2 y z y (List.mem_singleton.mpr rfl) rfl
    rw [List.length_append, List.length_append] at hl
    obtain ⟨x8', ih⟩ := put_all (ah := ah) (g := g) ys (K ++ [y]) x0 x1 x2 x3 x5 x6 x7 (some (.p (esq y))) nd (by rw [List.length_append, List.length_append]; omega)
    refine ⟨x8', ?_⟩
    have hput : gDPut (.r ah.length) (.p (esq y)) (.p (.bool true)) (ah ++ dF bT K :: g) = some (ah ++ dF bT (K ++ [y]) :: g) := put_dF hy (by omega)
    have hb : sDPut (fVar 4) (fVar 8) (fC (.bool true)) [x0, x1, x2, x3, some (.r ah.length), x5, x6, x7, some (.p (esq y))] (ah ++ dF bT K :: g) = .nx [x0, x1, x2, x3, some (.r ah.length), x5, x6, x7, some (.p (esq y))] (ah ++ dF bT (K ++ [y]) :: g) := by
      simp only [e_dput, e_c, e_vs, e_v0, t_ok, hput]
    have hset : ([x0, x1, x2, x3, some (.r ah.length), x5, x6, x7, x8] : DS).set 8 (some (.p (esq y))) = [x0, x1, x2, x3, some (.r ah.length), x5, x6, x7, some (.p (esq y))] := rfl
    rw [List.map_cons, List.map_cons, e_for_cons, e_gN, hset]
    dsimp only
    rw [hb]
    dsimp only
    rw [ih, e]
theorem sortedK_sqs {v : Sq → PyData} {F l : List Sq} (p : F.Perm l) (up : l.Pairwise sqLt) (hl : F.length ≤ 1000) (ah : AH) : gSortedK [.p (pdG v F)] ah = .ok (.p (.list (l.map esq))) ah := by
  have hk : (F.map fun x => (esq x, D.p (v x))).map (·.1) = F.map esq := by rw [List.map_map]; rfl
  unfold gSortedK
  dsimp only
  rw [dct_pdG]
  dsimp only
  rw [hk, if_pos (sortOk_esqs F (by omega)), srtq_data, srtq_eq p up]
theorem F_rings_ok {l : List Sq} {M1 M2 : List DL.St} (fl : Flo l) (L1 : Lay l M1) (L2 : Lay l M2) (ah : AH) : ∃ K RL ah', F_rings [.p (ety M1), .p (ety M2)] ah = .ok (.p (.list (RL.map esl))) ah' ∧ RInv l (mt M1) (mt M2) l K RL := by
  have nd := up_nd fl.up
  have hle := fl.le
  have hm := L1.mate nd
  have ht := L2.mate nd
  obtain ⟨m, hmd⟩ : ∃ m, m = mt M1 := ⟨_, rfl⟩
  obtain ⟨t, htd⟩ : ∃ t, t = mt M2 := ⟨_, rfl⟩
  have e1 := F_mates_ok nd L1 hle
  have e2 := F_mates_ok nd L2 hle
  rw [← hmd] at hm e1 ⊢
  rw [← htd] at ht e2 ⊢
  obtain ⟨U, hUd⟩ : ∃ U, U = sqs M1 := ⟨_, rfl⟩
  obtain ⟨V, hVd⟩ : ∃ V, V = sqs M2 := ⟨_, rfl⟩
  have hU : ∀ x, x ∈ U ↔ x ∈ l := fun x => by rw [hUd]; exact L1.c.mem_iff
  have hV : ∀ x, x ∈ V ↔ x ∈ l := fun x => by rw [hVd]; exact L2.c.mem_iff
  have hUp : U.Perm l := by rw [hUd]; exact L1.c
  rw [← hUd] at e1
  rw [← hVd] at e2
  obtain ⟨h0, hh0⟩ : ∃ h0 : AH, h0 = ah ++ [.dead] ++ [.dead] := ⟨_, rfl⟩
  obtain ⟨σ', ah', e3, K, RL, g, x6, x7, x8, e4, e5, I⟩ := for_inv (σ := [some (D.p (ety M1)), some (.p (ety M2)), some (.p (pdG (fun x => esq (m x)) U)), some (.p (pdG (fun x => esq (t x)) V)), some (.r h0.length), some (.r (h0.length + 1)), none, none, none]) (ah := h0 ++ dF bT [] :: lsq [] :: []) (gt := gN 6) (f := (sIf (tB (f2 gNotIn (fVar 6) (fVar 4))) (sSeq (sSet 7 (fCall F_ring_from (aCons (fVar 6) (aCons (fVar 2) (aCons (fVar 3) aNil))))) (sSeq (sFor (iAny (fVar 7)) (gN 8) (sDPut (fVar 4) (fVar 8) (fC (.bool true)))) (sIf (tB (f2 gGt (fCall gLen (aCons (fVar 7) aNil)) (fC (.int 2)))) (sExpr (fMt isL gAppend (fVar 5) (aCons (fVar 7) aNil))) sNx))) sNx)) (fun x => D.p (esq x))
    (fun done σ ah' => ∃ K RL g x6 x7 x8, σ = [some (D.p (ety M1)), some (.p (ety M2)), some (.p (pdG (fun x => esq (m x)) U)), some (.p (pdG (fun x => esq (t x)) V)), some (.r h0.length), some (.r (h0.length + 1)), x6, x7, x8] ∧ ah' = h0 ++ dF bT K :: lsq RL :: g ∧ RInv l m t done K RL) l
    (by
      intro done s rest e σ ah' hI
      obtain ⟨K, RL, g, x6, x7, x8, rfl, rfl, I⟩ := hI
      have hs : s ∈ l := by rw [e]; simp
      have hni : gNotIn (.p (esq s)) (.r h0.length) (h0 ++ dF bT K :: lsq RL :: g) = .ok (.p (.bool (!decide (s ∈ K)))) (h0 ++ dF bT K :: lsq RL :: g) := notIn_dF (h_at _ _ _)
      refine ⟨[some (D.p (ety M1)), some (.p (ety M2)), some (.p (pdG (fun x => esq (m x)) U)), some (.p (pdG (fun x => esq (t x)) V)), some (.r h0.length), some (.r (h0.length + 1)), some (.p (esq s)), x7, x8], ?_⟩
      by_cases c : s ∈ K
      · refine ⟨[some (D.p (ety M1)), some (.p (ety M2)), some (.p (pdG (fun x => esq (m x)) U)), some (.p (pdG (fun x => esq (t x)) V)), some (.r h0.length), some (.r (h0.length + 1)), some (.p (esq s)), x7, x8], h0 ++ dF bT K :: lsq RL :: g, rfl, .inl ?_, K, RL, g, _, _, _, rfl, rfl, rinv_skip I c⟩
        simp only [e_seq, e_nx, e_set, e_ret, e_expr, e_if, e_f2, e_call, e_nil, e_cons, e_c, e_v0, e_vs, e_set0, e_sets, e_tB, e_tru, e_notF, e_neg, b_ok, b_ex, t_ok, t_ex, s_nx, s_rt, s_bk, s_ct, s_ex, o_ok, e_rt, e_fnx, i_add, i_sub, i_mod, Int.reduceLT, i_lt, i_le, i_gt, i_ge, i_eq, i_ne, l_add, t_add, e_r1, e_for, e_gN, e_asg, e_tup, e_tupl, e_frz, ↓reduceIte, Bool.false_eq_true, Bool.not_true, Bool.not_false, e_and, e_or, e_yes, hni, decide_eq_true c]
      · obtain ⟨p, hp, hpl, hps, hj, hrf⟩ := F_ringFrom_ok hm ht hU hV hle hs (h0 ++ dF bT K :: lsq RL :: g)
        obtain ⟨hap, hnd, I2⟩ := rinv_ring hm ht fl.up e I c hp hpl hps hj
        have hsl := seg_len m t s p
        have hKl := nd_le _ l I2.kn I2.kl
        have hRLl : RL.length ≤ 24 := by
          have h1 := nd_le _ l (up_nd I.fs) fun x hx => by
            obtain ⟨R, hR, rfl⟩ := List.mem_map.mp hx
            exact I.kl _ (I.dn _ (I.fd R hR))
          rw [List.length_map] at h1
          omega
        have hheap : h0 ++ dF bT K :: lsq RL :: g ++ [AO.dead] = h0 ++ dF bT K :: lsq RL :: (g ++ [.dead]) := by simp
        rw [hheap] at hrf
        obtain ⟨x8', hpa⟩ := put_all (ah := h0) (g := lsq RL :: (g ++ [.dead])) (seg m t s p) K (some (D.p (ety M1))) (some (.p (ety M2))) (some (.p (pdG (fun x => esq (m x)) U))) (some (.p (pdG (fun x => esq (t x)) V))) (some (.r (h0.length + 1))) (some (.p (esq s))) (some (.p (.list ((seg m t s p).map esq)))) x8 I2.kn (by omega)
        have hit : ∀ x8 hp, iAny (fVar 7) [some (D.p (ety M1)), some (.p (ety M2)), some (.p (pdG (fun x => esq (m x)) U)), some (.p (pdG (fun x => esq (t x)) V)), some (.r h0.length), some (.r (h0.length + 1)), some (.p (esq s)), some (.p (.list ((seg m t s p).map esq))), x8] hp = .ok (((seg m t s p).map esq).map .p) hp := fun x8 hp => rfl
        have hlen : ∀ ah, gLen [.p (.list ((seg m t s p).map esq))] ah = .ok (.p (.int (seg m t s p).length)) ah := fun ah => by rw [len_l, List.length_map]
        have happ : gAppend (.r (h0.length + 1)) [.p (.list ((seg m t s p).map esq))] (h0 ++ dF bT (K ++ seg m t s p) :: lsq RL :: (g ++ [.dead])) = .ok (.p .none) (h0 ++ dF bT (K ++ seg m t s p) :: lsq (RL ++ [seg m t s p]) :: (g ++ [.dead])) := app_lsq (by omega)
        have hL : isL (h0 ++ dF bT (K ++ seg m t s p) :: lsq RL :: (g ++ [.dead])) (.r (h0.length + 1)) = true := isL1q
        have hfor : (sFor (iAny (fVar 7)) (gN 8) (sDPut (fVar 4) (fVar 8) (fC (.bool true)))) [some (D.p (ety M1)), some (.p (ety M2)), some (.p (pdG (fun x => esq (m x)) U)), some (.p (pdG (fun x => esq (t x)) V)), some (.r h0.length), some (.r (h0.length + 1)), some (.p (esq s)), some (.p (.list ((seg m t s p).map esq))), x8] (h0 ++ dF bT K :: lsq RL :: (g ++ [.dead])) = .nx [some (D.p (ety M1)), some (.p (ety M2)), some (.p (pdG (fun x => esq (m x)) U)), some (.p (pdG (fun x => esq (t x)) V)), some (.r h0.length), some (.r (h0.length + 1)), some (.p (esq s)), some (.p (.list ((seg m t s p).map esq))), x8'] (h0 ++ dF bT (K ++ seg m t s p) :: lsq RL :: (g ++ [.dead])) := by
          rw [e_for, hit, t_ok]
          exact hpa
        by_cases c2 : 2 < (seg m t s p).length
        · rw [if_pos c2] at I2
          refine ⟨[some (D.p (ety M1)), some (.p (ety M2)), some (.p (pdG (fun x => esq (m x)) U)), some (.p (pdG (fun x => esq (t x)) V)), some (.r h0.length), some (.r (h0.length + 1)), some (.p (esq s)), some (.p (.list ((seg m t s p).map esq))), x8'], h0 ++ dF bT (K ++ seg m t s p) :: lsq (RL ++ [seg m t s p]) :: (g ++ [.dead]), rfl, .inl ?_, _, _, g ++ [.dead], _, _, _, rfl, rfl, I2⟩
          rw [e_if]
          simp only [e_tB, e_f2, e_vs, e_v0, b_ok, hni, decide_eq_false c, Bool.not_false, t_ok, ↓reduceIte]
          rw [e_seq, e_set, e_call]
          simp only [e_cons, e_vs, e_v0, e_nil, b_ok, hrf, t_ok, e_sets, e_set0, s_nx]
          rw [e_seq, hfor, s_nx]
          simp only [e_seq, e_nx, e_set, e_ret, e_expr, e_if, e_f2, e_call, e_nil, e_cons, e_c, e_v0, e_vs, e_set0, e_sets, e_tB, e_tru, e_notF, e_neg, b_ok, b_ex, t_ok, t_ex, s_nx, s_rt, s_bk, s_ct, s_ex, o_ok, e_rt, e_fnx, i_add, i_sub, i_mod, Int.reduceLT, i_lt, i_le, i_gt, i_ge, i_eq, i_ne, l_add, t_add, e_r1, e_for, e_gN, e_asg, e_tup, e_tupl, e_frz, ↓reduceIte, Bool.false_eq_true, Bool.not_true, Bool.not_false, e_and, e_or, e_yes, hlen, decide_eq_true (show (2 : Int) < (seg m t s p).length by omega), e_fMt, hL, happ]
        · rw [if_neg c2] at I2
          refine ⟨[some (D.p (ety M1)), some (.p (ety M2)), some (.p (pdG (fun x => esq (m x)) U)), some (.p (pdG (fun x => esq (t x)) V)), some (.r h0.length), some (.r (h0.length + 1)), some (.p (esq s)), some (.p (.list ((seg m t s p).map esq))), x8'], h0 ++ dF bT (K ++ seg m t s p) :: lsq RL :: (g ++ [.dead]), rfl, .inl ?_, _, _, g ++ [.dead], _, _, _, rfl, rfl, I2⟩
          rw [e_if]
          simp only [e_tB, e_f2, e_vs, e_v0, b_ok, hni, decide_eq_false c, Bool.not_false, t_ok, ↓reduceIte]
          rw [e_seq, e_set, e_call]
          simp only [e_cons, e_vs, e_v0, e_nil, b_ok, hrf, t_ok, e_sets, e_set0, s_nx]
          rw [e_seq, hfor, s_nx]
          simp only [e_seq, e_nx, e_set, e_ret, e_expr, e_if, e_f2, e_call, e_nil, e_cons, e_c, e_v0, e_vs, e_set0, e_sets, e_tB, e_tru, e_notF, e_neg, b_ok, b_ex, t_ok, t_ex, s_nx, s_rt, s_bk, s_ct, s_ex, o_ok, e_rt, e_fnx, i_add, i_sub, i_mod, Int.reduceLT, i_lt, i_le, i_gt, i_ge, i_eq, i_ne, l_add, t_add, e_r1, e_for, e_gN, e_asg, e_tup, e_tupl, e_frz, ↓reduceIte, Bool.false_eq_true, Bool.not_true, Bool.not_false, e_and, e_or, e_yes, hlen, decide_eq_false (show ¬ (2 : Int) < (seg m t s p).length by omega)])
    ⟨[], [], [], none, none, none, rfl, rfl, ⟨List.nodup_nil, fun x h => (by cases h), fun x h => (by cases h), fun x h => (by cases h), fun x h => (by cases h), fun x h => (by cases h), fun x h => (by cases h), fun x h => (by cases h), List.nodup_nil, List.Pairwise.nil, fun x h => (by cases h)⟩⟩
  subst e4 e5
  refine ⟨K, RL, h0 ++ dF bT K :: .dead :: g, ?_, I⟩
  have hsk := sortedK_sqs (v := fun x => esq (m x)) hUp fl.up (by rw [hUp.length_eq]; omega)
  have hit : ∀ hp, iAny (fCall gSortedK (aCons (fVar 2) aNil)) [some (D.p (ety M1)), some (.p (ety M2)), some (.p (pdG (fun x => esq (m x)) U)), some (.p (pdG (fun x => esq (t x)) V)), some (.r h0.length), some (.r (h0.length + 1)), none, none, none] hp = .ok (l.map fun x => D.p (esq x)) hp := fun hp => by
    simp only [e_any, e_call, e_cons, e_nil, e_vs, e_v0, b_ok, hsk]
    rw [List.map_map]
    rfl
  have hpre : ∀ X : SF, (sSeq (sSet 2 (fCall F_mates (aCons (fVar 0) aNil))) (sSeq (sSet 3 (fCall F_mates (aCons (fVar 1) aNil))) (sSeq (sSet 4 fDict) (sSeq (sSet 5 (fLstM aNil)) X)))) [some (D.p (ety M1)), some (.p (ety M2)), none, none, none, none, none, none, none] ah = X [some (D.p (ety M1)), some (.p (ety M2)), some (.p (pdG (fun x => esq (m x)) U)), some (.p (pdG (fun x => esq (t x)) V)), some (.r h0.length), some (.r (h0.length + 1)), none, none, none] (h0 ++ dF bT [] :: lsq [] :: []) := fun X => by
    have hd : ∀ (σ : DS) (ah : AH), fDict σ ah = .ok (.r ah.length) (ah ++ [.dct []]) := fun σ ah => rfl
    rw [e_seq]
    simp only [e_set, e_call, e_cons, e_nil, e_vs, e_v0, b_ok, e1, e2, t_ok, s_nx, e_sets, e_set0, e_seq, hd, e_lstM, List.length_nil, Nat.zero_le, ↓reduceIte]
    rw [hh0]
    simp only [List.length_append, List.length_cons, List.length_nil, List.append_assoc, List.cons_append, List.nil_append]
    rfl
  rw [E_rings]
  unfold g_rings
  rw [hpre, e_seq, e_for, hit, t_ok, e3, s_nx, e_ret, e_frz, e_vs, e_vs, e_vs, e_vs, e_vs, e_v0, b_ok, frz1q, t_ok, e_rt]
end DL

set_option Elab.async false
set_option linter.all false
set_option maxRecDepth 100000
/-! ND: laid otherwise. -/
namespace DL
open PySem PySem.Spec PyProof.Rows L2
/-! ### walked -/
theorem e_lcM {fi : IF} {i : Nat} {c : TF} {fe : EF} {σ : DS} {ah : AH} : fLcM fi i c fe σ ah = (fi σ ah).bind fun ds ah1 => if ds.length ≤ 16777216 then (lcL i c fe ds σ ah1).only fun ys ah2 => .ok (.r ah2.length) (ah2 ++ [.lst (ys.map .p)]) else .bad := (rfl)
def fstL (q : List DL.St) : AO := .lst ((q.map est).map .p)
theorem app_fst {ah : AH} {q : List DL.St} {x : DL.St} (h : q.length ≤ 1000) : gAppend (.r ah.length) [.p (est x)] (ah ++ [fstL q]) = .ok (.p .none) (ah ++ [fstL (q ++ [x])]) := by
  unfold fstL
  rw [app_last (by simp only [List.length_map]; omega), List.map_append, List.map_append]
  rfl
theorem sorted_fst {ah : AH} {q : List DL.St} (h : q.length ≤ 16777216) : gSortedL [.r ah.length] (ah ++ [fstL q]) = .ok (.p (.list ((srt q).map est))) (ah ++ [fstL q]) := by
  have e : dataOf (ah ++ [fstL q]) (.r ah.length) = some (.list (q.map est)) := by
    unfold dataOf fstL
    simp only [get_last, pures_p]
    rfl
  unfold gSortedL
  dsimp only
  rw [e]
  show (if sortOk (q.map est) = true then R.ok (D.p (.list (sortD (q.map est)))) _ else .bad) = _
  rw [if_pos (sortOk_ests q h), srt_data]
theorem srtq_pr {a b : Sq} (h : a ≠ b) : srtq [a, b] = [(pr a b).1, (pr a b).2] := by
  by_cases c : sqLt b a
  · rw [pr_gt c]
    exact srtq_eq (List.Perm.swap _ _ _) (by simpa using c)
  · rcases sqLt_tri a b c with e | e
    · exact absurd e h
    · rw [pr_lt e]
      exact srtq_eq (List.Perm.refl _) (by simpa using e)
theorem sorted_two {a b : Sq} (h : a ≠ b) (ah : AH) : gSortedL [.p (.list [esq a, esq b])] ah = .ok (.p (.list [esq (pr a b).1, esq (pr a b).2])) ah := by
  have := sorted_sqs (q := [a, b]) (by simp) ah
  rw [srtq_pr h] at this
  exact this
theorem tup_two (x : DL.St) (ah : AH) : gTuple [.p (.list [esq x.1, esq x.2])] ah = .ok (.p (est x)) ah := rfl
theorem F_pair_ok {a b : Sq} (h : a ≠ b) (ah : AH) : F__law_pair [.p (esq a), .p (esq b)] ah = .ok (.p (est (pr a b))) ah := by
  have hl : fLst (aCons (fVar 0) (aCons (fVar 1) aNil)) [some (.p (esq a)), some (.p (esq b))] ah = .ok (.p (.list [esq a, esq b])) ah := rfl
  rw [E__law_pair, g__law_pair, e_ret, e_call, e_cons, e_call, e_cons, hl, b_ok, e_nil, b_ok, b_ok, sorted_two h, b_ok, e_nil, b_ok, b_ok, tup_two, t_ok, e_rt]
theorem slL_to2 (xs : List PyData) (ah : AH) : gSlice (.p (.list xs)) none (some 2) ah = .ok (.p (.list (xs.take 2))) ah := by
  show R.ok (D.p (.list (cutG xs none (some ((2 : Nat) : Int))))) ah = _
  have : cutG xs none (some ((2 : Nat) : Int)) = xs.take 2 := by
    unfold cutG
    rw [HT.sIx_nat, HT.sIx_none, Nat.sub_zero, List.drop_zero]
    by_cases h : 2 ≤ xs.length
    · rw [Nat.min_eq_left h]
    · rw [Nat.min_eq_right (by omega), List.take_of_length_le (Nat.le_refl _), List.take_of_length_le (by omega)]
  rw [this]
theorem e_slice' {fa : EF} {fl fh : PF} {σ : DS} {ah : AH} : fSlice fa fl fh σ ah = (fa σ ah).bind fun d ah1 => (fl σ ah1).bind fun lo ah2 => (fh σ ah2).bind fun hi ah3 => gSlice d lo hi ah3 := (rfl)
theorem e_pNo' {σ : DS} {ah : AH} : pNo σ ah = .ok none ah := (rfl)
theorem e_pSome' {f : EF} {σ : DS} {ah : AH} : pSome f σ ah = (f σ ah).bind fun d ah1 => match d with
  | .p (.int i) => .ok (some i) ah1
  | _ => .bad := (rfl)
def r3 (i : Int) (p : Nat) : Bool := decide ((2 : Int) ≠ 0 ∧ (2 : Int).natAbs < 1073741824 ∧ Builtin.Range.small i ((2 * p : Nat) : Int) 2 = true ∧ 0 ≤ Builtin.Range.rangeSize i ((2 * p : Nat) : Int) 2)
theorem r3_all : ((List.range 12).all fun p => (r3 0 (p + 1) && decide ((Builtin.Range.rangeSize 0 ((2 * (p + 1) : Nat) : Int) 2).toNat = p + 1)) && (r3 1 (p + 1) && decide ((Builtin.Range.rangeSize 1 ((2 * (p + 1) : Nat) : Int) 2).toNat = p + 1))) = true := by decide +kernel
theorem r3_ok {p : Nat} (h1 : 1 ≤ p) (h2 : p ≤ 12) : (r3 0 p = true ∧ (Builtin.Range.rangeSize 0 ((2 * p : Nat) : Int) 2).toNat = p) ∧ (r3 1 p = true ∧ (Builtin.Range.rangeSize 1 ((2 * p : Nat) : Int) 2).toNat = p) := by
  have h := r3_all
  rw [List.all_eq_true] at h
  have h := h (p - 1) (List.mem_range.mpr (by omega))
  rw [show p - 1 + 1 = p by omega] at h
  simp only [Bool.and_eq_true, decide_eq_true_eq] at h
  exact h
theorem range3_ok {i : Int} {p : Nat} {fe fm : EF} {σ : DS} {ah : AH} (h1 : r3 i p = true) (h2 : (Builtin.Range.rangeSize i ((2 * p : Nat) : Int) 2).toNat = p) (he : fe σ ah = .ok (.p (.int i)) ah) (hm : fm σ ah = .ok (.p (.int ((2 * p : Nat) : Int))) ah) :
    iRange3 (aCons fe (aCons fm (aCons (fC (.int 2)) aNil))) σ ah = .ok ((List.range p).map fun (k : Nat) => D.p (.int (i + (k : Int) * 2))) ah := by
  have e : iRange3 (aCons fe (aCons fm (aCons (fC (.int 2)) aNil))) σ ah = if r3 i p = true then .ok (rangeC i 2 (Builtin.Range.rangeSize i ((2 * p : Nat) : Int) 2).toNat) ah else .bad := by
    unfold iRange3
    rw [e_cons, he, b_ok, e_cons, hm, b_ok, e_cons, e_c, b_ok, e_nil, b_ok, b_ok, b_ok, b_ok]
    rfl
  rw [e, if_pos h1, h2]
  rfl
/-! ### the ring's stones -/
def PAl (m t : Sq → Sq) (s : Sq) (p : Nat) : List DL.St := (List.range p).map fun k => pr (itr m t s k) (m (itr m t s k))
def PBl (m t : Sq → Sq) (s : Sq) (p : Nat) : List DL.St := (List.range p).map fun k => pr (m (itr m t s k)) (itr m t s (k + 1))
theorem seg_get {m t : Sq → Sq} {s : Sq} : ∀ {p k : Nat}, k < p → (seg m t s p)[2 * k]? = some (itr m t s k) ∧ (seg m t s p)[2 * k + 1]? = some (m (itr m t s k))
  | 0, _, h => absurd h (Nat.not_lt_zero _)
  | p + 1, k, h => by
    have hl := seg_len m t s p
    rw [seg]
    by_cases e : k = p
    · subst e
      rw [List.getElem?_append_right (by omega), List.getElem?_append_right (by omega), hl]
      rw [show 2 * k - 2 * k = 0 by omega, show 2 * k + 1 - 2 * k = 1 by omega]
      exact ⟨rfl, rfl⟩
    · have := seg_get (m := m) (t := t) (s := s) (p := p) (k := k) (by omega)
      rw [List.getElem?_append_left (by omega), List.getElem?_append_left (by omega)]
      exact this
theorem sub_seg {m t : Sq → Sq} {s : Sq} {p i : Nat} {x : Sq} (h : (seg m t s p)[i]? = some x) (ah : AH) : gSub2 (.p (.list ((seg m t s p).map esq))) (.p (.int (i : Int))) ah = .ok (.p (esq x)) ah := sub_i (by rw [List.getElem?_map, h]; rfl) ah
theorem F_other_ok {l : List Sq} {m t : Sq → Sq} {s : Sq} (hm : Mate l m) (ht : Mate l t) (hs : s ∈ l) {p : Nat} (hp : 1 ≤ p) (hp12 : p ≤ 12) (hps : itr m t s p = s) (X : List DL.St) (hX : X.length ≤ 400) (ah : AH) :
    ∃ g, F_laid_otherwise [.p (ety X), .p (.list ((seg m t s p).map esq))] ah = .ok (.p (ety (srt ((X.filter fun x => !decide (x.1 ∈ seg m t s p)) ++ if pr s (m s) ∈ X then PBl m t s p else PAl m t s p)))) (ah ++ [g]) := by
  obtain ⟨R, hR⟩ : ∃ R, R = seg m t s p := ⟨_, rfl⟩
  obtain ⟨Y, hY⟩ : ∃ Y, Y = X.filter fun x => !decide (x.1 ∈ R) := ⟨_, rfl⟩
  have hRl : R.length = 2 * p := by rw [hR]; exact seg_len ..
  have hYl : Y.length ≤ X.length := by rw [hY]; exact List.length_filter_le _ _
  have hne : ∀ k, itr m t s k ≠ m (itr m t s k) := fun k e => col_nb (hm.nb _ (itr_in hm ht hs k)) (congrArg col e).symm
  have hne2 : ∀ k, m (itr m t s k) ≠ itr m t s (k + 1) := fun k e => col_nb (ht.nb _ (hm.in_ _ (itr_in hm ht hs k))) (congrArg col e).symm
  rw [← hR, ← hY]
  have hlc : lcL 6 (tB (f2 gNotIn (f2 gSub2 (fVar 6) (fC (.int 0))) (fVar 1))) (fVar 6) ((X.map est).map .p) [some (.p (ety X)), some (.p (.list (R.map esq))), none, none, none, none, none] ah = .ok (Y.map est) ah := by
    rw [hY]
    refine lcL_data est (fun x => !decide (x.1 ∈ R)) est X (fun x _ => ?_) (fun x _ _ => rfl)
    have s0 : ∀ ah, gSub2 (.p (est x)) (.p (.int 0)) ah = .ok (.p (esq x.1)) ah := fun ah => sub_tup (k := 0) rfl ah
    simp only [e_tB, e_f2, e_sets, e_set0, e_vs, e_v0, e_c, b_ok, s0, notIn_sqs]
  have hit : iAny (fVar 0) [some (.p (ety X)), some (.p (.list (R.map esq))), none, none, none, none, none] ah = .ok ((X.map est).map .p) ah := rfl
  have h2 : (sSet 2 (fLcM (iAny (fVar 0)) 6 (tB (f2 gNotIn (f2 gSub2 (fVar 6) (fC (.int 0))) (fVar 1))) (fVar 6))) [some (.p (ety X)), some (.p (.list (R.map esq))), none, none, none, none, none] ah = .nx [some (.p (ety X)), some (.p (.list (R.map esq))), some (.r ah.length), none, none, none, none] (ah ++ [fstL Y]) := by
    rw [e_set, e_lcM, hit, b_ok, if_pos (by rw [List.length_map, List.length_map]; omega), hlc, o_ok, t_ok]
    rfl
  have hlenR : ∀ ah, gLen [.p (.list (R.map esq))] ah = .ok (.p (.int ((2 * p : Nat) : Int))) ah := fun ah => by rw [len_l, List.length_map, hRl]
  have h3 : (sSet 3 (fCall gLen (aCons (fVar 1) aNil))) [some (.p (ety X)), some (.p (.list (R.map esq))), some (.r ah.length), none, none, none, none] (ah ++ [fstL Y]) = .nx [some (.p (ety X)), some (.p (.list (R.map esq))), some (.r ah.length), some (.p (.int ((2 * p : Nat) : Int))), none, none, none] (ah ++ [fstL Y]) := by
    simp only [e_set, e_call, e_cons, e_nil, e_vs, e_v0, b_ok, hlenR, t_ok, e_sets, e_set0]
  have htake : (R.map esq).take 2 = [esq s, esq (m s)] := by
    have g0 := (seg_get (m := m) (t := t) (s := s) (p := p) (k := 0) hp)
    rw [← hR] at g0
    cases hRe : R with
    | nil => rw [hRe] at hRl; simp at hRl; omega
    | cons a r =>
      cases r with
      | nil => rw [hRe] at hRl; simp at hRl; omega
      | cons b r =>
        rw [hRe] at g0
        simp at g0
        obtain ⟨g1, g2⟩ := g0
        rw [g1, g2]
        rfl
  have h4 : (sSet 4 (f2 gIn (fCall gTuple (aCons (fCall gSortedL (aCons (fSlice (fVar 1) pNo (pSome (fC (.int 2)))) aNil)) aNil)) (fVar 0))) [some (.p (ety X)), some (.p (.list (R.map esq))), some (.r ah.length), some (.p (.int ((2 * p : Nat) : Int))), none, none, none] (ah ++ [fstL Y]) = .nx [some (.p (ety X)), some (.p (.list (R.map esq))), some (.r ah.length), some (.p (.int ((2 * p : Nat) : Int))), some (.p (.bool (decide (pr s (m s) ∈ X)))), none, none] (ah ++ [fstL Y]) := by
    rw [e_set, e_f2, e_call, e_cons, e_call, e_cons, e_slice', e_vs, e_v0, b_ok, e_pNo', b_ok, e_pSome', e_c, b_ok]
    dsimp only
    rw [b_ok, slL_to2, htake, b_ok, e_nil, b_ok, b_ok, sorted_two (show s ≠ m s from hne 0), b_ok, e_nil, b_ok, b_ok, tup_two, b_ok, e_v0, b_ok, in_row, t_ok]
    rfl
  obtain ⟨Q, hQ⟩ : ∃ Q, Q = if pr s (m s) ∈ X then PBl m t s p else PAl m t s p := ⟨_, rfl⟩
  rw [← hQ]
  have h5 : ∃ x5, (sFor (iRange3 (aCons (fCall gInt (aCons (fVar 4) aNil)) (aCons (fVar 3) (aCons (fC (.int 2)) aNil)))) (gN 5) (sExpr (fMt isL gAppend (fVar 2) (aCons (fCall gTuple (aCons (fCall gSortedL (aCons (fLst (aCons (f2 gSub2 (fVar 1) (fVar 5)) (aCons (f2 gSub2 (fVar 1) (f2 gMod (f2 gAdd (fVar 5) (fC (.int 1))) (fVar 3))) aNil))) aNil)) aNil)) aNil)))) [some (.p (ety X)), some (.p (.list (R.map esq))), some (.r ah.length), some (.p (.int ((2 * p : Nat) : Int))), some (.p (.bool (decide (pr s (m s) ∈ X)))), none, none] (ah ++ [fstL Y]) = .nx [some (.p (ety X)), some (.p (.list (R.map esq))), some (.r ah.length), some (.p (.int ((2 * p : Nat) : Int))), some (.p (.bool (decide (pr s (m s) ∈ X)))), x5, none] (ah ++ [fstL (Y ++ Q)]) := by
    have run : ∀ (i : Int) (a b : Nat → Sq) (x4 : Option D), (∀ k, k < p → a k ≠ b k) → (∀ k, k < p → ∀ hp : AH, gSub2 (.p (.list (R.map esq))) (.p (.int (i + (k : Int) * 2))) hp = .ok (.p (esq (a k))) hp) → (∀ k, k < p → ∀ hp : AH, gSub2 (.p (.list (R.map esq))) (.p (.int ((i + (k : Int) * 2 + 1) % ((2 * p : Nat) : Int)))) hp = .ok (.p (esq (b k))) hp) →
        ∃ x5, forL (gN 5) (sExpr (fMt isL gAppend (fVar 2) (aCons (fCall gTuple (aCons (fCall gSortedL (aCons (fLst (aCons (f2 gSub2 (fVar 1) (fVar 5)) (aCons (f2 gSub2 (fVar 1) (f2 gMod (f2 gAdd (fVar 5) (fC (.int 1))) (fVar 3))) aNil))) aNil)) aNil)) aNil))) ((List.range p).map fun (k : Nat) => D.p (.int (i + (k : Int) * 2))) [some (.p (ety X)), some (.p (.list (R.map esq))), some (.r ah.length), some (.p (.int ((2 * p : Nat) : Int))), x4, none, none] (ah ++ [fstL Y]) = .nx [some (.p (ety X)), some (.p (.list (R.map esq))), some (.r ah.length), some (.p (.int ((2 * p : Nat) : Int))), x4, x5, none] (ah ++ [fstL (Y ++ (List.range p).map fun k => pr (a k) (b k))]) := by
      intro i a b x4 hab ha hb
      obtain ⟨σ', ah', e1, x5, e2, e3⟩ := for_inv (σ := [some (.p (ety X)), some (.p (.list (R.map esq))), some (.r ah.length), some (.p (.int ((2 * p : Nat) : Int))), x4, none, none]) (ah := ah ++ [fstL Y]) (gt := gN 5) (f := (sExpr (fMt isL gAppend (fVar 2) (aCons (fCall gTuple (aCons (fCall gSortedL (aCons (fLst (aCons (f2 gSub2 (fVar 1) (fVar 5)) (aCons (f2 gSub2 (fVar 1) (f2 gMod (f2 gAdd (fVar 5) (fC (.int 1))) (fVar 3))) aNil))) aNil)) aNil)) aNil)))) (fun (k : Nat) => D.p (.int (i + (k : Int) * 2)))
        (fun done σ ah' => ∃ x5, σ = [some (.p (ety X)), some (.p (.list (R.map esq))), some (.r ah.length), some (.p (.int ((2 * p : Nat) : Int))), x4, x5, none] ∧ ah' = ah ++ [fstL (Y ++ done.map fun k => pr (a k) (b k))]) (List.range p)
        (by
          intro done k rest e σ ah' hI
          obtain ⟨x5, rfl, rfl⟩ := hI
          have hk : k < p := by
            have : k ∈ List.range p := by rw [e]; simp
            exact List.mem_range.mp this
          have hd : done.length ≤ 12 := by
            have := congrArg List.length e
            rw [List.length_append, List.length_range] at this
            omega
          have hap := app_fst (ah := ah) (q := Y ++ done.map fun k => pr (a k) (b k)) (x := pr (a k) (b k)) (by rw [List.length_append, List.length_map]; omega)
          have hL : isL (ah ++ [fstL (Y ++ done.map fun k => pr (a k) (b k))]) (.r ah.length) = true := isL_last
          have hlst : ∀ hp, fLst (aCons (f2 gSub2 (fVar 1) (fVar 5)) (aCons (f2 gSub2 (fVar 1) (f2 gMod (f2 gAdd (fVar 5) (fC (.int 1))) (fVar 3))) aNil)) [some (.p (ety X)), some (.p (.list (R.map esq))), some (.r ah.length), some (.p (.int ((2 * p : Nat) : Int))), x4, some (.p (.int (i + (k : Int) * 2))), none] hp = .ok (.p (.list [esq (a k), esq (b k)])) hp := fun hp => by
            rw [e_lst]
            simp only [e_cons, e_nil, e_f2, e_c, e_vs, e_v0, b_ok, ha k hk, i_add, i_mod (show (0 : Int) < ((2 * p : Nat) : Int) by omega), hb k hk, pures, Option.map_some, List.length_cons, List.length_nil, Nat.reduceAdd, Nat.reduceLeDiff, ↓reduceIte]
          refine ⟨[some (.p (ety X)), some (.p (.list (R.map esq))), some (.r ah.length), some (.p (.int ((2 * p : Nat) : Int))), x4, some (.p (.int (i + (k : Int) * 2))), none], [some (.p (ety X)), some (.p (.list (R.map esq))), some (.r ah.length), some (.p (.int ((2 * p : Nat) : Int))), x4, some (.p (.int (i + (k : Int) * 2))), none], ah ++ [fstL (Y ++ (done ++ [k]).map fun k => pr (a k) (b k))], rfl, .inl ?_, _, rfl, rfl⟩
          rw [e_expr, e_fMt, e_vs, e_vs, e_v0, b_ok, if_pos hL, e_cons, e_call, e_cons, e_call, e_cons, hlst, b_ok, e_nil, b_ok, b_ok, sorted_two (hab k hk), b_ok, e_nil, b_ok, b_ok, tup_two, b_ok, e_nil, b_ok, b_ok, hap, t_ok, List.map_append, List.append_assoc]
          rfl)
        ⟨none, rfl, by rw [List.map_nil, List.append_nil]⟩
      subst e2 e3
      exact ⟨x5, e1⟩
    obtain ⟨q0, q1⟩ := r3_ok hp hp12
    have hint : ∀ (b : Bool) (x5 x6 : Option D) (hp : AH), fCall gInt (aCons (fVar 4) aNil) [some (.p (ety X)), some (.p (.list (R.map esq))), some (.r ah.length), some (.p (.int ((2 * p : Nat) : Int))), some (.p (.bool b)), x5, x6] hp = .ok (.p (.int (if b = true then 1 else 0))) hp := fun b x5 x6 hp => rfl
    by_cases c : pr s (m s) ∈ X
    · rw [hQ, if_pos c, decide_eq_true c]
      obtain ⟨x5, hr⟩ := run 1 (fun k => m (itr m t s k)) (fun k => itr m t s (k + 1)) (some (.p (.bool true))) (fun k _ => hne2 k) (fun k hk hp => by
        have := (seg_get (m := m) (t := t) (s := s) hk).2
        rw [← hR] at this
        rw [show (1 : Int) + (k : Int) * 2 = ((2 * k + 1 : Nat) : Int) by omega]
        exact sub_i (by rw [List.getElem?_map, this]; rfl) hp) (fun k hk hp => by
        by_cases e : k + 1 = p
        · have h0 := (seg_get (m := m) (t := t) (s := s) (p := p) (k := 0) (by omega)).1
          rw [← hR] at h0
          have e0 : ((1 : Int) + (k : Int) * 2 + 1) % ((2 * p : Nat) : Int) = ((0 : Nat) : Int) := by
            rw [show (1 : Int) + (k : Int) * 2 + 1 = ((2 * p : Nat) : Int) by omega, Int.emod_self]
            rfl
          rw [e0]
          have e1 : itr m t s (k + 1) = itr m t s 0 := by rw [e, hps]; rfl
          rw [e1]
          exact sub_i (by rw [List.getElem?_map, h0]; rfl) hp
        · have h0 := (seg_get (m := m) (t := t) (s := s) (p := p) (k := k + 1) (by omega)).1
          rw [← hR] at h0
          have e0 : ((1 : Int) + (k : Int) * 2 + 1) % ((2 * p : Nat) : Int) = ((2 * (k + 1) : Nat) : Int) := by
            rw [show (1 : Int) + (k : Int) * 2 + 1 = ((2 * (k + 1) : Nat) : Int) by omega]
            exact Int.emod_eq_of_lt (by omega) (by omega)
          rw [e0]
          exact sub_i (by rw [List.getElem?_map, h0]; rfl) hp)
      refine ⟨x5, ?_⟩
      rw [e_for, range3_ok (i := 1) (p := p) q1.1 q1.2 (hint true _ _ _) rfl, t_ok]
      exact hr
    · rw [hQ, if_neg c, decide_eq_false c]
      obtain ⟨x5, hr⟩ := run 0 (fun k => itr m t s k) (fun k => m (itr m t s k)) (some (.p (.bool false))) (fun k _ => hne k) (fun k hk hp => by
        have := (seg_get (m := m) (t := t) (s := s) hk).1
        rw [← hR] at this
        rw [show (0 : Int) + (k : Int) * 2 = ((2 * k : Nat) : Int) by omega]
        exact sub_i (by rw [List.getElem?_map, this]; rfl) hp) (fun k hk hp => by
        have h0 := (seg_get (m := m) (t := t) (s := s) hk).2
        rw [← hR] at h0
        have e0 : ((0 : Int) + (k : Int) * 2 + 1) % ((2 * p : Nat) : Int) = ((2 * k + 1 : Nat) : Int) := by
          rw [show (0 : Int) + (k : Int) * 2 + 1 = ((2 * k + 1 : Nat) : Int) by omega]
          exact Int.emod_eq_of_lt (by omega) (by omega)
        rw [e0]
        exact sub_i (by rw [List.getElem?_map, h0]; rfl) hp)
      refine ⟨x5, ?_⟩
      rw [e_for, range3_ok (i := 0) (p := p) q0.1 q0.2 (hint false _ _ _) rfl, t_ok]
      exact hr
  obtain ⟨x5, h5⟩ := h5
  have hQl : Q.length ≤ 12 := by
    rw [hQ]
    split
    · unfold PBl; rw [List.length_map, List.length_range]; exact hp12
    · unfold PAl; rw [List.length_map, List.length_range]; exact hp12
  refine ⟨fstL (Y ++ Q), ?_⟩
  rw [E_laid_otherwise, g_laid_otherwise, e_seq, h2, s_nx, e_seq, h3, s_nx, e_seq, h4, s_nx, e_seq, h5, s_nx, e_ret, e_call, e_cons, e_call, e_cons, e_vs, e_vs, e_v0, b_ok, e_nil, b_ok, b_ok, sorted_fst (by rw [List.length_append]; omega), b_ok, e_nil, b_ok, b_ok, e_tupl, t_ok, e_rt]
  rfl
end DL

set_option Elab.async false
set_option linter.all false
set_option maxRecDepth 100000
/-! NE: laid otherwise, the mathematics. -/
namespace DL
open PySem PySem.Spec PyProof.Rows L2
theorem pr_sq (a b : Sq) : ∀ v, (v = (pr a b).1 ∨ v = (pr a b).2) ↔ (v = a ∨ v = b) := by
  intro v
  unfold pr
  split
  · exact ⟨fun h => h.elim .inr .inl, fun h => h.elim .inr .inl⟩
  · exact Iff.rfl
theorem sqs_pr : ∀ (f g : Nat → Sq) (ks : List Nat), (sqs (ks.map fun k => pr (f k) (g k))).Perm (ks.map f ++ ks.map g)
  | f, g, [] => List.Perm.refl _
  | f, g, k :: ks => by
    have ih := sqs_pr f g ks
    have e : sqs ((k :: ks).map fun k => pr (f k) (g k)) = [(pr (f k) (g k)).1, (pr (f k) (g k)).2] ++ sqs (ks.map fun k => pr (f k) (g k)) := rfl
    rw [e]
    have h1 : ([(pr (f k) (g k)).1, (pr (f k) (g k)).2] : List Sq).Perm [f k, g k] := by
      unfold pr
      split
      · exact List.Perm.swap _ _ _
      · exact List.Perm.refl _
    refine (h1.append ih).trans ?_
    show (f k :: g k :: (ks.map f ++ ks.map g)).Perm (f k :: (ks.map f ++ g k :: ks.map g))
    exact List.Perm.cons _ (List.perm_middle.symm)
/-- one laying within another one -/
theorem lay_sub {l : List Sq} {A B : List DL.St} (nd : l.Nodup) (LA : Lay l A) (LB : Lay l B) (h : ∀ x ∈ A, x ∈ B) : A = B := by
  refine up_ext LA.up LB.up fun x => ⟨h x, fun hx => ?_⟩
  obtain ⟨y, hy, h1⟩ := mt_some (M := A) (s := x.1) (LA.c.mem_iff.mpr (LB.sq1 hx).1)
  have e : y = x := by
    rcases h1 with ⟨h1, _⟩ | ⟨h1, _⟩
    · exact LB.uniq nd (h y hy) hx (v := x.1) (.inl h1.symm) (.inl rfl)
    · exact LB.uniq nd (h y hy) hx (v := x.1) (.inr h1.symm) (.inl rfl)
  rw [← e]
  exact hy
/-- stones Q of X that cover R and nothing else -/
structure Cov (X : List DL.St) (R : List Sq) (Q : List DL.St) : Prop where
  sub : ∀ x ∈ Q, x ∈ X
  p : (sqs Q).Perm R
theorem Cov.mem {l : List Sq} {X : List DL.St} {R : List Sq} {Q : List DL.St} (nd : l.Nodup) (L : Lay l X) (C : Cov X R Q) {x : DL.St} (hx : x ∈ X) : x ∈ Q ↔ x.1 ∈ R := by
  constructor
  · intro h
    refine C.p.mem_iff.mp ?_
    unfold sqs
    rw [List.mem_flatMap]
    exact ⟨x, h, List.mem_cons_self⟩
  · intro h
    have h1 := C.p.mem_iff.mpr h
    unfold sqs at h1
    rw [List.mem_flatMap] at h1
    obtain ⟨y, hy, h2⟩ := h1
    simp only [List.mem_cons, List.not_mem_nil, or_false] at h2
    have := L.uniq nd hx (C.sub y hy) (v := x.1) (.inl rfl) h2
    rw [this]
    exact hy
/-- laid along R by Q2 for Q1 -/
theorem cov_exch {l : List Sq} {X : List DL.St} {R : List Sq} {Q1 Q2 : List DL.St} (fl : Flo l) (L : Lay l X) (C : Cov X R Q1) (ndR : R.Nodup) (hB : ∀ x ∈ Q2, GSt x) (p2 : (sqs Q2).Perm R) :
    srt ((X.filter fun x => !decide (x.1 ∈ R)) ++ Q2) = exch X Q1 Q2 ∧ Lay l (exch X Q1 Q2) ∧ Cov (exch X Q1 Q2) R Q2 ∧ exch (exch X Q1 Q2) Q2 Q1 = X := by
  have nd := up_nd fl.up
  have nd1 : Q1.Nodup := nd_of_sqs (C.p.nodup_iff.mpr ndR)
  have nd2 : Q2.Nodup := nd_of_sqs (p2.nodup_iff.mpr ndR)
  have L2 := lay_exch fl L C.sub nd1 hB (p2.trans C.p.symm)
  have C2 : Cov (exch X Q1 Q2) R Q2 := ⟨fun x hx => mem_exch.mpr (.inr hx), p2⟩
  refine ⟨?_, L2, C2, ?_⟩
  · unfold exch
    congr 2
    refine List.filter_congr fun x hx => ?_
    rw [decide_eq_decide.mpr (C.mem nd L hx)]
  · have L3 := lay_exch fl L2 C2.sub nd2 (fun x hx => L.g x (C.sub x hx)) (C.p.trans p2.symm)
    refine up_ext L3.up L.up fun x => ?_
    rw [mem_exch, mem_exch]
    constructor
    · rintro (⟨h1 | h1, h2⟩ | h1)
      · exact h1.1
      · exact absurd h1 h2
      · exact C.sub x h1
    · intro hx
      by_cases z : x ∈ Q1
      · exact .inr z
      · refine .inl ⟨.inl ⟨hx, z⟩, fun y => z ?_⟩
        rw [C.mem nd L hx]
        exact (C2.mem nd L2 (C2.sub x y)).mp y
section
variable {l : List Sq} {m t : Sq → Sq} {s : Sq} {p : Nat}
theorem seg_perm : ∀ p : Nat, (seg m t s p).Perm ((List.range p).map (itr m t s) ++ (List.range p).map fun k => m (itr m t s k))
  | 0 => List.Perm.refl _
  | p + 1 => by
    rw [seg, List.range_succ, List.map_append, List.map_append, List.map_cons, List.map_nil, List.map_cons, List.map_nil]
    refine ((seg_perm p).append_right _).trans ?_
    rw [List.append_assoc, List.append_assoc]
    refine List.Perm.append_left _ ?_
    rw [show ([itr m t s p] ++ ((List.range p).map (fun k => m (itr m t s k)) ++ [m (itr m t s p)]) : List Sq) = itr m t s p :: ((List.range p).map (fun k => m (itr m t s k)) ++ [m (itr m t s p)]) from rfl]
    exact List.perm_middle
theorem pa_perm : (sqs (PAl m t s p)).Perm (seg m t s p) := (sqs_pr _ _ _).trans (seg_perm p).symm
theorem rot_perm (hp : 1 ≤ p) (hps : itr m t s p = s) : ((List.range p).map fun k => itr m t s (k + 1)).Perm ((List.range p).map (itr m t s)) := by
  obtain ⟨q, rfl⟩ : ∃ q, p = q + 1 := ⟨p - 1, by omega⟩
  rw [List.range_succ, List.map_append, List.map_cons, List.map_nil, hps, ← List.range_succ, List.range_succ_eq_map, List.map_cons, List.map_map]
  exact List.perm_append_singleton _ _
theorem pb_perm (hp : 1 ≤ p) (hps : itr m t s p = s) : (sqs (PBl m t s p)).Perm (seg m t s p) := by
  refine (sqs_pr _ _ _).trans ?_
  refine (List.Perm.append_left _ (rot_perm hp hps)).trans ?_
  exact List.perm_append_comm.trans (seg_perm p).symm
theorem pa_sub {M : List DL.St} (nd : l.Nodup) (L : Lay l M) (ht : Mate l t) (hs : s ∈ l) : ∀ x ∈ PAl (mt M) t s p, x ∈ M := fun x hx => by
  obtain ⟨k, _, rfl⟩ := List.mem_map.mp hx
  exact L.pr_in (itr_in (L.mate nd) ht hs k)
theorem pb_sub {M : List DL.St} (nd : l.Nodup) (hm : Mate l m) (L : Lay l M) (hs : s ∈ l) : ∀ x ∈ PBl m (mt M) s p, x ∈ M := fun x hx => by
  obtain ⟨k, _, rfl⟩ := List.mem_map.mp hx
  exact L.pr_in (hm.in_ _ (itr_in hm (L.mate nd) hs k))
/-- the first pair lies in X, or not -/
theorem first_a (hp : 1 ≤ p) {X : List DL.St} (h : ∀ x ∈ PAl m t s p, x ∈ X) : pr s (m s) ∈ X := h _ (List.mem_map.mpr ⟨0, List.mem_range.mpr (by omega), rfl⟩)
theorem first_b (hm : Mate l m) (ht : Mate l t) (hs : s ∈ l) (hp : 2 ≤ p) (hps : itr m t s p = s) (hj : ∀ j, 0 < j → j < p → itr m t s j ≠ s) {X : List DL.St} (nd : l.Nodup) (L : Lay l X) (h : ∀ x ∈ PBl m t s p, x ∈ X) : pr s (m s) ∉ X := fun z => by
  obtain ⟨q, rfl⟩ : ∃ q, p = q + 1 := ⟨p - 1, by omega⟩
  have h1 : pr (m (itr m t s q)) s ∈ X := by
    have := h (pr (m (itr m t s q)) (itr m t s (q + 1))) (List.mem_map.mpr ⟨q, List.mem_range.mpr (by omega), rfl⟩)
    rwa [hps] at this
  have e := L.uniq nd z h1 (v := s) ((pr_sq _ _ s).mpr (.inl rfl)) ((pr_sq _ _ s).mpr (.inr rfl))
  have a1 := itr_in hm ht hs q
  have h2 : m s = m (itr m t s q) ∨ m s = s := by
    have h3 := (pr_sq s (m s) (m s)).mpr (.inr rfl)
    rw [e] at h3
    exact (pr_sq _ _ (m s)).mp h3
  rcases h2 with h2 | h2
  · exact hj q (by omega) (by omega) (m_inj hm ht hs a1 h2).symm
  · exact col_nb (hm.nb _ hs) (congrArg col h2)
end
end DL

set_option Elab.async false
set_option linter.all false
set_option maxRecDepth 100000
/-! NF: all layings, by the program and by the law. -/
namespace DL
open PySem PySem.Spec PyProof.Rows L2
def wayF : Nat → List Sq → List (List DL.St)
  | 0, _ => []
  | _ + 1, [] => [[]]
  | n + 1, s :: r => (nb (s :: r) s).flatMap fun o => (wayF n (r.filter fun x => decide (x ≠ o))).map fun row => (s, o) :: row
theorem wayF_len : ∀ (n : Nat) (l : List Sq), (((wayF n l).length : Nat) : Int) = cntF n l
  | 0, _ => rfl
  | _ + 1, [] => rfl
  | n + 1, s :: r => by
    have key : ∀ os : List Sq, (((os.flatMap fun o => (wayF n (r.filter fun x => decide (x ≠ o))).map fun row => (s, o) :: row).length : Nat) : Int) = (os.map fun o => cntF n (r.filter fun x => decide (x ≠ o))).sum := by
      intro os
      induction os with
      | nil => rfl
      | cons o os ih =>
        rw [List.flatMap_cons, List.length_append, List.length_map, List.map_cons, List.sum_cons, ← ih, ← wayF_len n]
        omega
    exact key _
theorem wayF_row : ∀ (n : Nat) (l : List Sq), ∀ row ∈ wayF n l, row.length ≤ n
  | 0, _, row, h => by cases h
  | n + 1, [], row, h => by
    rw [wayF, List.mem_singleton] at h
    subst h
    exact Nat.zero_le _
  | n + 1, s :: r, row, h => by
    rw [wayF] at h
    obtain ⟨o, _, h2⟩ := List.mem_flatMap.mp h
    obtain ⟨row', h3, rfl⟩ := List.mem_map.mp h2
    have := wayF_row n _ row' h3
    rw [List.length_cons]
    omega
def lrow (rows : List (List DL.St)) : AO := .lst ((rows.map erow).map .p)
theorem left_ways (s o : Sq) (r : List Sq) (hr : r.length ≤ 1000) (a1 : Option D) (x3 x5 : Option D) (ah : AH) : fCall gTuple (aCons (fLc (iAny (fSlice (fVar 0) (pSome (fC (.int 1))) pNo)) 4 (tB (f2 gNe (fVar 4) (fVar 2))) (fVar 4)) aNil) [some (.p (efl (s :: r))), a1, some (.p (esq o)), x3, none, x5] ah
    = .ok (.p (efl (r.filter fun x => decide (x ≠ o)))) ah := by
  have h : lcL 4 (tB (f2 gNe (fVar 4) (fVar 2))) (fVar 4) ((r.map esq).map .p) [some (.p (efl (s :: r))), a1, some (.p (esq o)), x3, none, x5] ah = .ok ((r.filter fun x => decide (x ≠ o)).map esq) ah := by
    refine lcL_data esq (fun x => decide (x ≠ o)) esq r (fun x _ => ?_) (fun x _ _ => rfl)
    show (R.bind (gNe (.p (esq x)) (.p (esq o)) ah) _) = _
    rw [gNe_sq]
    show (R.ok (!decide (x = o)) ah : R Bool) = _
    congr 1
    by_cases e : x = o <;> simp [e]
  rw [e_call, e_cons, e_lc, e_any]
  have hs : fSlice (fVar 0) (pSome (fC (.int 1))) pNo [some (.p (efl (s :: r))), a1, some (.p (esq o)), x3, none, x5] ah = .ok (.p (.tuple (r.map esq))) ah := by
    show (R.ok (D.p (.tuple (cutG (esq s :: r.map esq) (some 1) none))) ah : R D) = _
    rw [cut1]
  rw [hs, R.bind_ok]
  dsimp only
  rw [R.bind_ok, if_pos (by rw [List.length_map, List.length_map]; omega), h]
  rfl
theorem isLg {ah g : AH} {l : List D} : isL (ah ++ .lst l :: g) (.r ah.length) = true := by
  unfold isL
  simp only [h_at]
theorem ext_row {ah g : AH} {acc rows : List (List DL.St)} (h : acc.length + rows.length ≤ 16777216) : gExtend (.r ah.length) [.p (eevs rows)] (ah ++ lrow acc :: g) = .ok (.p .none) (ah ++ lrow (acc ++ rows) :: g) := by
  unfold gExtend lrow eevs
  dsimp only
  rw [h_at]
  dsimp only
  rw [if_pos (by simp only [List.length_map]; exact h), h_set, List.map_append, List.map_append]
def wBody (Fr : DF) : SF := (sSeq (sSet 3 (fCall gTuple (aCons (fLc (iAny (fSlice (fVar 0) (pSome (fC (.int 1))) pNo)) 4 (tB (f2 gNe (fVar 4) (fVar 2))) (fVar 4)) aNil))) (sExpr (fMt isL gExtend (fVar 1) (aCons (fLc (iAny (fCall Fr (aCons (fVar 3) aNil))) 5 tYesF (f2 gAdd (fLst (aCons (fTup (aCons (f2 gSub2 (fVar 0) (fC (.int 0))) (aCons (fVar 2) aNil))) aNil)) (fVar 5))) aNil))))
theorem forWays {n : Nat} (hn : n ≤ 1000) {s : Sq} {r : List Sq} {h0 : AH} (hr : r.length ≤ 1000) (ih : ∀ o, o ∈ r → ∀ (acc : Nat), acc + (wayF n (r.filter fun x => decide (x ≠ o))).length ≤ 16777216 → ∀ ah, ∃ g, F_ways n [.p (efl (r.filter fun x => decide (x ≠ o)))] ah = .ok (.p (eevs (wayF n (r.filter fun x => decide (x ≠ o))))) (ah ++ g)) :
    ∀ (os : List Sq), (∀ o ∈ os, o ∈ r) → ∀ (acc : List (List DL.St)) (x2 x3 : Option D) (g : AH), (acc ++ os.flatMap fun o => (wayF n (r.filter fun x => decide (x ≠ o))).map fun row => (s, o) :: row).length ≤ 16777216 →
      ∃ x2' x3' g', forL (gN 2) (wBody (F_ways n)) ((os.map esq).map .p) [some (.p (efl (s :: r))), some (.r h0.length), x2, x3, none, none] (h0 ++ lrow acc :: g)
        = .nx [some (.p (efl (s :: r))), some (.r h0.length), x2', x3', none, none] (h0 ++ lrow (acc ++ os.flatMap fun o => (wayF n (r.filter fun x => decide (x ≠ o))).map fun row => (s, o) :: row) :: g')
  | [], _, acc, x2, x3, g, _ => ⟨x2, x3, g, by rw [List.flatMap_nil, List.append_nil]; rfl⟩
  | o :: os, ho, acc, x2, x3, g, hz => by
    obtain ⟨rows, hrows⟩ : ∃ rows, rows = wayF n (r.filter fun x => decide (x ≠ o)) := ⟨_, rfl⟩
    rw [List.flatMap_cons, ← hrows, ← List.append_assoc] at hz
    have hz1 : acc.length + rows.length ≤ 16777216 := by
      rw [List.length_append, List.length_append, List.length_map] at hz
      omega
    obtain ⟨g1, e1⟩ := ih o (ho o List.mem_cons_self) acc.length (by rw [← hrows]; exact hz1) (h0 ++ lrow acc :: g)
    rw [← hrows] at e1
    obtain ⟨x2', x3', g', e2⟩ := forWays hn (s := s) (h0 := h0) hr ih os (fun p hp => ho p (List.mem_cons_of_mem _ hp)) (acc ++ rows.map fun row => (s, o) :: row) (some (.p (esq o))) (some (.p (efl (r.filter fun x => decide (x ≠ o))))) (g ++ g1) hz
    refine ⟨x2', x3', g', ?_⟩
    have hheap : h0 ++ lrow acc :: g ++ g1 = h0 ++ lrow acc :: (g ++ g1) := by simp
    rw [hheap] at e1
    have hb : wBody (F_ways n) [some (.p (efl (s :: r))), some (.r h0.length), some (.p (esq o)), x3, none, none] (h0 ++ lrow acc :: g) = .nx [some (.p (efl (s :: r))), some (.r h0.length), some (.p (esq o)), some (.p (efl (r.filter fun x => decide (x ≠ o)))), none, none] (h0 ++ lrow (acc ++ rows.map fun row => (s, o) :: row) :: (g ++ g1)) := by
      have hlc : lcL 5 tYesF (f2 gAdd (fLst (aCons (fTup (aCons (f2 gSub2 (fVar 0) (fC (.int 0))) (aCons (fVar 2) aNil))) aNil)) (fVar 5)) ((rows.map erow).map .p) [some (.p (efl (s :: r))), some (.r h0.length), some (.p (esq o)), some (.p (efl (r.filter fun x => decide (x ≠ o)))), none, none] (h0 ++ lrow acc :: (g ++ g1)) = .ok ((rows.filter fun _ => true).map fun row => erow ((s, o) :: row)) (h0 ++ lrow acc :: (g ++ g1)) := by
        refine lcL_data erow (fun _ => true) (fun row => erow ((s, o) :: row)) rows (fun x _ => rfl) (fun x hx _ => ?_)
        have hxr := wayF_row n _ x (by rw [← hrows]; exact hx)
        have h1 : f2 gAdd (fLst (aCons (fTup (aCons (f2 gSub2 (fVar 0) (fC (.int 0))) (aCons (fVar 2) aNil))) aNil)) (fVar 5) ([some (.p (efl (s :: r))), some (.r h0.length), some (.p (esq o)), some (.p (efl (r.filter fun x => decide (x ≠ o)))), none, none].set 5 (some (.p (erow x)))) (h0 ++ lrow acc :: (g ++ g1)) = gAdd (.p (.list [est (s, o)])) (.p (.list (x.map est))) (h0 ++ lrow acc :: (g ++ g1)) := by
          have hl : fLst (aCons (fTup (aCons (f2 gSub2 (fVar 0) (fC (.int 0))) (aCons (fVar 2) aNil))) aNil) ([some (.p (efl (s :: r))), some (.r h0.length), some (.p (esq o)), some (.p (efl (r.filter fun x => decide (x ≠ o)))), none, none].set 5 (some (.p (erow x)))) (h0 ++ lrow acc :: (g ++ g1)) = .ok (.p (.list [est (s, o)])) (h0 ++ lrow acc :: (g ++ g1)) := by
            have ht : fTup (aCons (f2 gSub2 (fVar 0) (fC (.int 0))) (aCons (fVar 2) aNil)) ([some (.p (efl (s :: r))), some (.r h0.length), some (.p (esq o)), some (.p (efl (r.filter fun x => decide (x ≠ o)))), none, none].set 5 (some (.p (erow x)))) (h0 ++ lrow acc :: (g ++ g1)) = .ok (.p (est (s, o))) (h0 ++ lrow acc :: (g ++ g1)) := by
              simp only [e_sets, e_set0, e_tup, e_cons, e_nil, e_f2, e_vs, e_v0, e_c, b_ok, sub_head, pures, Option.map_some, List.length_cons, List.length_nil, Nat.reduceAdd, Nat.reduceLeDiff, ↓reduceIte]
              rfl
            rw [e_lst, e_cons, ht, b_ok, e_nil, b_ok, b_ok]
            rfl
          rw [e_f2, hl, b_ok]
          rfl
        rw [h1, l_add (by rw [List.length_map, List.length_singleton]; omega)]
        rfl
      unfold wBody
      rw [e_seq, e_set, left_ways s o r hr, t_ok, s_nx, e_expr, e_fMt]
      simp only [e_sets, e_set0]
      have hL : isL (h0 ++ lrow acc :: g) (.r h0.length) = true := isLg
      rw [e_vs, e_v0, b_ok, if_pos hL, e_cons, e_lc, e_any, e_call, e_cons, e_vs, e_vs, e_vs, e_v0, b_ok, e_nil, b_ok, b_ok, e1, b_ok]
      unfold eevs
      dsimp only
      rw [b_ok, if_pos (by rw [List.length_map, List.length_map]; omega), hlc, filter_t, o_ok, b_ok, e_nil, b_ok, b_ok]
      have hx : (PyData.list (rows.map fun row => erow ((s, o) :: row))) = eevs (rows.map fun row => (s, o) :: row) := by unfold eevs; rw [List.map_map]; rfl
      rw [hx, ext_row (by rw [List.length_map]; exact hz1), t_ok]
    have hset : ([some (.p (efl (s :: r))), some (.r h0.length), x2, x3, none, none] : DS).set 2 (some (.p (esq o))) = [some (.p (efl (s :: r))), some (.r h0.length), some (.p (esq o)), x3, none, none] := rfl
    rw [List.map_cons, List.map_cons, e_for_cons, e_gN, hset]
    dsimp only
    rw [hb]
    dsimp only
    rw [e2, List.flatMap_cons, ← hrows, List.append_assoc]
theorem F_ways_ok : ∀ (n : Nat), n ≤ 1000 → ∀ (l : List Sq), l.length < n → l.length ≤ 1000 → (wayF n l).length ≤ 16777216 → ∀ ah, ∃ g, F_ways n [.p (efl l)] ah = .ok (.p (eevs (wayF n l))) (ah ++ g)
  | 0, _, _, h, _, _, _ => absurd h (Nat.not_lt_zero _)
  | n + 1, _, [], _, _, _, ah => ⟨[], by rw [List.append_nil]; rfl⟩
  | n + 1, hn, s :: r, hl, h1000, hz, ah => by
    rw [List.length_cons] at hl h1000
    obtain ⟨x2', x3', g', e1⟩ := forWays (n := n) (by omega) (s := s) (r := r) (h0 := ah) (by omega) (fun o ho acc hb ah => F_ways_ok n (by omega) _ (by have := filter_lt ho; omega) (by have := filter_lt ho; omega) (by omega) ah) (nb (s :: r) s) (fun o ho => nb_rest ho) [] none none [] (by rw [List.nil_append]; exact hz)
    rw [List.nil_append] at e1
    have hw : ((nb (s :: r) s).flatMap fun o => (wayF n (r.filter fun x => decide (x ≠ o))).map fun row => (s, o) :: row) = wayF (n + 1) (s :: r) := rfl
    rw [hw] at e1
    refine ⟨.dead :: g', ?_⟩
    have htru : tNotF (tTru (fVar 0)) [some (.p (efl (s :: r))), none, none, none, none, none] ah = .ok false ah := rfl
    have hc : ∀ hp, fCall F_neighbours (aCons (fVar 0) (aCons (f2 gSub2 (fVar 0) (fC (.int 0))) aNil)) [some (.p (efl (s :: r))), some (.r ah.length), none, none, none, none] hp = F_neighbours [.p (efl (s :: r)), .p (esq s)] hp := fun hp => by
      simp only [e_call, e_cons, e_v0, R.bind_ok, e_f2, e_c, sub_head, e_nil]
    have hfz : gFrz (.r ah.length) (ah ++ lrow (wayF (n + 1) (s :: r)) :: g') = .ok (.p (eevs (wayF (n + 1) (s :: r)))) (ah ++ .dead :: g') := by
      unfold gFrz lrow
      dsimp only
      rw [h_at]
      dsimp only
      rw [pures_p]
      dsimp only
      rw [h_set]
      rfl
    rw [E_ways, g_ways, e_seq, e_if, htru, t_ok, if_neg Bool.false_ne_true, e_nx, s_nx, e_seq]
    simp only [e_set, e_lstM, e_nil, b_ok, List.length_nil, Nat.zero_le, ↓reduceIte, e_set0, e_sets, t_ok, s_nx]
    have hz2 : (ah ++ [AO.lst []]) = ah ++ lrow [] :: [] := rfl
    have e1' := e1
    unfold wBody at e1'
    rw [hz2, e_seq, e_for, e_any, hc, F_neighbours_eq, b_ok]
    dsimp only
    rw [t_ok, e1', s_nx, e_ret, e_frz, e_vs, e_v0, b_ok, hfz, t_ok, e_rt]
/-! ### both find all -/
/-- stones that cover l -/
structure Til (l : List Sq) (X : List DL.St) : Prop where
  g : ∀ x ∈ X, x.2 ∈ nbs x.1 ∧ sqLt x.1 x.2
  c : (sqs X).Perm l
theorem Lay.til {l : List Sq} {M : List DL.St} (L : Lay l M) : Til l M := ⟨fun x hx => ⟨(L.g x hx).n, (L.g x hx).l⟩, L.c⟩
theorem til_stone {l : List Sq} {X : List DL.St} (T : Til l X) {s : Sq} (h : s ∈ l) : ∃ x ∈ X, (x.1 = s ∨ x.2 = s) ∧ x.1 ∈ l ∧ x.2 ∈ l := by
  have h1 := T.c.mem_iff.mpr h
  unfold sqs at h1
  rw [List.mem_flatMap] at h1
  obtain ⟨x, hx, h2⟩ := h1
  have hm : ∀ v ∈ sqs [x], v ∈ l := fun v hv => T.c.mem_iff.mp (by
    unfold sqs at hv ⊢
    rw [List.mem_flatMap]
    exact ⟨x, hx, by simpa using hv⟩)
  simp only [List.mem_cons, List.not_mem_nil, or_false] at h2
  exact ⟨x, hx, h2.imp Eq.symm Eq.symm, hm _ (by simp [sqs]), hm _ (by simp [sqs])⟩
theorem til_rest {l : List Sq} {X : List DL.St} (nd : l.Nodup) (T : Til l X) {x : DL.St} (h : x ∈ X) : Til (rm l x.1 x.2) (X.erase x) ∧ X.Perm (x :: X.erase x) := by
  have p := List.perm_cons_erase h
  refine ⟨⟨fun y hy => T.g y (List.mem_of_mem_erase hy), ?_⟩, p⟩
  have hm : x.1 ∈ l ∧ x.2 ∈ l := by
    have : ∀ v ∈ sqs [x], v ∈ l := fun v hv => T.c.mem_iff.mp (by
      unfold sqs at hv ⊢
      rw [List.mem_flatMap]
      exact ⟨x, h, by simpa using hv⟩)
    exact ⟨this _ (by simp [sqs]), this _ (by simp [sqs])⟩
  have hne : x.1 ≠ x.2 := fun e => by
    have := (T.g x h).2
    rw [e] at this
    exact sqLt_irr this
  have p2 : (sqs (x :: X.erase x)).Perm l := (sqs_perm p.symm).trans T.c
  have e : sqs (x :: X.erase x) = x.1 :: x.2 :: sqs (X.erase x) := rfl
  rw [e] at p2
  have p3 := rm_perm nd hm.1 hm.2 hne
  have p4 : (x.1 :: x.2 :: rm l x.1 x.2).Perm l := by
    refine List.Perm.trans ?_ p3
    refine List.Perm.trans ?_ List.perm_append_comm
    exact List.Perm.swap _ _ _
  exact (List.Perm.cons_inv (List.Perm.cons_inv (p2.trans p4.symm)))
theorem wayF_all : ∀ (n : Nat) (l : List Sq), l.length < n → l.Pairwise sqLt → ∀ X, Til l X → ∃ row ∈ wayF n l, row.Perm X
  | 0, _, h, _, _, _ => absurd h (Nat.not_lt_zero _)
  | n + 1, [], _, _, X, T => by
    have hX : X = [] := by
      cases X with
      | nil => rfl
      | cons x r => have := T.c.length_eq; simp [sqs] at this
    subst hX
    exact ⟨[], by simp [wayF], List.Perm.refl _⟩
  | n + 1, s :: r, hl, up, X, T => by
    obtain ⟨x, hx, h1, h2, h3⟩ := til_stone T (s := s) List.mem_cons_self
    obtain ⟨g1, g2⟩ := T.g x hx
    have hs : x.1 = s := by
      rcases h1 with h | h
      · exact h
      · exfalso
        rw [List.pairwise_cons] at up
        rcases List.mem_cons.mp h2 with e | e
        · rw [e, h] at g2; exact sqLt_irr g2
        · have := up.1 _ e
          rw [h] at g2
          exact sqLt_asym this g2
    have nd := up_nd up
    obtain ⟨T2, p⟩ := til_rest nd T hx
    rw [hs] at T2 g1 g2
    have hr : x.2 ∈ r := by
      rcases List.mem_cons.mp h3 with e | e
      · rw [e] at g2; exact (sqLt_irr g2).elim
      · exact e
    rw [← rm_head nd] at T2
    rw [List.length_cons] at hl
    have hlt := filter_lt hr
    obtain ⟨row, hrow, p2⟩ := wayF_all n _ (by omega) ((List.pairwise_cons.mp up).2.sublist List.filter_sublist) _ T2
    refine ⟨(s, x.2) :: row, ?_, ?_⟩
    · rw [wayF]
      refine List.mem_flatMap.mpr ⟨x.2, ?_, List.mem_map.mpr ⟨row, hrow, rfl⟩⟩
      unfold nb
      rw [List.mem_filter, decide_eq_true_eq]
      exact ⟨g1, h3⟩
    · have : (s, x.2) = x := by rw [← hs]
      rw [this]
      exact (List.Perm.cons x p2).trans p.symm
theorem evF_all : ∀ (n : Nat) (l : List Sq), l.length < n → l.Pairwise sqLt → ∀ X, Til l X → ∃ row ∈ evF n l, row.Perm X
  | 0, _, h, _, _, _ => absurd h (Nat.not_lt_zero _)
  | n + 1, l, hl, up, X, T => by
    cases e : l.getLast? with
    | none =>
      have hl0 : l = [] := List.getLast?_eq_none_iff.mp e
      subst hl0
      have hX : X = [] := by
        cases X with
        | nil => rfl
        | cons x r => have := T.c.length_eq; simp [sqs] at this
      subst hX
      exact ⟨[], by unfold evF; rw [List.getLast?_nil]; simp, List.Perm.refl _⟩
    | some m =>
      have hm := last_mem e
      obtain ⟨ys, hys⟩ := List.getLast?_eq_some_iff.mp e
      obtain ⟨x, hx, h1, h2, h3⟩ := til_stone T hm
      obtain ⟨g1, g2⟩ := T.g x hx
      have hmax : ∀ v ∈ l, v = m ∨ sqLt v m := fun v hv => by
        rw [hys] at hv up
        rcases List.mem_append.mp hv with h | h
        · rw [List.pairwise_append] at up
          exact .inr (up.2.2 v h m (List.mem_singleton.mpr rfl))
        · exact .inl (List.mem_singleton.mp h)
      have hs : x.2 = m := by
        rcases h1 with h | h
        · exfalso
          rcases hmax _ h3 with e1 | e1
          · rw [e1, h] at g2; exact sqLt_irr g2
          · rw [h] at g2; exact sqLt_asym e1 g2
        · exact h
      have nd := up_nd up
      obtain ⟨T2, p⟩ := til_rest nd T hx
      rw [hs] at T2 g1 g2
      rw [rm_comm] at T2
      have ho : x.1 ∈ nb l m := by
        unfold nb
        rw [List.mem_filter, decide_eq_true_eq]
        exact ⟨nbs_sym g1, h2⟩
      obtain ⟨row, hrow, p2⟩ := evF_all n _ (nb_len' hl e ho) (up.sublist (rm_sub ..)) _ T2
      refine ⟨row ++ [(x.1, m)], ?_, ?_⟩
      · rw [evF_some e]
        exact List.mem_flatMap.mpr ⟨x.1, ho, List.mem_map.mpr ⟨row, hrow, rfl⟩⟩
      · have : (x.1, m) = x := by rw [← hs]
        rw [this]
        exact (p2.append_right [x]).trans (List.perm_append_singleton x _ |>.trans p.symm)
theorem srt_lay {l : List Sq} {M row : List DL.St} (nd : l.Nodup) (L : Lay l M) (p : row.Perm M) : srt row = M := by
  have ndM : M.Nodup := nd_of_sqs (L.c.nodup_iff.mpr nd)
  exact up_ext (srt_up (p.nodup_iff.mpr ndM)) L.up fun x => by rw [(srt_perm row).mem_iff, p.mem_iff]
/-- each laying is among the law's -/
theorem ev_has {l : List Sq} (fl : Flo l) {rs : List (List DL.St)} (p : rs.Perm ((evF 26 l).map srt)) {M : List DL.St} (L : Lay l M) : M ∈ rs := by
  have := fl.le
  obtain ⟨row, hrow, p2⟩ := evF_all 26 l (by omega) fl.up M L.til
  refine p.mem_iff.mpr (List.mem_map.mpr ⟨row, hrow, srt_lay (up_nd fl.up) L p2⟩)
theorem way_has {l : List Sq} (fl : Flo l) {rs : List (List DL.St)} (p : rs.Perm ((wayF 26 l).map srt)) {M : List DL.St} (L : Lay l M) : M ∈ rs := by
  have := fl.le
  obtain ⟨row, hrow, p2⟩ := wayF_all 26 l (by omega) fl.up M L.til
  refine p.mem_iff.mpr (List.mem_map.mpr ⟨row, hrow, srt_lay (up_nd fl.up) L p2⟩)
theorem wayF_til : ∀ (n : Nat) (l : List Sq), l.Pairwise sqLt → ∀ row ∈ wayF n l, Til l row
  | 0, _, _, row, h => by cases h
  | n + 1, [], _, row, h => by
    rw [wayF, List.mem_singleton] at h
    subst h
    exact ⟨(fun x hx => by cases hx), List.Perm.refl _⟩
  | n + 1, s :: r, up, row, h => by
    rw [wayF] at h
    obtain ⟨o, ho, h2⟩ := List.mem_flatMap.mp h
    obtain ⟨row', h3, rfl⟩ := List.mem_map.mp h2
    have hor := nb_rest ho
    have hon := (nb_mem ho).2
    have nd := up_nd up
    have T := wayF_til n _ ((List.pairwise_cons.mp up).2.sublist List.filter_sublist) row' h3
    have hlt : sqLt s o := (List.pairwise_cons.mp up).1 o hor
    refine ⟨fun x hx => ?_, ?_⟩
    · rcases List.mem_cons.mp hx with rfl | hx
      · exact ⟨hon, hlt⟩
      · exact T.g x hx
    · have e : sqs ((s, o) :: row') = s :: o :: sqs row' := rfl
      rw [e]
      refine List.Perm.cons _ ?_
      refine (List.Perm.cons o T.c).trans ?_
      rw [rm_head nd]
      have hne : s ≠ o := fun e => by rw [e] at hlt; exact sqLt_irr hlt
      have p3 := rm_perm nd List.mem_cons_self (List.mem_cons_of_mem _ hor) hne
      have p4 : (s :: o :: rm (s :: r) s o).Perm (s :: r) := by
        refine List.Perm.trans ?_ p3
        refine List.Perm.trans ?_ List.perm_append_comm
        exact List.Perm.swap _ _ _
      exact List.Perm.cons_inv p4
theorem srt_of_til {l : List Sq} (fl : Flo l) {row : List DL.St} (T : Til l row) : Lay l (srt row) := by
  have nd := up_nd fl.up
  have hm : ∀ x ∈ row, x.1 ∈ l ∧ x.2 ∈ l := fun x hx => by
    have : ∀ v ∈ sqs [x], v ∈ l := fun v hv => T.c.mem_iff.mp (by
      unfold sqs at hv ⊢
      rw [List.mem_flatMap]
      exact ⟨x, hx, by simpa using hv⟩)
    exact ⟨this _ (by simp [sqs]), this _ (by simp [sqs])⟩
  refine ⟨fun x hx => ?_, srt_up (nd_of_sqs (T.c.nodup_iff.mpr nd)), (sqs_perm (srt_perm row)).trans T.c⟩
  have hx' := (srt_perm row).mem_iff.mp hx
  exact ⟨fl.in_ _ (hm x hx').1, fl.in_ _ (hm x hx').2, (T.g x hx').1, (T.g x hx').2⟩
/-- the program's list of all layings -/
theorem F_allLayings_ok {l : List Sq} (fl : Flo l) (ah : AH) :
    (200 < cN l ∧ ∃ ah', F_all_layings [.p (efl l)] ah = .ex 3 ah') ∨ (cN l ≤ 200 ∧ ∃ rs ah', F_all_layings [.p (efl l)] ah = .ok (.p (.list (rs.map ety))) ah' ∧ (rs.length : Int) = cN l ∧ rs.Perm ((wayF 26 l).map srt) ∧ rs = ((wayF 26 l).map srt).mergeSort (fun a b => PySem.W.dataLe false id (ety a) (ety b))) := by
  have hle := fl.le
  have hB := bndF_le 12 26 l hle
  have hpow : (4 : Nat) ^ 12 = 16777216 := by decide
  rw [hpow] at hB
  obtain ⟨g, hc⟩ := F_count_ok l (by omega) (by omega) ah
  have hcn : cntF 26 l = cN l := cN_any (by omega)
  rw [hcn] at hc
  by_cases c : 200 < cN l
  · refine .inl ⟨c, ah ++ [g], ?_⟩
    rw [E_all_layings, g_all_layings]
    simp only [e_seq, e_nx, e_set, e_ret, e_expr, e_if, e_f2, e_call, e_nil, e_cons, e_c, e_v0, e_vs, e_set0, e_sets, e_tB, e_tru, e_notF, e_neg, b_ok, b_ex, t_ok, t_ex, s_nx, s_rt, s_bk, s_ct, s_ex, o_ok, e_rt, e_fnx, i_add, i_sub, i_mod, Int.reduceLT, i_lt, i_le, i_gt, i_ge, i_eq, i_ne, l_add, t_add, e_r1, e_for, e_lc, e_gN, e_asg, e_tup, e_any, e_tupl, e_frz, ↓reduceIte, Bool.false_eq_true, Bool.not_true, Bool.not_false, e_and, e_or, e_yes, hc, decide_eq_true c, e_raise, e_fex]
  · have hwl : (((wayF 26 l).length : Nat) : Int) = cN l := by rw [wayF_len, hcn]
    obtain ⟨g2, hw⟩ := F_ways_ok 26 (by decide) l (by omega) (by omega) (by omega) (ah ++ [g])
    have hne : ∀ x ∈ (wayF 26 l).map srt, x ≠ [] := fun x hx z => by
      obtain ⟨r, hr, rfl⟩ := List.mem_map.mp hx
      have h1 := (srt_perm r).length_eq
      rw [z, List.length_nil] at h1
      have h2 := (wayF_til 26 l fl.up r hr).c.length_eq
      rw [List.length_eq_zero_iff.mp h1.symm] at h2
      exact fl.ne (List.length_eq_zero_iff.mp h2.symm)
    have hsr : gSortedL [.p (.list (((wayF 26 l).map srt).map ety))] (ah ++ [g] ++ g2) = .ok (.p (.list ((((wayF 26 l).map srt).mergeSort (fun a b => PySem.W.dataLe false id (ety a) (ety b))).map ety))) (ah ++ [g] ++ g2) := by
      show (if sortOk (((wayF 26 l).map srt).map ety) = true then R.ok (D.p (.list (sortD (((wayF 26 l).map srt).map ety)))) _ else .bad) = _
      rw [if_pos (sortOk_etys _ (by rw [List.length_map]; omega) hne)]
      congr 3
      unfold sortD
      exact (List.map_mergeSort (f := ety) (r := fun a b => PySem.W.dataLe false id (ety a) (ety b)) (s := PySem.W.dataLe false id) (l := (wayF 26 l).map srt) fun a _ b _ => rfl).symm
    refine .inr ⟨by omega, _, ah ++ [g] ++ g2, ?_, ?_, List.mergeSort_perm .., rfl⟩
    · have hlc : lcL 1 tYesF (fCall gTuple (aCons (fCall gSortedL (aCons (fVar 1) aNil)) aNil)) (((wayF 26 l).map erow).map .p) [some (.p (efl l)), none] (ah ++ [g] ++ g2) = .ok (((wayF 26 l).filter fun _ => true).map fun row => ety (srt row)) (ah ++ [g] ++ g2) := by
        refine lcL_data erow (fun _ => true) (fun row => ety (srt row)) _ (fun x _ => rfl) (fun x hx _ => ?_)
        have hr := wayF_row _ _ x hx
        rw [e_call, e_cons, e_call, e_cons, e_sets, e_set0, e_vs, e_v0, b_ok, e_nil, b_ok, b_ok]
        show (R.bind (gSortedL [.p (.list (x.map est))] _) _).bind _ = _
        rw [sorted_row (by omega), b_ok]
        rfl
      have hif : (sIf (tB (f2 gGt (fCall F_count (aCons (fVar 0) aNil)) (fC (.int 200)))) (sRaise 3) sNx) [some (.p (efl l)), none] ah = .nx [some (.p (efl l)), none] (ah ++ [g]) := by
        simp only [e_seq, e_nx, e_set, e_ret, e_expr, e_if, e_f2, e_call, e_nil, e_cons, e_c, e_v0, e_vs, e_set0, e_sets, e_tB, e_tru, e_notF, e_neg, b_ok, b_ex, t_ok, t_ex, s_nx, s_rt, s_bk, s_ct, s_ex, o_ok, e_rt, e_fnx, i_add, i_sub, i_mod, Int.reduceLT, i_lt, i_le, i_gt, i_ge, i_eq, i_ne, l_add, t_add, e_r1, e_for, e_lc, e_gN, e_asg, e_tup, e_any, e_tupl, e_frz, ↓reduceIte, Bool.false_eq_true, Bool.not_true, Bool.not_false, e_and, e_or, e_yes, hc, decide_eq_false c]
      have hwd : ((wayF 26 l).map fun row => ety (srt row)) = ((wayF 26 l).map srt).map ety := by rw [List.map_map]; rfl
      rw [E_all_layings, g_all_layings, e_seq, hif, s_nx, e_ret, e_call, e_cons, e_lc, e_any, e_call, e_cons, e_v0, b_ok, e_nil, b_ok, b_ok, hw, b_ok]
      unfold eevs
      dsimp only
      rw [b_ok, if_pos (by rw [List.length_map, List.length_map]; omega), hlc, filter_t, o_ok, b_ok, e_nil, b_ok, b_ok, hwd, hsr, t_ok, e_rt]
    · rw [(List.mergeSort_perm ..).length_eq, List.length_map, hwl]
end DL

set_option Elab.async false
set_option linter.all false
set_option maxRecDepth 100000
/-! NG: a search over layings: roads. -/
namespace DL
open PySem PySem.Spec PyProof.Rows L2
/-! ### layings as keys -/
theorem nk_est (a b : DL.St) : nk (est a) = nk (est b) ↔ a = b := by
  obtain ⟨a1, a2⟩ := a
  obtain ⟨b1, b2⟩ := b
  simp only [est, nk, nks, NestedKey.tup.injEq, List.cons.injEq, nk_esq, and_true, Prod.mk.injEq]
theorem nks_ests : ∀ l k : List DL.St, nks (l.map est) = nks (k.map est) ↔ l = k
  | [], [] => by simp
  | [], b :: k => by simp [nks]
  | a :: l, [] => by simp [nks]
  | a :: l, b :: k => by
    rw [List.map_cons, List.map_cons, nks, nks, List.cons.injEq, List.cons.injEq, nk_est, nks_ests l k]
theorem nk_ety (l k : List DL.St) : nk (ety l) = nk (ety k) ↔ l = k := by
  simp only [ety, nk, NestedKey.tup.injEq, nks_ests]
theorem keyables_ests : ∀ l : List DL.St, keyables (l.map est) = true
  | [] => rfl
  | a :: r => by
    rw [List.map_cons, keyables, keyables_ests r]
    rfl
theorem nkdepth_ests : ∀ l : List DL.St, NestedKey.depthAll (nks (l.map est)) ≤ 2
  | [] => by simp [nks, NestedKey.depthAll]
  | a :: r => by
    have := nkdepth_ests r
    have h : (nk (est a)).depth ≤ 2 := by simp [est, esq, nk, nks, NestedKey.depth, NestedKey.depthAll]
    simp only [List.map_cons, nks, NestedKey.depthAll]
    omega
theorem keyOk_ety (l : List DL.St) : keyOk (ety l) = true := by
  have := nkdepth_ests l
  simp only [keyOk, ety, isTup, keyable, keyables_ests, Bool.true_and, nk, NestedKey.depth, decide_eq_true_eq]
  omega
abbrev Yg := List DL.St
def kys {α : Type} (E : List (Yg × α)) : List Yg := E.map fun e => e.1
def dM {α : Type} (w : α → PyData) (E : List (Yg × α)) : AO := .dct (E.map fun e => (ety e.1, D.p (w e.2)))
theorem kfind_dM {α : Type} (w : α → PyData) (E : List (Yg × α)) (y : Yg) : (kfind (E.map fun e => (ety e.1, D.p (w e.2))) (ety y)).isSome = decide (y ∈ kys E) := by
  rw [kfind_any]
  unfold kys
  induction E with
  | nil => rfl
  | cons a F ih =>
    rw [List.map_cons, List.any_cons, ih]
    by_cases h : y = a.1
    · subst h; simp
    · have h' : ¬ a.1 = y := fun z => h z.symm
      simp [nk_ety, h, h']
theorem kfind_dM_val {α : Type} {w : α → PyData} : ∀ {E : List (Yg × α)} {y : Yg} {a : α}, (kys E).Nodup → (y, a) ∈ E → kfind (E.map fun e => (ety e.1, D.p (w e.2))) (ety y) = some (.p (w a))
  | [], _, _, _, h => by cases h
  | e :: E, y, a, nd, h => by
    have e1 : kys (e :: E) = e.1 :: kys E := rfl
    rw [e1, List.nodup_cons] at nd
    rcases List.mem_cons.mp h with h | h
    · subst h
      simp [kfind]
    · have hy : y ∈ kys E := List.mem_map.mpr ⟨_, h, rfl⟩
      have h1 : ¬ e.1 = y := fun z => nd.1 (by rw [z]; exact hy)
      have h2 : ¬ nk (ety e.1) = nk (ety y) := fun z => h1 ((nk_ety _ _).mp z)
      have ih := kfind_dM_val (w := w) nd.2 h
      simpa [kfind, h2] using ih
section
variable {α : Type} {w : α → PyData} {E : List (Yg × α)} {y : Yg} {a : α} {ah g : AH} {i : Nat}
theorem notIn_dM (h : ah[i]? = some (dM w E)) : gNotIn (.p (ety y)) (.r i) ah = .ok (.p (.bool (!decide (y ∈ kys E)))) ah := by
  unfold gNotIn
  rw [inOf_dct h (keyOk_ety y), kfind_dM]
theorem sub_dM (h : ah[i]? = some (dM w E)) (nd : (kys E).Nodup) (hm : (y, a) ∈ E) : gSub2 (.r i) (.p (ety y)) ah = .ok (.p (w a)) ah :=
  sub_dct h (keyOk_ety y) (kfind_dM_val nd hm)
theorem len_dM (h : ah[i]? = some (dM w E)) : gLen [.r i] ah = .ok (.p (.int E.length)) ah := by
  have h1 : dctOf ah (.r i) = some (E.map fun e => (ety e.1, D.p (w e.2))) := dctOf_r h
  have h2 : itemsOf ah (.r i) = none := by
    unfold itemsOf
    simp only [h]
    rfl
  unfold gLen
  simp only [h1, h2, List.length_map]
theorem put_dM (hy : y ∉ kys E) (hl : E.length ≤ 1000) : gDPut (.r ah.length) (.p (ety y)) (.p (w a)) (ah ++ dM w E :: g) = some (ah ++ dM w (E ++ [(y, a)]) :: g) := by
  have h1 : (ah ++ dM w E :: g)[ah.length]? = some (.dct (E.map fun e => (ety e.1, D.p (w e.2)))) := h_at _ _ _
  rw [dput_dct h1 (keyOk_ety y) (by rw [List.length_map]; omega), h_set]
  have hn : kfind (E.map fun e => (ety e.1, D.p (w e.2))) (ety y) = none := by
    have := kfind_dM w E y
    rw [decide_eq_false hy] at this
    cases q : kfind (E.map fun e => (ety e.1, D.p (w e.2))) (ety y) with
    | none => rfl
    | some _ => rw [q] at this; cases this
  rw [kput_new hn]
  unfold dM
  rw [List.map_append]
  rfl
end
def fM (q : List Yg) : AO := .lst ((q.map ety).map .p)
theorem app1M {ah g : AH} {x : AO} {q : List Yg} {y : Yg} (h : q.length ≤ 1000) : gAppend (.r (ah.length + 1)) [.p (ety y)] (ah ++ x :: fM q :: g) = .ok (.p .none) (ah ++ x :: fM (q ++ [y]) :: g) := by
  unfold gAppend fM
  simp only [h_at1, h_set1]
  rw [if_pos (by simp only [List.length_map]; omega), List.map_append, List.map_append]
  rfl
theorem pop1M {ah g : AH} {x : AO} {q : List Yg} {y : Yg} : gPopAt (.r (ah.length + 1)) [.p (.int 0)] (ah ++ x :: fM (y :: q) :: g) = .ok (.p (ety y)) (ah ++ x :: fM q :: g) := by
  unfold gPopAt fM
  simp only [h_at1, List.map_cons, h_set1]
theorem tru1M {ah g : AH} {x : AO} {q : List Yg} : truOf (ah ++ x :: fM q :: g) (.r (ah.length + 1)) = some (!q.isEmpty) := by
  unfold truOf fM
  have e : dctOf (ah ++ x :: AO.lst ((q.map ety).map .p) :: g) (.r (ah.length + 1)) = none := by unfold dctOf; simp only [h_at1]
  cases q with
  | nil => first | (simp only [h_at1, e]; rfl) | (simp [itemsOf, dctOf, h_at1])
  | cons a q => first | (simp only [h_at1, e]; rfl) | (simp [itemsOf, dctOf, h_at1])
/-- a while loop that may return -/
theorem while_rt {c : TF} {f : SF} (I : Nat → DS → AH → Prop) (Post : DS → AH → Prop) (Rr : D → AH → Prop)
    (st : ∀ m σ ah, I m σ ah → (∃ ah1, c σ ah = .ok false ah1 ∧ Post σ ah1) ∨ (∃ ah1, c σ ah = .ok true ah1 ∧ ((∃ d ah2, f σ ah1 = .rt d ah2 ∧ Rr d ah2) ∨ ∃ σ2 ah2, f σ ah1 = .nx σ2 ah2 ∧ ∃ m', m' < m ∧ I m' σ2 ah2))) :
    ∀ (n m : Nat) (σ : DS) (ah : AH), m < n → I m σ ah → (∃ σ' ah', sWhile c f n σ ah = .nx σ' ah' ∧ Post σ' ah') ∨ ∃ d ah', sWhile c f n σ ah = .rt d ah' ∧ Rr d ah'
  | 0, _, _, _, h, _ => absurd h (Nat.not_lt_zero _)
  | n + 1, m, σ, ah, h, hI => by
    rcases st m σ ah hI with ⟨ah1, e1, hp⟩ | ⟨ah1, e1, ⟨d, ah2, e2, hr⟩ | ⟨σ2, ah2, e2, m', hm, hI2⟩⟩
    · refine .inl ⟨σ, ah1, ?_, hp⟩
      unfold sWhile
      rw [e1]
      rfl
    · refine .inr ⟨d, ah2, ?_, hr⟩
      unfold sWhile
      rw [e1, t_ok, if_pos rfl, e2]
    · rcases while_rt I Post Rr st n m' σ2 ah2 (by omega) hI2 with ⟨σ', ah', e3, hp⟩ | ⟨d, ah', e3, hr⟩
      · refine .inl ⟨σ', ah', ?_, hp⟩
        unfold sWhile
        rw [e1, t_ok, if_pos rfl, e2]
        exact e3
      · refine .inr ⟨d, ah', ?_, hr⟩
        unfold sWhile
        rw [e1, t_ok, if_pos rfl, e2]
        exact e3
/-! ### the search -/
abbrev En := Yg × (Option (Yg × Sq) × Nat)
def addE (h : Yg) (d : Nat) : List Sq → List En → List En
  | [], E => E
  | s :: ss, E => if tL h s ∈ kys E then addE h d ss E else addE h d ss (E ++ [(tL h s, some (h, s), d + 1)])
def stepE (E : List En) (i : Nat) : List En := match E[i]? with
  | some e => addE e.1 e.2.2 (turnL e.1) E
  | none => E
def seqE (one : Yg) : Nat → List En
  | 0 => [(one, none, 0)]
  | n + 1 => stepE (seqE one n) n
theorem addE_pre (h : Yg) (d : Nat) : ∀ (ss : List Sq) (E : List En), ∃ R, addE h d ss E = E ++ R
  | [], E => ⟨[], by rw [List.append_nil]; rfl⟩
  | s :: ss, E => by
    unfold addE
    split
    · exact addE_pre h d ss E
    · obtain ⟨R, e⟩ := addE_pre h d ss (E ++ [(tL h s, some (h, s), d + 1)])
      exact ⟨(tL h s, some (h, s), d + 1) :: R, by rw [e, List.append_assoc]; rfl⟩
theorem stepE_pre (E : List En) (i : Nat) : ∃ R, stepE E i = E ++ R := by
  unfold stepE
  split
  · exact addE_pre _ _ _ _
  · exact ⟨[], by rw [List.append_nil]⟩
theorem seqE_pre (one : Yg) {n m : Nat} (h : n ≤ m) : ∃ R, seqE one m = seqE one n ++ R := by
  induction m with
  | zero => rw [Nat.le_zero.mp h]; exact ⟨[], by rw [List.append_nil]⟩
  | succ m ih =>
    rcases Nat.lt_or_ge n (m + 1) with c | c
    · obtain ⟨R, e⟩ := ih (by omega)
      obtain ⟨R2, e2⟩ := stepE_pre (seqE one m) m
      exact ⟨R ++ R2, by rw [seqE, e2, e, List.append_assoc]⟩
    · have : n = m + 1 := by omega
      rw [this]
      exact ⟨[], by rw [List.append_nil]⟩
theorem seqE_sub (one : Yg) {n m : Nat} (h : n ≤ m) {e : En} (he : e ∈ seqE one n) : e ∈ seqE one m := by
  obtain ⟨R, q⟩ := seqE_pre one h
  rw [q]
  exact List.mem_append_left _ he
theorem seqE_end (one : Yg) {n : Nat} (h : (seqE one n).length ≤ n) : ∀ m, n ≤ m → seqE one m = seqE one n := by
  intro m hm
  induction m with
  | zero => rw [Nat.le_zero.mp hm]
  | succ m ih =>
    rcases Nat.lt_or_ge n (m + 1) with c | c
    · have e := ih (by omega)
      rw [seqE, e]
      unfold stepE
      rw [List.getElem?_eq_none (by omega)]
    · have : n = m + 1 := by omega
      rw [this]
structure InvE (l : List Sq) (one : Yg) (E : List En) : Prop where
  nd : (kys E).Nodup
  hd : (one, (none, 0)) ∈ E
  lay : ∀ k ∈ kys E, Lay l k
  ch : ∀ e ∈ E, e = (one, (none, 0)) ∨ ∃ h s v d, e.2 = (some (h, s), d + 1) ∧ (h, (v, d)) ∈ E ∧ s ∈ turnL h ∧ e.1 = tL h s
theorem kys_app {α : Type} (A B : List (Yg × α)) : kys (A ++ B) = kys A ++ kys B := List.map_append
theorem InvE.add {l : List Sq} (fl : Flo l) {one h : Yg} {v : Option (Yg × Sq)} {d : Nat} : ∀ (ss : List Sq) (E : List En), InvE l one E → (h, (v, d)) ∈ E → (∀ s ∈ ss, s ∈ turnL h) → InvE l one (addE h d ss E)
  | [], E, I, _, _ => I
  | s :: ss, E, I, hm, hs => by
    unfold addE
    have hlay : Lay l h := I.lay h (List.mem_map.mpr ⟨_, hm, rfl⟩)
    have hst : s ∈ turnL h := hs s List.mem_cons_self
    split
    · exact InvE.add fl ss E I hm fun x hx => hs x (List.mem_cons_of_mem _ hx)
    · rename_i c
      refine InvE.add fl ss _ ⟨?_, List.mem_append_left _ I.hd, ?_, ?_⟩ (List.mem_append_left _ hm) fun x hx => hs x (List.mem_cons_of_mem _ hx)
      · rw [kys_app, List.nodup_append]
        exact ⟨I.nd, by simp [kys], fun a ha b hb e => by
          have : b = tL h s := by simpa [kys] using hb
          rw [e, this] at ha
          exact c ha⟩
      · intro k hk
        rw [kys_app] at hk
        rcases List.mem_append.mp hk with hk | hk
        · exact I.lay k hk
        · have : k = tL h s := by simpa [kys] using hk
          rw [this]
          exact lay_turn fl hlay (mem_turnL.mp hst)
      · intro e he
        rcases List.mem_append.mp he with he | he
        · rcases I.ch e he with z | ⟨h2, s2, v2, d2, z1, z2, z3, z4⟩
          · exact .inl z
          · exact .inr ⟨h2, s2, v2, d2, z1, List.mem_append_left _ z2, z3, z4⟩
        · have z : e = (tL h s, some (h, s), d + 1) := by simpa using he
          rw [z]
          exact .inr ⟨h, s, v, d, rfl, List.mem_append_left _ hm, hst, rfl⟩
theorem seqE_inv {l : List Sq} (fl : Flo l) {one : Yg} (L : Lay l one) : ∀ n, InvE l one (seqE one n)
  | 0 => ⟨by simp [seqE, kys], by simp [seqE], fun k hk => by
      have : k = one := by simpa [seqE, kys] using hk
      rw [this]; exact L, fun e he => .inl (by simpa [seqE] using he)⟩
  | n + 1 => by
    have ih := seqE_inv fl L n
    unfold seqE stepE
    split
    · rename_i e he
      exact InvE.add (v := e.2.1) fl _ _ ih (List.mem_of_getElem? he) fun s hs => hs
    · exact ih
theorem En_uniq {E : List En} (nd : (kys E).Nodup) {k : Yg} {a b : Option (Yg × Sq) × Nat} (ha : (k, a) ∈ E) (hb : (k, b) ∈ E) : a = b := by
  induction E with
  | nil => cases ha
  | cons e E ih =>
    have e1 : kys (e :: E) = e.1 :: kys E := rfl
    rw [e1, List.nodup_cons] at nd
    rcases List.mem_cons.mp ha with h1 | h1
    · rcases List.mem_cons.mp hb with h2 | h2
      · rw [← h1] at h2
        exact (Prod.mk.inj h2).2.symm
      · exact absurd (List.mem_map.mpr ⟨_, h2, rfl⟩) (by rw [← h1] at nd; exact nd.1)
    · rcases List.mem_cons.mp hb with h2 | h2
      · exact absurd (List.mem_map.mpr ⟨_, h1, rfl⟩) (by rw [← h2] at nd; exact nd.1)
      · exact ih nd.2 h1 h2
theorem nd_leY : ∀ (F U : List Yg), F.Nodup → (∀ x ∈ F, x ∈ U) → F.length ≤ U.length
  | [], _, _, _ => Nat.zero_le _
  | a :: F, U, nd, h => by
    rw [List.nodup_cons] at nd
    have hm := h a List.mem_cons_self
    have hlt : (U.erase a).length + 1 = U.length := by
      have := List.length_erase_of_mem hm
      have := List.length_pos_of_mem hm
      omega
    have := nd_leY F (U.erase a) nd.2 fun x hx => by
      have hne : x ≠ a := fun z => nd.1 (z ▸ hx)
      exact (List.mem_erase_of_ne hne).mpr (h x (List.mem_cons_of_mem _ hx))
    rw [List.length_cons]
    omega
/-- a road -/
def Walk : Yg → List Sq → Yg → Prop
  | a, [], b => a = b
  | a, s :: ss, b => s ∈ turnL a ∧ Walk (tL a s) ss b
end DL

set_option Elab.async false
set_option linter.all false
set_option maxRecDepth 100000
/-! NH: road and _law_far walked. -/
namespace DL
open PySem PySem.Spec PyProof.Rows L2
def rv : Option (Yg × Sq) → PyData
  | none => .none
  | some (h, s) => .tuple [ety h, esq s]
def w1 (a : Option (Yg × Sq) × Nat) : PyData := rv a.1
def w2 (a : Option (Yg × Sq) × Nat) : PyData := .int (a.2 : Int)
theorem app3 (ah : AH) (x y : AO) (g g1 : AH) : (ah ++ x :: y :: g) ++ g1 = ah ++ x :: y :: (g ++ g1) := by
  rw [List.append_assoc, List.cons_append, List.cons_append]
theorem kys_len {α : Type} (E : List (Yg × α)) : (kys E).length = E.length := List.length_map ..
theorem drop_snoc {E : List En} {i : Nat} {y : Yg} {a : Option (Yg × Sq) × Nat} (h : i ≤ E.length) : (kys (E ++ [(y, a)])).drop i = (kys E).drop i ++ [y] := by
  rw [kys_app, List.drop_append_of_le_length (by rw [kys_len]; exact h)]
  rfl
theorem drop_le {E : List En} {i k : Nat} (h : E.length ≤ k) : ((kys E).drop i).length ≤ k := by
  rw [List.length_drop, kys_len]
  omega
theorem turnL_len (M : Yg) : (turnL M).length ≤ M.length := by
  unfold turnL
  rw [(srtq_perm _).length_eq, List.length_map]
  exact List.length_filter_le _ _
theorem lay_len {l : List Sq} (fl : Flo l) {M : Yg} (L : Lay l M) : M.length ≤ 12 := by
  have h1 := L.c.length_eq
  rw [sqs_len] at h1
  have := fl.le
  omega
def rdBody : SF := (sSeq (sSet 8 (fCall F_turned (aCons (fVar 6) (aCons (fVar 7) aNil)))) (sIf (tB (f2 gNotIn (fVar 8) (fVar 4))) (sSeq (sDPut (fVar 4) (fVar 8) (fTup (aCons (fVar 6) (aCons (fVar 7) aNil)))) (sExpr (fMt isL gAppend (fVar 5) (aCons (fVar 8) aNil)))) sNx))
theorem rd_in {l : List Sq} (fl : Flo l) {h : Yg} (L : Lay l h) (d : Nat) (p0 p1 p2 p3 : Option D) (ah0 : AH) (i : Nat) : ∀ (ss : List Sq) (E : List En) (x7 x8 : Option D) (g : AH), (∀ s ∈ ss, s ∈ turnL h) → E.length + ss.length ≤ 1000 → i ≤ E.length →
    ∃ x7' x8' g', forL (gN 7) rdBody ((ss.map esq).map .p) [p0, p1, p2, p3, some (.r ah0.length), some (.r (ah0.length + 1)), some (.p (ety h)), x7, x8, none] (ah0 ++ dM w1 E :: fM ((kys E).drop i) :: g)
      = .nx [p0, p1, p2, p3, some (.r ah0.length), some (.r (ah0.length + 1)), some (.p (ety h)), x7', x8', none] (ah0 ++ dM w1 (addE h d ss E) :: fM ((kys (addE h d ss E)).drop i) :: g')
  | [], E, x7, x8, g, _, _, _ => ⟨x7, x8, g, rfl⟩
  | s :: ss, E, x7, x8, g, hs, hl, hi => by
    rw [List.length_cons] at hl
    have hst := hs s List.mem_cons_self
    have hh := lay_len fl L
    have hB := mem_turnL.mp hst
    obtain ⟨g1, ht⟩ := F_turned_app h (by omega) s (turn_in L hB).1 hst (ah0 ++ dM w1 E :: fM ((kys E).drop i) :: g)
    rw [app3] at ht
    have hni : gNotIn (.p (ety (tL h s))) (.r ah0.length) (ah0 ++ dM w1 E :: fM ((kys E).drop i) :: (g ++ g1)) = .ok (.p (.bool (!decide (tL h s ∈ kys E)))) (ah0 ++ dM w1 E :: fM ((kys E).drop i) :: (g ++ g1)) := notIn_dM (h_at _ _ _)
    rw [List.map_cons, List.map_cons, e_for_cons, e_gN]
    dsimp only [List.set]
    unfold addE
    by_cases c : tL h s ∈ kys E
    · rw [if_pos c]
      obtain ⟨x7', x8', g', ih⟩ := rd_in fl L d p0 p1 p2 p3 ah0 i ss E (some (.p (esq s))) (some (.p (ety (tL h s)))) (g ++ g1) (fun x hx => hs x (List.mem_cons_of_mem _ hx)) (by omega) hi
      refine ⟨x7', x8', g', ?_⟩
      have hb : rdBody [p0, p1, p2, p3, some (.r ah0.length), some (.r (ah0.length + 1)), some (.p (ety h)), some (.p (esq s)), x8, none] (ah0 ++ dM w1 E :: fM ((kys E).drop i) :: g) = .nx [p0, p1, p2, p3, some (.r ah0.length), some (.r (ah0.length + 1)), some (.p (ety h)), some (.p (esq s)), some (.p (ety (tL h s))), none] (ah0 ++ dM w1 E :: fM ((kys E).drop i) :: (g ++ g1)) := by
        unfold rdBody
        simp only [e_seq, e_nx, e_set, e_ret, e_expr, e_if, e_f2, e_call, e_nil, e_cons, e_c, e_v0, e_vs, e_set0, e_sets, e_tB, e_tru, e_notF, e_neg, b_ok, b_ex, t_ok, t_ex, s_nx, s_rt, s_bk, s_ct, s_ex, o_ok, e_rt, e_fnx, i_add, i_sub, i_mod, Int.reduceLT, i_lt, i_le, i_gt, i_ge, i_eq, i_ne, l_add, t_add, e_r1, e_for, e_gN, e_asg, e_tup, e_tupl, e_frz, ↓reduceIte, Bool.false_eq_true, Bool.not_true, Bool.not_false, e_and, e_or, e_yes, ht, hni, decide_eq_true c]
      rw [hb]
      exact ih
    · rw [if_neg c]
      obtain ⟨x7', x8', g', ih⟩ := rd_in fl L d p0 p1 p2 p3 ah0 i ss (E ++ [(tL h s, some (h, s), d + 1)]) (some (.p (esq s))) (some (.p (ety (tL h s)))) (g ++ g1) (fun x hx => hs x (List.mem_cons_of_mem _ hx)) (by rw [List.length_append, List.length_singleton]; omega) (by rw [List.length_append]; omega)
      refine ⟨x7', x8', g', ?_⟩
      have hput : gDPut (.r ah0.length) (.p (ety (tL h s))) (.p (.tuple [ety h, esq s])) (ah0 ++ dM w1 E :: fM ((kys E).drop i) :: (g ++ g1)) = some (ah0 ++ dM w1 (E ++ [(tL h s, some (h, s), d + 1)]) :: fM ((kys E).drop i) :: (g ++ g1)) := put_dM (w := w1) (a := (some (h, s), d + 1)) c (by omega)
      have happ := app1M (ah := ah0) (g := g ++ g1) (x := dM w1 (E ++ [(tL h s, some (h, s), d + 1)])) (q := (kys E).drop i) (y := tL h s) (drop_le (by omega))
      rw [← drop_snoc (a := (some (h, s), d + 1)) hi] at happ
      have hL : isL (ah0 ++ dM w1 (E ++ [(tL h s, some (h, s), d + 1)]) :: fM ((kys E).drop i) :: (g ++ g1)) (.r (ah0.length + 1)) = true := isL1
      have htup : fTup (aCons (fVar 6) (aCons (fVar 7) aNil)) [p0, p1, p2, p3, some (.r ah0.length), some (.r (ah0.length + 1)), some (.p (ety h)), some (.p (esq s)), some (.p (ety (tL h s))), none] (ah0 ++ dM w1 E :: fM ((kys E).drop i) :: (g ++ g1)) = .ok (.p (.tuple [ety h, esq s])) (ah0 ++ dM w1 E :: fM ((kys E).drop i) :: (g ++ g1)) := rfl
      have hb : rdBody [p0, p1, p2, p3, some (.r ah0.length), some (.r (ah0.length + 1)), some (.p (ety h)), some (.p (esq s)), x8, none] (ah0 ++ dM w1 E :: fM ((kys E).drop i) :: g) = .nx [p0, p1, p2, p3, some (.r ah0.length), some (.r (ah0.length + 1)), some (.p (ety h)), some (.p (esq s)), some (.p (ety (tL h s))), none] (ah0 ++ dM w1 (E ++ [(tL h s, some (h, s), d + 1)]) :: fM ((kys (E ++ [(tL h s, some (h, s), d + 1)])).drop i) :: (g ++ g1)) := by
        unfold rdBody
        rw [e_seq, e_set, e_call, e_cons, e_vs, e_vs, e_vs, e_vs, e_vs, e_vs, e_v0, b_ok, e_cons, e_vs, e_vs, e_vs, e_vs, e_vs, e_vs, e_vs, e_v0, b_ok, e_nil, b_ok, b_ok, b_ok, ht, t_ok, s_nx]
        simp only [e_sets, e_set0]
        rw [e_if, e_tB, e_f2, e_vs, e_vs, e_vs, e_vs, e_vs, e_vs, e_vs, e_vs, e_v0, b_ok, e_vs, e_vs, e_vs, e_vs, e_v0, b_ok, hni, b_ok, decide_eq_false c]
        dsimp only
        rw [t_ok, Bool.not_false, if_pos rfl, e_seq, e_dput, htup]
        simp only [e_seq, e_nx, e_set, e_ret, e_expr, e_if, e_f2, e_call, e_nil, e_cons, e_c, e_v0, e_vs, e_set0, e_sets, e_tB, e_tru, e_notF, e_neg, b_ok, b_ex, t_ok, t_ex, s_nx, s_rt, s_bk, s_ct, s_ex, o_ok, e_rt, e_fnx, i_add, i_sub, i_mod, Int.reduceLT, i_lt, i_le, i_gt, i_ge, i_eq, i_ne, l_add, t_add, e_r1, e_for, e_gN, e_asg, e_tup, e_tupl, e_frz, ↓reduceIte, Bool.false_eq_true, Bool.not_true, Bool.not_false, e_and, e_or, e_yes, hput, e_fMt, hL, happ]
      rw [hb]
      exact ih
/-- where the program's search stands -/
theorem disp_ety {fk fv : EF} {σ : DS} {ah : AH} {y : Yg} {α : Type} {w : α → PyData} {a : α} (hk : ∀ ah, fk σ ah = .ok (.p (ety y)) ah) (hv : ∀ ah, fv σ ah = .ok (.p (w a)) ah) : fDisp1 fk fv σ ah = .ok (.r ah.length) (ah ++ [dM w [(y, a)]]) := by
  unfold fDisp1
  rw [hk, b_ok, hv, b_ok, get_last]
  dsimp only
  have hput := put_dM (ah := ah) (g := []) (w := w) (E := []) (y := y) (a := a) (by simp [kys]) (by simp)
  have e : ah ++ dM w [] :: [] = ah ++ [.dct []] := rfl
  rw [e] at hput
  rw [hput]
  rfl
/-- the list of all layings of a floor of at most 200 -/
structure AllY (l : List Sq) (U : List Yg) : Prop where
  all : ∀ M, Lay l M → M ∈ U
theorem InvE.le {l : List Sq} {U : List Yg} (A : AllY l U) {one : Yg} {E : List En} (I : InvE l one E) : E.length ≤ U.length := by
  have := nd_leY (kys E) U I.nd fun x hx => A.all x (I.lay x hx)
  rwa [kys_len] at this
theorem all_in {α : Type} [DecidableEq α] : ∀ (F U : List α), F.Nodup → (∀ x ∈ F, x ∈ U) → U.length ≤ F.length → ∀ y ∈ U, y ∈ F
  | [], U, _, _, h, y, hy => by
    rw [List.length_eq_zero_iff.mp (Nat.le_zero.mp h)] at hy
    cases hy
  | a :: F, U, nd, hs, h, y, hy => by
    rw [List.nodup_cons] at nd
    have hm := hs a List.mem_cons_self
    by_cases e : y = a
    · rw [e]; exact List.mem_cons_self
    · have h1 := List.length_erase_of_mem hm
      rw [List.length_cons] at h
      have := all_in F (U.erase a) nd.2 (fun x hx => (List.mem_erase_of_ne (fun z => nd.1 (by rw [← z]; exact hx))).mpr (hs x (List.mem_cons_of_mem _ hx))) (by omega) y ((List.mem_erase_of_ne e).mpr hy)
      exact List.mem_cons_of_mem _ this
theorem F_road_ok {l : List Sq} (fl : Flo l) {one other : Yg} (L : Lay l one) (L2 : Lay l other) {U : List Yg} (A : AllY l U) {ah ahA : AH} {rs : List PyData} (hall : F_all_layings [.p (efl l)] ah = .ok (.p (.list rs)) ahA) (hlen : rs.length = U.length) (hU : U.length ≤ 200) :
    (∃ ah' n, F_road [.p (efl l), .p (ety one), .p (ety other)] ah = .ok (.p .none) ah' ∧ other ∉ kys (seqE one n) ∧ (seqE one n).length ≤ n) ∨
    (∃ ah' n v d F, F_road [.p (efl l), .p (ety one), .p (ety other)] ah = .ok (.p (.list (F.map esq))) ah' ∧ (other, (v, d)) ∈ seqE one n ∧ Walk one F other ∧ F.length = d) := by
  let σ0 (x6 x7 x8 : Option D) : DS := [some (.p (efl l)), some (.p (ety one)), some (.p (ety other)), some (.p (.int U.length)), some (.r ahA.length), some (.r (ahA.length + 1)), x6, x7, x8, none]
  have key := while_run (c := (tAndF (tTru (fVar 5)) (tAndF (tB (f2 gNotIn (fVar 2) (fVar 4))) (tB (f2 gLt (fCall gLen (aCons (fVar 4) aNil)) (fVar 3)))))) (f := (sSeq (sSet 6 (fMt isL gPopAt (fVar 5) (aCons (fC (.int 0)) aNil))) (sFor (iAny (fCall F_turns (aCons (fVar 6) aNil))) (gN 7) (sSeq (sSet 8 (fCall F_turned (aCons (fVar 6) (aCons (fVar 7) aNil)))) (sIf (tB (f2 gNotIn (fVar 8) (fVar 4))) (sSeq (sDPut (fVar 4) (fVar 8) (fTup (aCons (fVar 6) (aCons (fVar 7) aNil)))) (sExpr (fMt isL gAppend (fVar 5) (aCons (fVar 8) aNil)))) sNx)))))
    (fun m σ ah => ∃ n x6 x7 x8 g, σ = σ0 x6 x7 x8 ∧ ah = ahA ++ dM w1 (seqE one n) :: fM ((kys (seqE one n)).drop n) :: g ∧ n ≤ (seqE one n).length ∧ m = U.length - n)
    (fun σ ah => ∃ n x6 x7 x8 g, σ = σ0 x6 x7 x8 ∧ ah = ahA ++ dM w1 (seqE one n) :: fM ((kys (seqE one n)).drop n) :: g ∧ (other ∈ kys (seqE one n) ∨ (seqE one n).length ≤ n))
    (by
      rintro m σ ah ⟨n, x6, x7, x8, g, rfl, rfl, hn, hm⟩
      have I := seqE_inv fl L n
      have hE := I.le A
      have htr : tTru (fVar 5) (σ0 x6 x7 x8) (ahA ++ dM w1 (seqE one n) :: fM ((kys (seqE one n)).drop n) :: g) = .ok (!((kys (seqE one n)).drop n).isEmpty) (ahA ++ dM w1 (seqE one n) :: fM ((kys (seqE one n)).drop n) :: g) := by
        simp only [σ0, e_tru, e_vs, e_v0, b_ok, tru1M]
      have hni : gNotIn (.p (ety other)) (.r ahA.length) (ahA ++ dM w1 (seqE one n) :: fM ((kys (seqE one n)).drop n) :: g) = .ok (.p (.bool (!decide (other ∈ kys (seqE one n))))) (ahA ++ dM w1 (seqE one n) :: fM ((kys (seqE one n)).drop n) :: g) := notIn_dM (h_at _ _ _)
      have hln : gLen [.r ahA.length] (ahA ++ dM w1 (seqE one n) :: fM ((kys (seqE one n)).drop n) :: g) = .ok (.p (.int (seqE one n).length)) (ahA ++ dM w1 (seqE one n) :: fM ((kys (seqE one n)).drop n) :: g) := len_dM (w := w1) (h_at _ _ _)
      rcases Nat.lt_or_ge n (seqE one n).length with c | c
      rotate_left
      · refine .inl ⟨ahA ++ dM w1 (seqE one n) :: fM ((kys (seqE one n)).drop n) :: g, ?_, n, x6, x7, x8, g, rfl, rfl, .inr c⟩
        have he : (kys (seqE one n)).drop n = [] := List.drop_eq_nil_of_le (by rw [kys_len]; exact c)
        rw [e_and, htr, b_ok, he]
        rfl
      by_cases c2 : other ∈ kys (seqE one n)
      · refine .inl ⟨ahA ++ dM w1 (seqE one n) :: fM ((kys (seqE one n)).drop n) :: g, ?_, n, x6, x7, x8, g, rfl, rfl, .inl c2⟩
        rw [e_and, htr, b_ok]
        split
        · simp only [σ0, e_and, e_tB, e_f2, e_vs, e_v0, b_ok, hni, decide_eq_true c2, Bool.not_true, Bool.false_eq_true, ↓reduceIte]
        · rfl
      by_cases c3 : (seqE one n).length = U.length
      · exact absurd (all_in (kys (seqE one n)) U I.nd (fun x hx => A.all x (I.lay x hx)) (by rw [kys_len]; omega) other (A.all other L2)) c2
      obtain ⟨e, he⟩ : ∃ e, (seqE one n)[n]? = some e := ⟨_, List.getElem?_eq_getElem c⟩
      have hmem := List.mem_of_getElem? he
      have Le : Lay l e.1 := I.lay e.1 (List.mem_map.mpr ⟨_, hmem, rfl⟩)
      have hdr : (kys (seqE one n)).drop n = e.1 :: (kys (seqE one n)).drop (n + 1) := by
        have h1 : (kys (seqE one n))[n]? = some e.1 := by
          unfold kys
          rw [List.getElem?_map, he]
          rfl
        obtain ⟨hlt, h2⟩ := List.getElem?_eq_some_iff.mp h1
        rw [List.drop_eq_getElem_cons hlt, h2]
      have htl := turnL_len e.1
      have hl12 := lay_len fl Le
      obtain ⟨g2, hts⟩ := F_turns_ok e.1 (by omega) (ahA ++ dM w1 (seqE one n) :: fM ((kys (seqE one n)).drop (n + 1)) :: g)
      rw [app3] at hts
      obtain ⟨x7', x8', g', hin⟩ := rd_in fl Le e.2.2 (some (.p (efl l))) (some (.p (ety one))) (some (.p (ety other))) (some (.p (.int U.length))) ahA (n + 1) (turnL e.1) (seqE one n) x7 x8 (g ++ [g2]) (fun s hs => hs) (by omega) (by omega)
      have hse : seqE one (n + 1) = addE e.1 e.2.2 (turnL e.1) (seqE one n) := by
        rw [seqE]
        unfold stepE
        rw [he]
      rw [← hse] at hin
      obtain ⟨R, hR⟩ := seqE_pre one (show n ≤ n + 1 by omega)
      refine .inr ⟨ahA ++ dM w1 (seqE one n) :: fM ((kys (seqE one n)).drop n) :: g, σ0 (some (.p (ety e.1))) x7' x8', _, ?_, ?_, U.length - (n + 1), by omega, n + 1, some (.p (ety e.1)), x7', x8', g', rfl, rfl, ?_, rfl⟩
      · have hne : (!((kys (seqE one n)).drop n).isEmpty) = true := by rw [hdr]; rfl
        rw [e_and, htr, b_ok, hne, if_pos rfl, e_and]
        simp only [σ0, e_tB, e_f2, e_vs, e_v0, b_ok, hni, decide_eq_false c2, Bool.not_false, ↓reduceIte, e_call, e_cons, e_nil, hln, i_lt]
        rw [decide_eq_true (by omega)]
      · have hL : isL (ahA ++ dM w1 (seqE one n) :: fM ((kys (seqE one n)).drop n) :: g) (.r (ahA.length + 1)) = true := isL1
        have hpop : gPopAt (.r (ahA.length + 1)) [.p (.int 0)] (ahA ++ dM w1 (seqE one n) :: fM ((kys (seqE one n)).drop n) :: g) = .ok (.p (ety e.1)) (ahA ++ dM w1 (seqE one n) :: fM ((kys (seqE one n)).drop (n + 1)) :: g) := by
          rw [hdr]
          exact pop1M
        simp only [σ0, e_seq, e_nx, e_set, e_ret, e_expr, e_if, e_f2, e_call, e_nil, e_cons, e_c, e_v0, e_vs, e_set0, e_sets, e_tB, e_tru, e_notF, e_neg, b_ok, b_ex, t_ok, t_ex, s_nx, s_rt, s_bk, s_ct, s_ex, o_ok, e_rt, e_fnx, i_add, i_sub, i_mod, Int.reduceLT, i_lt, i_le, i_gt, i_ge, i_eq, i_ne, l_add, t_add, e_r1, e_for, e_gN, e_asg, e_tup, e_tupl, e_frz, ↓reduceIte, Bool.false_eq_true, Bool.not_true, Bool.not_false, e_and, e_or, e_yes, e_fMt, hL, hpop]
        rw [e_any, e_call, e_cons, e_vs, e_vs, e_vs, e_vs, e_vs, e_vs, e_v0, b_ok, e_nil, b_ok, b_ok, hts, b_ok]
        dsimp only
        rw [t_ok]
        exact hin
      · rw [hR, List.length_append]
        omega)
  obtain ⟨σ', ah', e1, n, x6, x7, x8, g, e2, e3, hend⟩ := key 100000 U.length (σ0 none none none) (ahA ++ dM w1 (seqE one 0) :: fM ((kys (seqE one 0)).drop 0) :: []) (by omega) ⟨0, none, none, none, [], rfl, rfl, by simp, by omega⟩
  subst e2 e3
  have I := seqE_inv fl L n
  have hE := I.le A
  -- the statements ahead of the loop
  have s3 : (sSet 3 (fCall gLen (aCons (fCall F_all_layings (aCons (fVar 0) aNil)) aNil))) [some (.p (efl l)), some (.p (ety one)), some (.p (ety other)), none, none, none, none, none, none, none] ah = .nx [some (.p (efl l)), some (.p (ety one)), some (.p (ety other)), some (.p (.int U.length)), none, none, none, none, none, none] ahA := by
    simp only [e_seq, e_nx, e_set, e_ret, e_expr, e_if, e_f2, e_call, e_nil, e_cons, e_c, e_v0, e_vs, e_set0, e_sets, e_tB, e_tru, e_notF, e_neg, b_ok, b_ex, t_ok, t_ex, s_nx, s_rt, s_bk, s_ct, s_ex, o_ok, e_rt, e_fnx, i_add, i_sub, i_mod, Int.reduceLT, i_lt, i_le, i_gt, i_ge, i_eq, i_ne, l_add, t_add, e_r1, e_for, e_gN, e_asg, e_tup, e_tupl, e_frz, ↓reduceIte, Bool.false_eq_true, Bool.not_true, Bool.not_false, e_and, e_or, e_yes, hall, len_l, hlen]
  have hd : fDisp1 (fVar 1) (fC .none) [some (.p (efl l)), some (.p (ety one)), some (.p (ety other)), some (.p (.int U.length)), none, none, none, none, none, none] ahA = .ok (.r ahA.length) (ahA ++ [dM w1 [(one, (none, 0))]]) := disp_ety (w := w1) (a := (none, 0)) (fun ah => rfl) (fun ah => rfl)
  have h5 : sSet 5 (fLstM (aCons (fVar 1) aNil)) [some (.p (efl l)), some (.p (ety one)), some (.p (ety other)), some (.p (.int U.length)), some (.r ahA.length), none, none, none, none, none] (ahA ++ [dM w1 [(one, (none, 0))]]) = .nx (σ0 none none none) (ahA ++ dM w1 (seqE one 0) :: fM ((kys (seqE one 0)).drop 0) :: []) := by
    simp only [e_set, e_lstM, e_cons, e_vs, e_v0, e_nil, b_ok, t_ok, List.length_cons, List.length_nil, Nat.reduceAdd, Nat.reduceLeDiff, ↓reduceIte, List.length_append, e_sets, e_set0, List.append_assoc, List.cons_append, List.nil_append]
    rfl
  have hni : gNotIn (.p (ety other)) (.r ahA.length) (ahA ++ dM w1 (seqE one n) :: fM ((kys (seqE one n)).drop n) :: g) = .ok (.p (.bool (!decide (other ∈ kys (seqE one n))))) (ahA ++ dM w1 (seqE one n) :: fM ((kys (seqE one n)).drop n) :: g) := notIn_dM (h_at _ _ _)
  obtain ⟨A2, hA2⟩ : ∃ A2, A2 = ahA ++ dM w1 (seqE one n) :: fM ((kys (seqE one n)).drop n) :: g := ⟨_, rfl⟩
  have hget : A2[ahA.length]? = some (dM w1 (seqE one n)) := by rw [hA2]; exact h_at _ _ _
  rw [← hA2] at hni e1
  by_cases c : other ∈ kys (seqE one n)
  rotate_left
  · refine .inl ⟨A2, n, ?_, c, hend.resolve_left c⟩
    rw [E_road, g_road, e_seq, s3, s_nx, e_seq, e_set, hd, t_ok, s_nx]
    simp only [e_sets, e_set0]
    rw [e_seq, h5, s_nx, e_seq, e1, s_nx, e_seq]
    simp only [σ0, e_seq, e_nx, e_set, e_ret, e_expr, e_if, e_f2, e_call, e_nil, e_cons, e_c, e_v0, e_vs, e_set0, e_sets, e_tB, e_tru, e_notF, e_neg, b_ok, b_ex, t_ok, t_ex, s_nx, s_rt, s_bk, s_ct, s_ex, o_ok, e_rt, e_fnx, i_add, i_sub, i_mod, Int.reduceLT, i_lt, i_le, i_gt, i_ge, i_eq, i_ne, l_add, t_add, e_r1, e_for, e_gN, e_asg, e_tup, e_tupl, e_frz, ↓reduceIte, Bool.false_eq_true, Bool.not_true, Bool.not_false, e_and, e_or, e_yes, hni, decide_eq_false c]
  obtain ⟨e, hem, hek⟩ := List.mem_map.mp c
  obtain ⟨k0, v0, d0⟩ := e
  dsimp only at hek
  subst hek
  have hget2 : ∀ x, (A2 ++ [x])[ahA.length]? = some (dM w1 (seqE one n)) := fun x => by
    rw [List.getElem?_append_left (List.getElem?_eq_some_iff.mp hget).1]
    exact hget
  let σ1 (cur : Yg) (x7 : Option D) : DS := [some (.p (efl l)), some (.p (ety one)), some (.p (ety cur)), some (.p (.int U.length)), some (.r ahA.length), some (.r (ahA.length + 1)), x6, x7, x8, some (.r A2.length)]
  have key2 := while_run (c := (tB (f2 gIsNot (f2 gSub2 (fVar 4) (fVar 2)) (fC .none)))) (f := (sSeq (sAsg (f2 gSub2 (fVar 4) (fVar 2)) (gPair 2 7)) (sExpr (fMt isL gAppend (fVar 9) (aCons (fVar 7) aNil)))))
    (fun m σ ah => ∃ cur v d F x7, σ = σ1 cur x7 ∧ ah = A2 ++ [fsq F] ∧ (cur, (v, d)) ∈ seqE one n ∧ Walk cur F.reverse k0 ∧ F.length + d = d0 ∧ m = d ∧ d0 ≤ 1000)
    (fun σ ah => ∃ F x7, σ = σ1 one x7 ∧ ah = A2 ++ [fsq F] ∧ Walk one F.reverse k0 ∧ F.length = d0)
    (by
      rintro m σ ah ⟨cur, v, d, F, x7, rfl, rfl, hm, hw, hlen, hmd, hd1⟩
      have hs := sub_dM (w := w1) (hget2 (fsq F)) I.nd hm
      rcases I.ch _ hm with hz | ⟨h, s, v2, d2, z1, z2, z3, z4⟩
      · have hz1 : cur = one := congrArg Prod.fst hz
        have hz2 : v = none := congrArg (fun e : En => e.2.1) hz
        have hz3 : d = 0 := congrArg (fun e : En => e.2.2) hz
        subst hz1 hz2 hz3
        refine .inl ⟨A2 ++ [fsq F], ?_, F, x7, rfl, rfl, hw, by omega⟩
        simp only [σ1, e_tB, e_f2, e_vs, e_v0, b_ok, hs, e_c]
        rfl
      · have z5 : v = some (h, s) := congrArg Prod.fst z1
        have z6 : d = d2 + 1 := congrArg Prod.snd z1
        dsimp only at z4
        subst z4 z5 z6
        refine .inr ⟨A2 ++ [fsq F], σ1 h (some (.p (esq s))), A2 ++ [fsq (F ++ [s])], ?_, ?_, d2, by omega, h, v2, d2, F ++ [s], some (.p (esq s)), rfl, rfl, z2, ?_, by rw [List.length_append, List.length_singleton]; omega, rfl, hd1⟩
        · simp only [σ1, e_tB, e_f2, e_vs, e_v0, b_ok, hs, e_c]
          rfl
        · have happ := app_fsq (ah := A2) (q := F) (x := s) (by omega)
          have hL : isL (A2 ++ [fsq F]) (.r A2.length) = true := isL_fsq
          have hg : gPair 2 7 (.p (w1 (some (h, s), d2 + 1))) (σ1 (tL h s) x7) (A2 ++ [fsq F]) = some (σ1 h (some (.p (esq s)))) := rfl
          rw [e_seq, e_asg, e_f2]
          have v4 : fVar 4 (σ1 (tL h s) x7) (A2 ++ [fsq F]) = .ok (.r ahA.length) (A2 ++ [fsq F]) := rfl
          have v2 : fVar 2 (σ1 (tL h s) x7) (A2 ++ [fsq F]) = .ok (.p (ety (tL h s))) (A2 ++ [fsq F]) := rfl
          rw [v4, b_ok, v2, b_ok, hs, t_ok, hg]
          dsimp only
          rw [s_nx]
          simp only [σ1, e_seq, e_nx, e_set, e_ret, e_expr, e_if, e_f2, e_call, e_nil, e_cons, e_c, e_v0, e_vs, e_set0, e_sets, e_tB, e_tru, e_notF, e_neg, b_ok, b_ex, t_ok, t_ex, s_nx, s_rt, s_bk, s_ct, s_ex, o_ok, e_rt, e_fnx, i_add, i_sub, i_mod, Int.reduceLT, i_lt, i_le, i_gt, i_ge, i_eq, i_ne, l_add, t_add, e_r1, e_for, e_gN, e_asg, e_tup, e_tupl, e_frz, ↓reduceIte, Bool.false_eq_true, Bool.not_true, Bool.not_false, e_and, e_or, e_yes, e_fMt, hL, happ]
        · rw [List.reverse_append, List.reverse_singleton, List.singleton_append]
          exact ⟨z3, hw⟩)
  -- the label is less than the number of entries: by the chain
  have hlab : ∀ (d : Nat) (k : Yg) (v : Option (Yg × Sq)), (k, (v, d)) ∈ seqE one n → ∃ B : List Yg, B.length = d + 1 ∧ B.Nodup ∧ (∀ x ∈ B, ∃ v' d', d' ≤ d ∧ (x, (v', d')) ∈ seqE one n) := by
    intro d
    induction d with
    | zero => exact fun k v hk => ⟨[k], rfl, by simp, fun x hx => ⟨v, 0, Nat.le_refl _, by rw [List.mem_singleton.mp hx]; exact hk⟩⟩
    | succ d ih =>
      intro k v hk
      rcases I.ch _ hk with hz | ⟨h, s, v2, d2, z1, z2, z3, z4⟩
      · exact absurd (congrArg (fun e : En => e.2.2) hz) (by simp)
      · have z6 : d + 1 = d2 + 1 := congrArg Prod.snd z1
        have z7 : d2 = d := by omega
        subst z7
        obtain ⟨B, b1, b2, b3⟩ := ih h v2 z2
        refine ⟨k :: B, by rw [List.length_cons, b1], List.nodup_cons.mpr ⟨fun hkB => ?_, b2⟩, fun x hx => ?_⟩
        · obtain ⟨v', d', y1, y2⟩ := b3 k hkB
          have := En_uniq I.nd y2 hk
          have : d' = d2 + 1 := congrArg Prod.snd this
          omega
        · rcases List.mem_cons.mp hx with hx | hx
          · exact ⟨v, d2 + 1, Nat.le_refl _, by rw [hx]; exact hk⟩
          · obtain ⟨v', d', y1, y2⟩ := b3 x hx
            exact ⟨v', d', by omega, y2⟩
  obtain ⟨B, b1, b2, b3⟩ := hlab d0 k0 v0 hem
  have hBl := nd_leY B U b2 fun x hx => by
    obtain ⟨v', d', _, y2⟩ := b3 x hx
    exact A.all x (I.lay x (List.mem_map.mpr ⟨_, y2, rfl⟩))
  obtain ⟨σ2, ah2, f1, F, x7', f2, f3, hw, hFl⟩ := key2 100000 d0 (σ1 k0 x7) (A2 ++ [fsq []]) (by omega) ⟨k0, v0, d0, [], x7, rfl, rfl, hem, rfl, by simp, rfl, by omega⟩
  subst f2 f3
  refine .inr ⟨A2 ++ [.dead], n, v0, d0, F.reverse, ?_, hem, hw, by rw [List.length_reverse, hFl]⟩
  have h9 : sSet 9 (fLstM aNil) (σ0 x6 x7 x8) A2 = .nx (σ1 k0 x7) (A2 ++ [fsq []]) := rfl
  rw [E_road, g_road, e_seq, s3, s_nx, e_seq, e_set, hd, t_ok, s_nx]
  simp only [e_sets, e_set0]
  rw [e_seq, h5, s_nx, e_seq, e1, s_nx, e_seq]
  have hif : (sIf (tB (f2 gNotIn (fVar 2) (fVar 4))) (sRet (fC .none)) sNx) (σ0 x6 x7 x8) A2 = .nx (σ0 x6 x7 x8) A2 := by
    simp only [σ0, e_seq, e_nx, e_set, e_ret, e_expr, e_if, e_f2, e_call, e_nil, e_cons, e_c, e_v0, e_vs, e_set0, e_sets, e_tB, e_tru, e_notF, e_neg, b_ok, b_ex, t_ok, t_ex, s_nx, s_rt, s_bk, s_ct, s_ex, o_ok, e_rt, e_fnx, i_add, i_sub, i_mod, Int.reduceLT, i_lt, i_le, i_gt, i_ge, i_eq, i_ne, l_add, t_add, e_r1, e_for, e_gN, e_asg, e_tup, e_tupl, e_frz, ↓reduceIte, Bool.false_eq_true, Bool.not_true, Bool.not_false, e_and, e_or, e_yes, hni, decide_eq_true c]
  have hL : isL (A2 ++ [fsq F]) (.r A2.length) = true := isL_fsq
  have hrev : gReverse (.r A2.length) (A2 ++ [fsq F]) = .ok (.p .none) (A2 ++ [fsq F.reverse]) := by
    unfold gReverse fsq
    dsimp only
    rw [get_last]
    dsimp only
    rw [set_last, List.map_reverse, List.map_reverse]
  rw [hif, s_nx, e_seq, h9, s_nx, e_seq, f1, s_nx, e_seq]
  simp only [σ1, e_seq, e_nx, e_set, e_ret, e_expr, e_if, e_f2, e_call, e_nil, e_cons, e_c, e_v0, e_vs, e_set0, e_sets, e_tB, e_tru, e_notF, e_neg, b_ok, b_ex, t_ok, t_ex, s_nx, s_rt, s_bk, s_ct, s_ex, o_ok, e_rt, e_fnx, i_add, i_sub, i_mod, Int.reduceLT, i_lt, i_le, i_gt, i_ge, i_eq, i_ne, l_add, t_add, e_r1, e_for, e_gN, e_asg, e_tup, e_tupl, e_frz, ↓reduceIte, Bool.false_eq_true, Bool.not_true, Bool.not_false, e_and, e_or, e_yes, e_fMt0, hL, hrev, frz_last]
end DL

set_option Elab.async false
set_option linter.all false
set_option maxRecDepth 100000
/-! NI: _law_far walked; the two searches compared. -/
namespace DL
open PySem PySem.Spec PyProof.Rows L2
def lfBody : SF := (sSeq (sSet 6 (fCall F__law_turned (aCons (fVar 4) (aCons (fVar 5) aNil)))) (sIf (tB (f2 gNotIn (fVar 6) (fVar 2))) (sSeq (sDPut (fVar 2) (fVar 6) (f2 gAdd (f2 gSub2 (fVar 2) (fVar 4)) (fC (.int 1)))) (sExpr (fMt isL gAppend (fVar 3) (aCons (fVar 6) aNil)))) sNx))
theorem lf_in {l : List Sq} (fl : Flo l) {one h : Yg} (L : Lay l h) (v : Option (Yg × Sq)) (d : Nat) (p0 p1 : Option D) (ah0 : AH) (i : Nat) : ∀ (ss : List Sq) (E : List En) (x5 x6 : Option D) (g : AH), InvE l one E → (h, (v, d)) ∈ E → (∀ s ∈ ss, s ∈ turnL h) → E.length + ss.length ≤ 1000 → i ≤ E.length →
    ∃ x5' x6' g', forL (gN 5) lfBody ((ss.map esq).map .p) [p0, p1, some (.r ah0.length), some (.r (ah0.length + 1)), some (.p (ety h)), x5, x6] (ah0 ++ dM w2 E :: fM ((kys E).drop i) :: g)
      = .nx [p0, p1, some (.r ah0.length), some (.r (ah0.length + 1)), some (.p (ety h)), x5', x6'] (ah0 ++ dM w2 (addE h d ss E) :: fM ((kys (addE h d ss E)).drop i) :: g')
  | [], E, x5, x6, g, _, _, _, _, _ => ⟨x5, x6, g, rfl⟩
  | s :: ss, E, x5, x6, g, I, hm, hs, hl, hi => by
    rw [List.length_cons] at hl
    have hst := hs s List.mem_cons_self
    have hh := lay_len fl L
    have hB := mem_turnL.mp hst
    have ht := F_lawTurned_ok h (by omega) s (ah0 ++ dM w2 E :: fM ((kys E).drop i) :: g)
    rw [← tL_eq (up_nd fl.up) L hB] at ht
    have hni : gNotIn (.p (ety (tL h s))) (.r ah0.length) (ah0 ++ dM w2 E :: fM ((kys E).drop i) :: g) = .ok (.p (.bool (!decide (tL h s ∈ kys E)))) (ah0 ++ dM w2 E :: fM ((kys E).drop i) :: g) := notIn_dM (h_at _ _ _)
    have hsub := sub_dM (w := w2) (h_at ah0 (dM w2 E) (fM ((kys E).drop i) :: g)) I.nd hm
    have I2 := InvE.add fl [s] E I hm (fun x hx => by rw [List.mem_singleton.mp hx]; exact hst)
    rw [List.map_cons, List.map_cons, e_for_cons, e_gN]
    dsimp only [List.set]
    unfold addE at I2 ⊢
    by_cases c : tL h s ∈ kys E
    · rw [if_pos c]
      obtain ⟨x5', x6', g', ih⟩ := lf_in fl L v d p0 p1 ah0 i ss E (some (.p (esq s))) (some (.p (ety (tL h s)))) g I hm (fun x hx => hs x (List.mem_cons_of_mem _ hx)) (by omega) hi
      refine ⟨x5', x6', g', ?_⟩
      have hb : lfBody [p0, p1, some (.r ah0.length), some (.r (ah0.length + 1)), some (.p (ety h)), some (.p (esq s)), x6] (ah0 ++ dM w2 E :: fM ((kys E).drop i) :: g) = .nx [p0, p1, some (.r ah0.length), some (.r (ah0.length + 1)), some (.p (ety h)), some (.p (esq s)), some (.p (ety (tL h s)))] (ah0 ++ dM w2 E :: fM ((kys E).drop i) :: g) := by
        unfold lfBody
        simp only [e_seq, e_nx, e_set, e_ret, e_expr, e_if, e_f2, e_call, e_nil, e_cons, e_c, e_v0, e_vs, e_set0, e_sets, e_tB, e_tru, e_notF, e_neg, b_ok, b_ex, t_ok, t_ex, s_nx, s_rt, s_bk, s_ct, s_ex, o_ok, e_rt, e_fnx, i_add, i_sub, i_mod, Int.reduceLT, i_lt, i_le, i_gt, i_ge, i_eq, i_ne, l_add, t_add, e_r1, e_for, e_gN, e_asg, e_tup, e_tupl, e_frz, ↓reduceIte, Bool.false_eq_true, Bool.not_true, Bool.not_false, e_and, e_or, e_yes, ht, hni, decide_eq_true c]
      rw [hb]
      exact ih
    · rw [if_neg c]
      rw [if_neg c] at I2
      obtain ⟨x5', x6', g', ih⟩ := lf_in fl L v d p0 p1 ah0 i ss (E ++ [(tL h s, some (h, s), d + 1)]) (some (.p (esq s))) (some (.p (ety (tL h s)))) g I2 (List.mem_append_left _ hm) (fun x hx => hs x (List.mem_cons_of_mem _ hx)) (by rw [List.length_append, List.length_singleton]; omega) (by rw [List.length_append]; omega)
      refine ⟨x5', x6', g', ?_⟩
      have hput : gDPut (.r ah0.length) (.p (ety (tL h s))) (.p (.int ((d : Int) + 1))) (ah0 ++ dM w2 E :: fM ((kys E).drop i) :: g) = some (ah0 ++ dM w2 (E ++ [(tL h s, some (h, s), d + 1)]) :: fM ((kys E).drop i) :: g) := put_dM (w := w2) (a := (some (h, s), d + 1)) c (by omega)
      have happ := app1M (ah := ah0) (g := g) (x := dM w2 (E ++ [(tL h s, some (h, s), d + 1)])) (q := (kys E).drop i) (y := tL h s) (drop_le (by omega))
      rw [← drop_snoc (a := (some (h, s), d + 1)) hi] at happ
      have hL : isL (ah0 ++ dM w2 (E ++ [(tL h s, some (h, s), d + 1)]) :: fM ((kys E).drop i) :: g) (.r (ah0.length + 1)) = true := isL1
      have hw : w2 (v, d) = .int (d : Int) := rfl
      rw [hw] at hsub
      have hb : lfBody [p0, p1, some (.r ah0.length), some (.r (ah0.length + 1)), some (.p (ety h)), some (.p (esq s)), x6] (ah0 ++ dM w2 E :: fM ((kys E).drop i) :: g) = .nx [p0, p1, some (.r ah0.length), some (.r (ah0.length + 1)), some (.p (ety h)), some (.p (esq s)), some (.p (ety (tL h s)))] (ah0 ++ dM w2 (E ++ [(tL h s, some (h, s), d + 1)]) :: fM ((kys (E ++ [(tL h s, some (h, s), d + 1)])).drop i) :: g) := by
        unfold lfBody
        simp only [e_seq, e_nx, e_set, e_ret, e_expr, e_if, e_f2, e_call, e_nil, e_cons, e_c, e_v0, e_vs, e_set0, e_sets, e_tB, e_tru, e_notF, e_neg, b_ok, b_ex, t_ok, t_ex, s_nx, s_rt, s_bk, s_ct, s_ex, o_ok, e_rt, e_fnx, i_add, i_sub, i_mod, Int.reduceLT, i_lt, i_le, i_gt, i_ge, i_eq, i_ne, l_add, t_add, e_r1, e_for, e_gN, e_asg, e_tup, e_tupl, e_frz, ↓reduceIte, Bool.false_eq_true, Bool.not_true, Bool.not_false, e_and, e_or, e_yes, ht, hni, decide_eq_false c, e_dput, hsub, hput, e_fMt, hL, happ]
      rw [hb]
      exact ih
theorem F_far_ok {l : List Sq} (fl : Flo l) {one other : Yg} (L : Lay l one) (L2 : Lay l other) {U : List Yg} (A : AllY l U) (hU : U.length ≤ 200) (ahA : AH) :
    (∃ ah' n, F__law_far [.p (ety one), .p (ety other)] ahA = .ok (.p .none) ah' ∧ other ∉ kys (seqE one n) ∧ (seqE one n).length ≤ n) ∨
    (∃ ah' n v d, F__law_far [.p (ety one), .p (ety other)] ahA = .ok (.p (.int ((d : Nat) : Int))) ah' ∧ (other, (v, d)) ∈ seqE one n) := by
  let σ0 (x4 x5 x6 : Option D) : DS := [some (.p (ety one)), some (.p (ety other)), some (.r ahA.length), some (.r (ahA.length + 1)), x4, x5, x6]
  have key := while_rt (c := (tTru (fVar 3))) (f := (sSeq (sSet 4 (fMt isL gPopAt (fVar 3) (aCons (fC (.int 0)) aNil))) (sSeq (sIf (tB (f2 gEq (fVar 4) (fVar 1))) (sRet (f2 gSub2 (fVar 2) (fVar 4))) sNx) (sFor (iAny (fCall F__law_turns (aCons (fVar 4) aNil))) (gN 5) (sSeq (sSet 6 (fCall F__law_turned (aCons (fVar 4) (aCons (fVar 5) aNil)))) (sIf (tB (f2 gNotIn (fVar 6) (fVar 2))) (sSeq (sDPut (fVar 2) (fVar 6) (f2 gAdd (f2 gSub2 (fVar 2) (fVar 4)) (fC (.int 1)))) (sExpr (fMt isL gAppend (fVar 3) (aCons (fVar 6) aNil)))) sNx))))))
    (fun m σ ah => ∃ n x4 x5 x6 g, σ = σ0 x4 x5 x6 ∧ ah = ahA ++ dM w2 (seqE one n) :: fM ((kys (seqE one n)).drop n) :: g ∧ n ≤ (seqE one n).length ∧ m = U.length - n ∧ ∀ j, j < n → (kys (seqE one n))[j]? ≠ some other)
    (fun σ ah => ∃ n x4 x5 x6, σ = σ0 x4 x5 x6 ∧ (seqE one n).length ≤ n ∧ other ∉ kys (seqE one n))
    (fun r ah => ∃ n v d, r = .p (.int ((d : Nat) : Int)) ∧ (other, (v, d)) ∈ seqE one n)
    (by
      rintro m σ ah ⟨n, x4, x5, x6, g, rfl, rfl, hn, hm, hno⟩
      have I := seqE_inv fl L n
      have hE := I.le A
      have htr : tTru (fVar 3) (σ0 x4 x5 x6) (ahA ++ dM w2 (seqE one n) :: fM ((kys (seqE one n)).drop n) :: g) = .ok (!((kys (seqE one n)).drop n).isEmpty) (ahA ++ dM w2 (seqE one n) :: fM ((kys (seqE one n)).drop n) :: g) := by
        simp only [σ0, e_tru, e_vs, e_v0, b_ok, tru1M]
      rcases Nat.lt_or_ge n (seqE one n).length with c | c
      rotate_left
      · refine .inl ⟨ahA ++ dM w2 (seqE one n) :: fM ((kys (seqE one n)).drop n) :: g, ?_, n, x4, x5, x6, rfl, c, fun hk => ?_⟩
        · have he : (kys (seqE one n)).drop n = [] := List.drop_eq_nil_of_le (by rw [kys_len]; exact c)
          rw [htr, he]
          rfl
        · obtain ⟨j, hj, ej⟩ := List.getElem_of_mem hk
          rw [kys_len] at hj
          exact hno j (by omega) (by rw [← ej]; exact List.getElem?_eq_getElem _)
      obtain ⟨e, he⟩ : ∃ e, (seqE one n)[n]? = some e := ⟨_, List.getElem?_eq_getElem c⟩
      have hmem := List.mem_of_getElem? he
      obtain ⟨ek, ev, ed⟩ := e
      have Le : Lay l ek := I.lay ek (List.mem_map.mpr ⟨_, hmem, rfl⟩)
      have hkn : (kys (seqE one n))[n]? = some ek := by
        unfold kys
        rw [List.getElem?_map, he]
        rfl
      have hdr : (kys (seqE one n)).drop n = ek :: (kys (seqE one n)).drop (n + 1) := by
        obtain ⟨hlt, h2⟩ := List.getElem?_eq_some_iff.mp hkn
        rw [List.drop_eq_getElem_cons hlt, h2]
      have hne : (!((kys (seqE one n)).drop n).isEmpty) = true := by rw [hdr]; rfl
      have hL : isL (ahA ++ dM w2 (seqE one n) :: fM ((kys (seqE one n)).drop n) :: g) (.r (ahA.length + 1)) = true := isL1
      have hpop : gPopAt (.r (ahA.length + 1)) [.p (.int 0)] (ahA ++ dM w2 (seqE one n) :: fM ((kys (seqE one n)).drop n) :: g) = .ok (.p (ety ek)) (ahA ++ dM w2 (seqE one n) :: fM ((kys (seqE one n)).drop (n + 1)) :: g) := by
        rw [hdr]
        exact pop1M
      refine .inr ⟨ahA ++ dM w2 (seqE one n) :: fM ((kys (seqE one n)).drop n) :: g, by rw [htr, hne], ?_⟩
      have hs4 : (sSet 4 (fMt isL gPopAt (fVar 3) (aCons (fC (.int 0)) aNil))) (σ0 x4 x5 x6) (ahA ++ dM w2 (seqE one n) :: fM ((kys (seqE one n)).drop n) :: g) = .nx (σ0 (some (.p (ety ek))) x5 x6) (ahA ++ dM w2 (seqE one n) :: fM ((kys (seqE one n)).drop (n + 1)) :: g) := by
        simp only [σ0, e_seq, e_nx, e_set, e_ret, e_expr, e_if, e_f2, e_call, e_nil, e_cons, e_c, e_v0, e_vs, e_set0, e_sets, e_tB, e_tru, e_notF, e_neg, b_ok, b_ex, t_ok, t_ex, s_nx, s_rt, s_bk, s_ct, s_ex, o_ok, e_rt, e_fnx, i_add, i_sub, i_mod, Int.reduceLT, i_lt, i_le, i_gt, i_ge, i_eq, i_ne, l_add, t_add, e_r1, e_for, e_gN, e_asg, e_tup, e_tupl, e_frz, ↓reduceIte, Bool.false_eq_true, Bool.not_true, Bool.not_false, e_and, e_or, e_yes, e_fMt, hL, hpop]
      by_cases c2 : ek = other
      · subst c2
        refine .inl ⟨.p (.int (ed : Int)), ahA ++ dM w2 (seqE one n) :: fM ((kys (seqE one n)).drop (n + 1)) :: g, ?_, n, ev, ed, rfl, hmem⟩
        have hsub := sub_dM (w := w2) (h_at ahA (dM w2 (seqE one n)) (fM ((kys (seqE one n)).drop (n + 1)) :: g)) I.nd hmem
        have hw : w2 (ev, ed) = .int (ed : Int) := rfl
        rw [hw] at hsub
        rw [e_seq, hs4, s_nx]
        simp only [σ0, e_seq, e_nx, e_set, e_ret, e_expr, e_if, e_f2, e_call, e_nil, e_cons, e_c, e_v0, e_vs, e_set0, e_sets, e_tB, e_tru, e_notF, e_neg, b_ok, b_ex, t_ok, t_ex, s_nx, s_rt, s_bk, s_ct, s_ex, o_ok, e_rt, e_fnx, i_add, i_sub, i_mod, Int.reduceLT, i_lt, i_le, i_gt, i_ge, i_eq, i_ne, l_add, t_add, e_r1, e_for, e_gN, e_asg, e_tup, e_tupl, e_frz, ↓reduceIte, Bool.false_eq_true, Bool.not_true, Bool.not_false, e_and, e_or, e_yes, eq_etys, decide_true, hsub]
      · have htl := turnL_len ek
        have hl12 := lay_len fl Le
        obtain ⟨g2, hts⟩ := F_lawTurns_app ek (ahA ++ dM w2 (seqE one n) :: fM ((kys (seqE one n)).drop (n + 1)) :: g)
        rw [app3, ← turns_eq fl Le] at hts
        obtain ⟨x5', x6', g', hin⟩ := lf_in fl Le ev ed (some (.p (ety one))) (some (.p (ety other))) ahA (n + 1) (turnL ek) (seqE one n) x5 x6 (g ++ g2) I hmem (fun s hs => hs) (by omega) (by omega)
        have hse : seqE one (n + 1) = addE ek ed (turnL ek) (seqE one n) := by
          rw [seqE]
          unfold stepE
          rw [he]
        rw [← hse] at hin
        obtain ⟨R, hR⟩ := seqE_pre one (show n ≤ n + 1 by omega)
        refine .inr ⟨σ0 (some (.p (ety ek))) x5' x6', _, ?_, U.length - (n + 1), by omega, n + 1, some (.p (ety ek)), x5', x6', g', rfl, rfl, ?_, rfl, ?_⟩
        · rw [e_seq, hs4, s_nx]
          simp only [σ0, e_seq, e_nx, e_set, e_ret, e_expr, e_if, e_f2, e_call, e_nil, e_cons, e_c, e_v0, e_vs, e_set0, e_sets, e_tB, e_tru, e_notF, e_neg, b_ok, b_ex, t_ok, t_ex, s_nx, s_rt, s_bk, s_ct, s_ex, o_ok, e_rt, e_fnx, i_add, i_sub, i_mod, Int.reduceLT, i_lt, i_le, i_gt, i_ge, i_eq, i_ne, l_add, t_add, e_r1, e_for, e_gN, e_asg, e_tup, e_tupl, e_frz, ↓reduceIte, Bool.false_eq_true, Bool.not_true, Bool.not_false, e_and, e_or, e_yes, eq_etys, decide_eq_false c2]
          rw [e_any, e_call, e_cons, e_vs, e_vs, e_vs, e_vs, e_v0, b_ok, e_nil, b_ok, b_ok, hts, b_ok]
          dsimp only
          rw [t_ok]
          exact hin
        · rw [hR, List.length_append]
          omega
        · intro j hj
          rw [hR, kys_app]
          have hjl : j < (kys (seqE one n)).length := by rw [kys_len]; omega
          rw [List.getElem?_append_left hjl]
          rcases Nat.lt_or_ge j n with z | z
          · exact hno j z
          · have : j = n := by omega
            rw [this, hkn]
            exact fun q => c2 (Option.some.inj q))
  have hd : fDisp1 (fVar 0) (fC (.int 0)) [some (.p (ety one)), some (.p (ety other)), none, none, none, none, none] ahA = .ok (.r ahA.length) (ahA ++ [dM w2 [(one, (none, 0))]]) := disp_ety (w := w2) (a := (none, 0)) (fun ah => rfl) (fun ah => rfl)
  have h5 : sSet 3 (fLstM (aCons (fVar 0) aNil)) [some (.p (ety one)), some (.p (ety other)), some (.r ahA.length), none, none, none, none] (ahA ++ [dM w2 [(one, (none, 0))]]) = .nx (σ0 none none none) (ahA ++ dM w2 (seqE one 0) :: fM ((kys (seqE one 0)).drop 0) :: []) := by
    simp only [e_set, e_lstM, e_cons, e_vs, e_v0, e_nil, b_ok, t_ok, List.length_cons, List.length_nil, Nat.reduceAdd, Nat.reduceLeDiff, ↓reduceIte, List.length_append, e_sets, e_set0, List.append_assoc, List.cons_append, List.nil_append]
    rfl
  rcases key 100000 U.length (σ0 none none none) (ahA ++ dM w2 (seqE one 0) :: fM ((kys (seqE one 0)).drop 0) :: []) (by omega) ⟨0, none, none, none, [], rfl, rfl, by simp, by omega, fun j hj => absurd hj (Nat.not_lt_zero _)⟩ with ⟨σ', ah', e1, n, x4, x5, x6, e2, e3, e4⟩ | ⟨r, ah', e1, n, v, d, e2, e3⟩
  · subst e2
    refine .inl ⟨ah', n, ?_, e4, e3⟩
    rw [E__law_far, g__law_far, e_seq, e_set, hd, t_ok, s_nx]
    simp only [e_sets, e_set0]
    rw [e_seq, h5, s_nx, e_seq, e1, s_nx]
    rfl
  · subst e2
    refine .inr ⟨ah', n, v, d, ?_, e3⟩
    rw [E__law_far, g__law_far, e_seq, e_set, hd, t_ok, s_nx]
    simp only [e_sets, e_set0]
    rw [e_seq, h5, s_nx, e_seq, e1, s_rt, e_rt]
/-- two searches that have come to an end or to the other one say the same -/
theorem seqE_same {l : List Sq} (fl : Flo l) {one other : Yg} (L : Lay l one) {n m : Nat} {v v' : Option (Yg × Sq)} {d d' : Nat} (h1 : (other, (v, d)) ∈ seqE one n) (h2 : (other, (v', d')) ∈ seqE one m) : d = d' := by
  have I := seqE_inv fl L (max n m)
  have a := seqE_sub one (Nat.le_max_left n m) h1
  have b := seqE_sub one (Nat.le_max_right n m) h2
  exact congrArg Prod.snd (En_uniq I.nd a b)
theorem seqE_not {one other : Yg} {n m : Nat} {v : Option (Yg × Sq)} {d : Nat} (h1 : (other, (v, d)) ∈ seqE one n) (h2 : other ∉ kys (seqE one m)) (h3 : (seqE one m).length ≤ m) : False := by
  apply h2
  rcases Nat.le_total n m with c | c
  · exact List.mem_map.mpr ⟨_, seqE_sub one c h1, rfl⟩
  · rw [seqE_end one h3 n c] at h1
    exact List.mem_map.mpr ⟨_, h1, rfl⟩
end DL

set_option Elab.async false
set_option linter.all false
set_option maxRecDepth 100000
namespace k08
open PySem PySem.Spec PyProof.Rows L2 DL
def P_FloorError : Nat → Option Bool := fun n => match n with | 3 => some true | 4 => some true | 0 => some true | _ => none
def R2_TooMany_ValueError : Nat → Option (Bool × Bool) := fun n => match n with | 3 => some (true, true) | 4 => some (false, true) | 0 => some (false, true) | _ => none
def g__law_told : SF := (sTryT2 P_FloorError R2_TooMany_ValueError (sRet (fCall F_road (aCons (fVar 0) (aCons (fVar 1) (aCons (fVar 2) aNil))))))
def F__law_told : DF := fDef 4 g__law_told
theorem E__law_told (d0 d1 d2 : D) (ah : AH) : F__law_told [d0, d1, d2] ah = (g__law_told [some d0, some d1, some d2, none] ah).fin := rfl
def g_law : SF := (sSeq (sSet 1 (fCall F__law_floor (aCons (fVar 0) (aCons (fC (.int 3)) aNil)))) (sSeq (sSet 2 (fCall F__law_all (aCons (fVar 1) aNil))) (sSeq (sIf (tNotF (tTru (fVar 2))) (sRet (fC (.bool true))) sNx) (sSeq (sSet 3 (f2 gSub2 (fVar 2) (f2 gMod (fCall F__law_cell (aCons (fVar 0) (aCons (fC (.int 0)) aNil))) (fCall gLen (aCons (fVar 2) aNil))))) (sSeq (sSet 4 (f2 gSub2 (fVar 2) (f2 gMod (fCall F__law_cell (aCons (fVar 0) (aCons (fC (.int 1)) aNil))) (fCall gLen (aCons (fVar 2) aNil))))) (sSeq (sSet 5 (fCall F__law_told (aCons (fVar 1) (aCons (fVar 3) (aCons (fVar 4) aNil))))) (sSeq (sIf (tB (f2 gGt (fCall gLen (aCons (fVar 2) aNil)) (fC (.int 200)))) (sRet (f2 gEq (fVar 5) (fLst (aCons (fC (.bool true)) (aCons (fC (.bool true)) aNil))))) sNx) (sSeq (sSet 6 (fC .none)) (sSeq (sIf (tB (f2 gLe (fCall gLen (aCons (fVar 2) aNil)) (fC (.int 30)))) (sSeq (sSet 6 (fCall F__law_far (aCons (fVar 3) (aCons (fVar 4) aNil)))) (sIf (tOrF (tB (f2 gNe (f2 gIs (fVar 5) (fC .none)) (f2 gIs (fVar 6) (fC .none)))) (tAndF (tB (f2 gIsNot (fVar 6) (fC .none))) (tB (f2 gNe (fCall gLen (aCons (fVar 5) aNil)) (fVar 6))))) (sRet (fC (.bool false))) sNx)) sNx) (sSeq (sIf (tB (f2 gIs (fVar 5) (fC .none))) (sRet (fC (.bool true))) sNx) (sSeq (sSet 7 (fVar 3)) (sSeq (sFor (iAny (fVar 5)) (gN 8) (sSeq (sIf (tB (f2 gNotIn (fVar 8) (fCall F__law_turns (aCons (fVar 7) aNil)))) (sRet (fC (.bool false))) sNx) (sSet 7 (fCall F__law_turned (aCons (fVar 7) (aCons (fVar 8) aNil)))))) (sRet (fAnd (fIsi "list" (fVar 5)) (f2 gEq (fVar 7) (fVar 4))))))))))))))))
def F_law : DF := fDef 9 g_law
theorem E_law (d0 : D) (ah : AH) : F_law [d0] ah = (g_law [some d0, none, none, none, none, none, none, none, none] ah).fin := rfl
end k08

set_option Elab.async false
set_option linter.all false
set_option maxRecDepth 100000
namespace k08
open PySem PySem.Spec PyProof.Rows L2 DL
theorem told_ok (x y z r : PyData) (ah ah' : AH) (h : F_road [.p x, .p y, .p z] ah = .ok (.p r) ah') : F__law_told [.p x, .p y, .p z] ah = .ok (.p r) ah' := by
  have hf : (sRet (fCall F_road (aCons (fVar 0) (aCons (fVar 1) (aCons (fVar 2) aNil))))) [some (.p x), some (.p y), some (.p z), none] ah = .rt (.p r) ah' := by
    simp only [e_ret, e_call, e_cons, e_nil, e_vs, e_v0, b_ok, h, t_ok]
  rw [E__law_told]
  show O.fin (tryO2 P_FloorError R2_TooMany_ValueError ((sRet (fCall F_road (aCons (fVar 0) (aCons (fVar 1) (aCons (fVar 2) aNil))))) [some (.p x), some (.p y), some (.p z), none] ah)) = _
  rw [hf]
  rfl
theorem told_no (x y z : PyData) (ah ah' : AH) (h : F_all_layings [.p x] ah = .ex 3 ah') : F__law_told [.p x, .p y, .p z] ah = .ok (.p (.list [.bool true, .bool true])) ah' := by
  have hr : F_road [.p x, .p y, .p z] ah = .ex 3 ah' := by
    rw [E_road, g_road]
    simp only [e_seq, e_nx, e_set, e_ret, e_expr, e_if, e_f2, e_call, e_nil, e_cons, e_c, e_v0, e_vs, e_set0, e_sets, e_tB, e_tru, e_notF, e_neg, b_ok, b_ex, t_ok, t_ex, s_nx, s_rt, s_bk, s_ct, s_ex, o_ok, e_rt, e_fnx, i_add, i_sub, i_mod, Int.reduceLT, i_lt, i_le, i_gt, i_ge, i_eq, i_ne, l_add, t_add, e_r1, e_for, e_gN, e_asg, e_tup, e_tupl, e_frz, ↓reduceIte, Bool.false_eq_true, Bool.not_true, Bool.not_false, e_and, e_or, e_yes, h, e_fex]
  have hf : (sRet (fCall F_road (aCons (fVar 0) (aCons (fVar 1) (aCons (fVar 2) aNil))))) [some (.p x), some (.p y), some (.p z), none] ah = .ex 3 [some (.p x), some (.p y), some (.p z), none] ah' := by
    simp only [e_ret, e_call, e_cons, e_nil, e_vs, e_v0, b_ok, hr, t_ex]
  rw [E__law_told]
  show O.fin (tryO2 P_FloorError R2_TooMany_ValueError ((sRet (fCall F_road (aCons (fVar 0) (aCons (fVar 1) (aCons (fVar 2) aNil))))) [some (.p x), some (.p y), some (.p z), none] ah)) = _
  rw [hf]
  rfl
def wlBody : SF := (sSeq (sIf (tB (f2 gNotIn (fVar 8) (fCall F__law_turns (aCons (fVar 7) aNil)))) (sRet (fC (.bool false))) sNx) (sSet 7 (fCall F__law_turned (aCons (fVar 7) (aCons (fVar 8) aNil)))))
theorem walk_loop {l : List Sq} (fl : Flo l) (p0 p1 p2 p3 p4 p5 p6 : Option D) (b : Yg) : ∀ (F : List Sq) (a : Yg) (x8 : Option D) (ah : AH), Lay l a → Walk a F b → ∃ x8' ah', forL (gN 8) wlBody ((F.map esq).map .p) [p0, p1, p2, p3, p4, p5, p6, some (.p (ety a)), x8] ah = .nx [p0, p1, p2, p3, p4, p5, p6, some (.p (ety b)), x8'] ah'
  | [], a, x8, ah, L, h => ⟨x8, ah, by
    have : a = b := h
    rw [this]
    rfl⟩
  | s :: F, a, x8, ah, L, h => by
    obtain ⟨h1, h2⟩ := h
    have hB := mem_turnL.mp h1
    have hl := lay_len fl L
    obtain ⟨g, ht⟩ := F_lawTurns_app a ah
    rw [← turns_eq fl L] at ht
    have htd := F_lawTurned_ok a (by omega) s (ah ++ g)
    rw [← tL_eq (up_nd fl.up) L hB] at htd
    obtain ⟨x8', ah', ih⟩ := walk_loop fl p0 p1 p2 p3 p4 p5 p6 b F (tL a s) (some (.p (esq s))) (ah ++ g) (lay_turn fl L hB) h2
    refine ⟨x8', ah', ?_⟩
    have hb : wlBody [p0, p1, p2, p3, p4, p5, p6, some (.p (ety a)), some (.p (esq s))] ah = .nx [p0, p1, p2, p3, p4, p5, p6, some (.p (ety (tL a s))), some (.p (esq s))] (ah ++ g) := by
      unfold wlBody
      simp only [e_seq, e_nx, e_set, e_ret, e_expr, e_if, e_f2, e_call, e_nil, e_cons, e_c, e_v0, e_vs, e_set0, e_sets, e_tB, e_tru, e_notF, e_neg, b_ok, b_ex, t_ok, t_ex, s_nx, s_rt, s_bk, s_ct, s_ex, o_ok, e_rt, e_fnx, i_add, i_sub, i_mod, Int.reduceLT, i_lt, i_le, i_gt, i_ge, i_eq, i_ne, l_add, t_add, e_r1, e_for, e_gN, e_asg, e_tup, e_tupl, e_frz, ↓reduceIte, Bool.false_eq_true, Bool.not_true, Bool.not_false, e_and, e_or, e_yes, ht, notIn_sqs, decide_eq_true h1, htd]
    rw [List.map_cons, List.map_cons, e_for_cons, e_gN]
    dsimp only [List.set]
    rw [hb]
    exact ih
theorem law_ok : LawOk F_law := by
  intro ns hn
  obtain ⟨l, g1, hf, fl⟩ := F_floor_ok ns 3 []
  obtain ⟨rs, g2, ha, p⟩ := F_all_ok l fl.ne fl.le ([] ++ [g1])
  have hf' : F__law_floor [.s ns, .p (.int 3)] [] = _ := hf
  have hle := fl.le
  have hlay := lay_of fl p
  have A : AllY l rs := ⟨fun M L => ev_has fl p L⟩
  have hcn : (rs.length : Int) = cN l := by
    rw [p.length_eq, List.length_map]
    exact evF_len 26 l (by omega) (up_nd fl.up)
  have h1 : (sSet 1 (fCall F__law_floor (aCons (fVar 0) (aCons (fC (.int 3)) aNil)))) [some (.s ns), none, none, none, none, none, none, none, none] [] = .nx [some (.s ns), some (.p (efl l)), none, none, none, none, none, none, none] ([] ++ [g1]) := by
    simp only [e_set, e_call, e_cons, e_nil, e_c, e_v0, b_ok, hf', t_ok, e_sets, e_set0]
  have h2 : (sSet 2 (fCall F__law_all (aCons (fVar 1) aNil))) [some (.s ns), some (.p (efl l)), none, none, none, none, none, none, none] ([] ++ [g1]) = .nx [some (.s ns), some (.p (efl l)), some (.p (.list (rs.map ety))), none, none, none, none, none, none] ([] ++ [g1] ++ [g2]) := by
    simp only [e_set, e_call, e_cons, e_nil, e_vs, e_v0, b_ok, ha, t_ok, e_sets, e_set0]
  obtain ⟨ah0, hah⟩ : ∃ ah0, ah0 = [] ++ [g1] ++ [g2] := ⟨_, rfl⟩
  rw [← hah] at h2
  by_cases hrl0 : rs = []
  · have htr : truOf ah0 (.p (.list (rs.map ety))) = some false := by rw [hrl0]; rfl
    refine ⟨ah0, ?_⟩
    rw [E_law, g_law, e_seq, h1, s_nx, e_seq, h2, s_nx, e_seq]
    simp only [e_seq, e_nx, e_set, e_ret, e_expr, e_if, e_f2, e_call, e_nil, e_cons, e_c, e_v0, e_vs, e_set0, e_sets, e_tB, e_tru, e_notF, e_neg, b_ok, b_ex, t_ok, t_ex, s_nx, s_rt, s_bk, s_ct, s_ex, o_ok, e_rt, e_fnx, i_add, i_sub, i_mod, Int.reduceLT, i_lt, i_le, i_gt, i_ge, i_eq, i_ne, l_add, t_add, e_r1, e_for, e_gN, e_asg, e_tup, e_tupl, e_frz, ↓reduceIte, Bool.false_eq_true, Bool.not_true, Bool.not_false, e_and, e_or, e_yes, htr]
  have hrl : 0 < rs.length := List.length_pos_iff.mpr hrl0
  obtain ⟨i, hi, ei⟩ := mod_nat (ns.getD 0 0) rs.length hrl
  obtain ⟨j, hj, ej⟩ := mod_nat (ns.getD 1 0) rs.length hrl
  have L := hlay rs[i] (List.getElem_mem hi)
  have L2 := hlay rs[j] (List.getElem_mem hj)
  obtain ⟨M, hM⟩ : ∃ M, M = rs[i] := ⟨_, rfl⟩
  obtain ⟨N, hN⟩ : ∃ N, N = rs[j] := ⟨_, rfl⟩
  rw [← hM] at L
  rw [← hN] at L2
  have htr : truOf ah0 (.p (.list (rs.map ety))) = some true := by
    obtain ⟨y, ys, e⟩ := List.exists_cons_of_ne_nil hrl0
    rw [e]; rfl
  have h3 : (sIf (tNotF (tTru (fVar 2))) (sRet (fC (.bool true))) sNx) [some (.s ns), some (.p (efl l)), some (.p (.list (rs.map ety))), none, none, none, none, none, none] ah0 = .nx [some (.s ns), some (.p (efl l)), some (.p (.list (rs.map ety))), none, none, none, none, none, none] ah0 := by
    rw [e_if, e_notF, e_tru, e_vs, e_vs, e_v0, b_ok, htr]
    rfl
  have hlr : ∀ ah, gLen [.p (.list (rs.map ety))] ah = .ok (.p (.int rs.length)) ah := fun ah => by rw [len_l, List.length_map]
  have hgi : ∀ ah, gSub2 (.p (.list (rs.map ety))) (.p (.int (i : Int))) ah = .ok (.p (ety M)) ah := fun ah => sub_i (by rw [List.getElem?_map, List.getElem?_eq_getElem hi, hM]; rfl) ah
  have hgj : ∀ ah, gSub2 (.p (.list (rs.map ety))) (.p (.int (j : Int))) ah = .ok (.p (ety N)) ah := fun ah => sub_i (by rw [List.getElem?_map, List.getElem?_eq_getElem hj, hN]; rfl) ah
  have h4 : (sSet 3 (f2 gSub2 (fVar 2) (f2 gMod (fCall F__law_cell (aCons (fVar 0) (aCons (fC (.int 0)) aNil))) (fCall gLen (aCons (fVar 2) aNil))))) [some (.s ns), some (.p (efl l)), some (.p (.list (rs.map ety))), none, none, none, none, none, none] ah0 = .nx [some (.s ns), some (.p (efl l)), some (.p (.list (rs.map ety))), some (.p (ety M)), none, none, none, none, none] ah0 := by
    simp only [e_seq, e_nx, e_set, e_ret, e_expr, e_if, e_f2, e_call, e_nil, e_cons, e_c, e_v0, e_vs, e_set0, e_sets, e_tB, e_tru, e_notF, e_neg, b_ok, b_ex, t_ok, t_ex, s_nx, s_rt, s_bk, s_ct, s_ex, o_ok, e_rt, e_fnx, i_add, i_sub, i_mod, Int.reduceLT, i_lt, i_le, i_gt, i_ge, i_eq, i_ne, l_add, t_add, e_r1, e_for, e_gN, e_asg, e_tup, e_tupl, e_frz, ↓reduceIte, Bool.false_eq_true, Bool.not_true, Bool.not_false, e_and, e_or, e_yes, cell0, cell1, cell2, cell3, cell4, cell5, cell6, cell7, cell8, cell9, cell10, cell11, cell12, cell13, cell14, cell15, hlr, i_mod (show (0 : Int) < (rs.length : Int) by omega), ei, hgi]
  have h5 : (sSet 4 (f2 gSub2 (fVar 2) (f2 gMod (fCall F__law_cell (aCons (fVar 0) (aCons (fC (.int 1)) aNil))) (fCall gLen (aCons (fVar 2) aNil))))) [some (.s ns), some (.p (efl l)), some (.p (.list (rs.map ety))), some (.p (ety M)), none, none, none, none, none] ah0 = .nx [some (.s ns), some (.p (efl l)), some (.p (.list (rs.map ety))), some (.p (ety M)), some (.p (ety N)), none, none, none, none] ah0 := by
    simp only [e_seq, e_nx, e_set, e_ret, e_expr, e_if, e_f2, e_call, e_nil, e_cons, e_c, e_v0, e_vs, e_set0, e_sets, e_tB, e_tru, e_notF, e_neg, b_ok, b_ex, t_ok, t_ex, s_nx, s_rt, s_bk, s_ct, s_ex, o_ok, e_rt, e_fnx, i_add, i_sub, i_mod, Int.reduceLT, i_lt, i_le, i_gt, i_ge, i_eq, i_ne, l_add, t_add, e_r1, e_for, e_gN, e_asg, e_tup, e_tupl, e_frz, ↓reduceIte, Bool.false_eq_true, Bool.not_true, Bool.not_false, e_and, e_or, e_yes, cell0, cell1, cell2, cell3, cell4, cell5, cell6, cell7, cell8, cell9, cell10, cell11, cell12, cell13, cell14, cell15, hlr, i_mod (show (0 : Int) < (rs.length : Int) by omega), ej, hgj]
  have h6 : ∀ (r : PyData) (ah1 : AH), F__law_told [.p (efl l), .p (ety M), .p (ety N)] ah0 = .ok (.p r) ah1 → (sSet 5 (fCall F__law_told (aCons (fVar 1) (aCons (fVar 3) (aCons (fVar 4) aNil))))) [some (.s ns), some (.p (efl l)), some (.p (.list (rs.map ety))), some (.p (ety M)), some (.p (ety N)), none, none, none, none] ah0 = .nx [some (.s ns), some (.p (efl l)), some (.p (.list (rs.map ety))), some (.p (ety M)), some (.p (ety N)), some (.p r), none, none, none] ah1 := fun r ah1 h => by
    simp only [e_seq, e_nx, e_set, e_ret, e_expr, e_if, e_f2, e_call, e_nil, e_cons, e_c, e_v0, e_vs, e_set0, e_sets, e_tB, e_tru, e_notF, e_neg, b_ok, b_ex, t_ok, t_ex, s_nx, s_rt, s_bk, s_ct, s_ex, o_ok, e_rt, e_fnx, i_add, i_sub, i_mod, Int.reduceLT, i_lt, i_le, i_gt, i_ge, i_eq, i_ne, l_add, t_add, e_r1, e_for, e_gN, e_asg, e_tup, e_tupl, e_frz, ↓reduceIte, Bool.false_eq_true, Bool.not_true, Bool.not_false, e_and, e_or, e_yes, h]
  have hTE : ∀ ah, gEq (.p (.list [.bool true, .bool true])) (.p (.list [.bool true, .bool true])) ah = .ok (.p (.bool true)) ah := fun ah => rfl
  have hl2 : ∀ (σ : DS) (ah : AH), fLst (aCons (fC (.bool true)) (aCons (fC (.bool true)) aNil)) σ ah = .ok (.p (.list [.bool true, .bool true])) ah := fun σ ah => rfl
  rcases F_allLayings_ok fl ah0 with ⟨hbig, ah1, hal⟩ | ⟨hsm, ys, ah1, hal, hyl, _, _⟩
  · have ht := told_no (efl l) (ety M) (ety N) ah0 ah1 hal
    refine ⟨ah1, ?_⟩
    rw [E_law, g_law, e_seq, h1, s_nx, e_seq, h2, s_nx, e_seq, h3, s_nx, e_seq, h4, s_nx, e_seq, h5, s_nx, e_seq, h6 _ _ ht, s_nx, e_seq]
    have c : decide ((200 : Int) < (rs.length : Int)) = true := decide_eq_true (by omega)
    simp only [e_seq, e_nx, e_set, e_ret, e_expr, e_if, e_f2, e_call, e_nil, e_cons, e_c, e_v0, e_vs, e_set0, e_sets, e_tB, e_tru, e_notF, e_neg, b_ok, b_ex, t_ok, t_ex, s_nx, s_rt, s_bk, s_ct, s_ex, o_ok, e_rt, e_fnx, i_add, i_sub, i_mod, Int.reduceLT, i_lt, i_le, i_gt, i_ge, i_eq, i_ne, l_add, t_add, e_r1, e_for, e_gN, e_asg, e_tup, e_tupl, e_frz, ↓reduceIte, Bool.false_eq_true, Bool.not_true, Bool.not_false, e_and, e_or, e_yes, hlr, c, hl2, hTE]
  have hU : rs.length ≤ 200 := by omega
  have hyr : (ys.map ety).length = rs.length := by rw [List.length_map]; omega
  have h7 : ∀ (r : PyData) (ah : AH), (sIf (tB (f2 gGt (fCall gLen (aCons (fVar 2) aNil)) (fC (.int 200)))) (sRet (f2 gEq (fVar 5) (fLst (aCons (fC (.bool true)) (aCons (fC (.bool true)) aNil))))) sNx) [some (.s ns), some (.p (efl l)), some (.p (.list (rs.map ety))), some (.p (ety M)), some (.p (ety N)), some (.p r), none, none, none] ah = .nx [some (.s ns), some (.p (efl l)), some (.p (.list (rs.map ety))), some (.p (ety M)), some (.p (ety N)), some (.p r), none, none, none] ah := fun r ah => by
    have c : decide ((200 : Int) < (rs.length : Int)) = false := decide_eq_false (by omega)
    simp only [e_seq, e_nx, e_set, e_ret, e_expr, e_if, e_f2, e_call, e_nil, e_cons, e_c, e_v0, e_vs, e_set0, e_sets, e_tB, e_tru, e_notF, e_neg, b_ok, b_ex, t_ok, t_ex, s_nx, s_rt, s_bk, s_ct, s_ex, o_ok, e_rt, e_fnx, i_add, i_sub, i_mod, Int.reduceLT, i_lt, i_le, i_gt, i_ge, i_eq, i_ne, l_add, t_add, e_r1, e_for, e_gN, e_asg, e_tup, e_tupl, e_frz, ↓reduceIte, Bool.false_eq_true, Bool.not_true, Bool.not_false, e_and, e_or, e_yes, hlr, c]
  have h8 : ∀ (r : PyData) (ah : AH), (sSet 6 (fC .none)) [some (.s ns), some (.p (efl l)), some (.p (.list (rs.map ety))), some (.p (ety M)), some (.p (ety N)), some (.p r), none, none, none] ah = .nx [some (.s ns), some (.p (efl l)), some (.p (.list (rs.map ety))), some (.p (ety M)), some (.p (ety N)), some (.p r), some (.p .none), none, none] ah := fun r ah => rfl
  have bb : ∀ (a b : Bool) (ah : AH), gNe (.p (.bool a)) (.p (.bool b)) ah = .ok (.p (.bool (!decide (a = b)))) ah := fun a b ah => by cases a <;> cases b <;> rfl
  have isN : ∀ (ah : AH), gIs (.p .none) (.p .none) ah = .ok (.p (.bool true)) ah := fun ah => rfl
  have isI : ∀ (x : Int) (ah : AH), gIs (.p (.int x)) (.p .none) ah = .ok (.p (.bool false)) ah := fun x ah => rfl
  have isLs : ∀ (x : List PyData) (ah : AH), gIs (.p (.list x)) (.p .none) ah = .ok (.p (.bool false)) ah := fun x ah => rfl
  have inN : ∀ (ah : AH), gIsNot (.p .none) (.p .none) ah = .ok (.p (.bool false)) ah := fun ah => rfl
  have inI : ∀ (x : Int) (ah : AH), gIsNot (.p (.int x)) (.p .none) ah = .ok (.p (.bool true)) ah := fun x ah => rfl
  have kl : kitB "list" "list" = some true := by decide +kernel
  have hty : ∀ (q : List PyData) (ah : AH), tyD ah (.p (.list q)) = some "list" := fun q ah => rfl
  rcases F_road_ok fl L L2 A hal hyr hU with ⟨ah2, n, hr, hno, hend⟩ | ⟨ah2, n, v, d, F, hr, hmem, hw, hFd⟩
  · have ht := told_ok _ _ _ _ _ _ hr
    obtain ⟨ah3, x6, h9⟩ : ∃ ah3 x6, (sIf (tB (f2 gLe (fCall gLen (aCons (fVar 2) aNil)) (fC (.int 30)))) (sSeq (sSet 6 (fCall F__law_far (aCons (fVar 3) (aCons (fVar 4) aNil)))) (sIf (tOrF (tB (f2 gNe (f2 gIs (fVar 5) (fC .none)) (f2 gIs (fVar 6) (fC .none)))) (tAndF (tB (f2 gIsNot (fVar 6) (fC .none))) (tB (f2 gNe (fCall gLen (aCons (fVar 5) aNil)) (fVar 6))))) (sRet (fC (.bool false))) sNx)) sNx) [some (.s ns), some (.p (efl l)), some (.p (.list (rs.map ety))), some (.p (ety M)), some (.p (ety N)), some (.p .none), some (.p .none), none, none] ah2 = .nx [some (.s ns), some (.p (efl l)), some (.p (.list (rs.map ety))), some (.p (ety M)), some (.p (ety N)), some (.p .none), x6, none, none] ah3 := by
      by_cases c : (rs.length : Int) ≤ 30
      · rcases F_far_ok fl L L2 A hU ah2 with ⟨ah3, m, hfr, _, _⟩ | ⟨ah3, m, v, d, hfr, hmem⟩
        · refine ⟨ah3, some (.p .none), ?_⟩
          simp only [e_seq, e_nx, e_set, e_ret, e_expr, e_if, e_f2, e_call, e_nil, e_cons, e_c, e_v0, e_vs, e_set0, e_sets, e_tB, e_tru, e_notF, e_neg, b_ok, b_ex, t_ok, t_ex, s_nx, s_rt, s_bk, s_ct, s_ex, o_ok, e_rt, e_fnx, i_add, i_sub, i_mod, Int.reduceLT, i_lt, i_le, i_gt, i_ge, i_eq, i_ne, l_add, t_add, e_r1, e_for, e_gN, e_asg, e_tup, e_tupl, e_frz, ↓reduceIte, Bool.false_eq_true, Bool.not_true, Bool.not_false, e_and, e_or, e_yes, hlr, decide_eq_true c, hfr, isN, bb, inN, decide_true]
        · exact (seqE_not hmem hno hend).elim
      · refine ⟨ah2, some (.p .none), ?_⟩
        simp only [e_seq, e_nx, e_set, e_ret, e_expr, e_if, e_f2, e_call, e_nil, e_cons, e_c, e_v0, e_vs, e_set0, e_sets, e_tB, e_tru, e_notF, e_neg, b_ok, b_ex, t_ok, t_ex, s_nx, s_rt, s_bk, s_ct, s_ex, o_ok, e_rt, e_fnx, i_add, i_sub, i_mod, Int.reduceLT, i_lt, i_le, i_gt, i_ge, i_eq, i_ne, l_add, t_add, e_r1, e_for, e_gN, e_asg, e_tup, e_tupl, e_frz, ↓reduceIte, Bool.false_eq_true, Bool.not_true, Bool.not_false, e_and, e_or, e_yes, hlr, decide_eq_false c]
    refine ⟨ah3, ?_⟩
    rw [E_law, g_law, e_seq, h1, s_nx, e_seq, h2, s_nx, e_seq, h3, s_nx, e_seq, h4, s_nx, e_seq, h5, s_nx, e_seq, h6 _ _ ht, s_nx, e_seq, h7, s_nx, e_seq, h8, s_nx, e_seq, h9, s_nx, e_seq]
    simp only [e_seq, e_nx, e_set, e_ret, e_expr, e_if, e_f2, e_call, e_nil, e_cons, e_c, e_v0, e_vs, e_set0, e_sets, e_tB, e_tru, e_notF, e_neg, b_ok, b_ex, t_ok, t_ex, s_nx, s_rt, s_bk, s_ct, s_ex, o_ok, e_rt, e_fnx, i_add, i_sub, i_mod, Int.reduceLT, i_lt, i_le, i_gt, i_ge, i_eq, i_ne, l_add, t_add, e_r1, e_for, e_gN, e_asg, e_tup, e_tupl, e_frz, ↓reduceIte, Bool.false_eq_true, Bool.not_true, Bool.not_false, e_and, e_or, e_yes, isN]
  · have ht := told_ok _ _ _ _ _ _ hr
    have hlF : ∀ ah, gLen [.p (.list (F.map esq))] ah = .ok (.p (.int F.length)) ah := fun ah => by rw [len_l, List.length_map]
    obtain ⟨ah3, x6, h9⟩ : ∃ ah3 x6, (sIf (tB (f2 gLe (fCall gLen (aCons (fVar 2) aNil)) (fC (.int 30)))) (sSeq (sSet 6 (fCall F__law_far (aCons (fVar 3) (aCons (fVar 4) aNil)))) (sIf (tOrF (tB (f2 gNe (f2 gIs (fVar 5) (fC .none)) (f2 gIs (fVar 6) (fC .none)))) (tAndF (tB (f2 gIsNot (fVar 6) (fC .none))) (tB (f2 gNe (fCall gLen (aCons (fVar 5) aNil)) (fVar 6))))) (sRet (fC (.bool false))) sNx)) sNx) [some (.s ns), some (.p (efl l)), some (.p (.list (rs.map ety))), some (.p (ety M)), some (.p (ety N)), some (.p (.list (F.map esq))), some (.p .none), none, none] ah2 = .nx [some (.s ns), some (.p (efl l)), some (.p (.list (rs.map ety))), some (.p (ety M)), some (.p (ety N)), some (.p (.list (F.map esq))), x6, none, none] ah3 := by
      by_cases c : (rs.length : Int) ≤ 30
      · rcases F_far_ok fl L L2 A hU ah2 with ⟨ah3, m, hfr, hno, hend⟩ | ⟨ah3, m, v', d', hfr, hmem'⟩
        · exact (seqE_not hmem hno hend).elim
        · have hdd := seqE_same fl L hmem hmem'
          refine ⟨ah3, some (.p (.int ((d' : Nat) : Int))), ?_⟩
          have c2 : decide (((F.length : Nat) : Int) = (d' : Int)) = true := decide_eq_true (by omega)
          simp only [e_seq, e_nx, e_set, e_ret, e_expr, e_if, e_f2, e_call, e_nil, e_cons, e_c, e_v0, e_vs, e_set0, e_sets, e_tB, e_tru, e_notF, e_neg, b_ok, b_ex, t_ok, t_ex, s_nx, s_rt, s_bk, s_ct, s_ex, o_ok, e_rt, e_fnx, i_add, i_sub, i_mod, Int.reduceLT, i_lt, i_le, i_gt, i_ge, i_eq, i_ne, l_add, t_add, e_r1, e_for, e_gN, e_asg, e_tup, e_tupl, e_frz, ↓reduceIte, Bool.false_eq_true, Bool.not_true, Bool.not_false, e_and, e_or, e_yes, hlr, decide_eq_true c, hfr, isLs, isI, bb, inI, decide_true, hlF, c2]
      · refine ⟨ah2, some (.p .none), ?_⟩
        simp only [e_seq, e_nx, e_set, e_ret, e_expr, e_if, e_f2, e_call, e_nil, e_cons, e_c, e_v0, e_vs, e_set0, e_sets, e_tB, e_tru, e_notF, e_neg, b_ok, b_ex, t_ok, t_ex, s_nx, s_rt, s_bk, s_ct, s_ex, o_ok, e_rt, e_fnx, i_add, i_sub, i_mod, Int.reduceLT, i_lt, i_le, i_gt, i_ge, i_eq, i_ne, l_add, t_add, e_r1, e_for, e_gN, e_asg, e_tup, e_tupl, e_frz, ↓reduceIte, Bool.false_eq_true, Bool.not_true, Bool.not_false, e_and, e_or, e_yes, hlr, decide_eq_false c]
    obtain ⟨x8, ah4, hlp⟩ := walk_loop fl (some (.s ns)) (some (.p (efl l))) (some (.p (.list (rs.map ety)))) (some (.p (ety M))) (some (.p (ety N))) (some (.p (.list (F.map esq)))) x6 N F M none ah3 L hw
    have h10 : (sIf (tB (f2 gIs (fVar 5) (fC .none))) (sRet (fC (.bool true))) sNx) [some (.s ns), some (.p (efl l)), some (.p (.list (rs.map ety))), some (.p (ety M)), some (.p (ety N)), some (.p (.list (F.map esq))), x6, none, none] ah3 = .nx [some (.s ns), some (.p (efl l)), some (.p (.list (rs.map ety))), some (.p (ety M)), some (.p (ety N)), some (.p (.list (F.map esq))), x6, none, none] ah3 := by
      simp only [e_seq, e_nx, e_set, e_ret, e_expr, e_if, e_f2, e_call, e_nil, e_cons, e_c, e_v0, e_vs, e_set0, e_sets, e_tB, e_tru, e_notF, e_neg, b_ok, b_ex, t_ok, t_ex, s_nx, s_rt, s_bk, s_ct, s_ex, o_ok, e_rt, e_fnx, i_add, i_sub, i_mod, Int.reduceLT, i_lt, i_le, i_gt, i_ge, i_eq, i_ne, l_add, t_add, e_r1, e_for, e_gN, e_asg, e_tup, e_tupl, e_frz, ↓reduceIte, Bool.false_eq_true, Bool.not_true, Bool.not_false, e_and, e_or, e_yes, isLs]
    have h11 : (sSet 7 (fVar 3)) [some (.s ns), some (.p (efl l)), some (.p (.list (rs.map ety))), some (.p (ety M)), some (.p (ety N)), some (.p (.list (F.map esq))), x6, none, none] ah3 = .nx [some (.s ns), some (.p (efl l)), some (.p (.list (rs.map ety))), some (.p (ety M)), some (.p (ety N)), some (.p (.list (F.map esq))), x6, some (.p (ety M)), none] ah3 := rfl
    have h12 : (sFor (iAny (fVar 5)) (gN 8) (sSeq (sIf (tB (f2 gNotIn (fVar 8) (fCall F__law_turns (aCons (fVar 7) aNil)))) (sRet (fC (.bool false))) sNx) (sSet 7 (fCall F__law_turned (aCons (fVar 7) (aCons (fVar 8) aNil)))))) [some (.s ns), some (.p (efl l)), some (.p (.list (rs.map ety))), some (.p (ety M)), some (.p (ety N)), some (.p (.list (F.map esq))), x6, some (.p (ety M)), none] ah3 = .nx [some (.s ns), some (.p (efl l)), some (.p (.list (rs.map ety))), some (.p (ety M)), some (.p (ety N)), some (.p (.list (F.map esq))), x6, some (.p (ety N)), x8] ah4 := by
      have hit : iAny (fVar 5) [some (.s ns), some (.p (efl l)), some (.p (.list (rs.map ety))), some (.p (ety M)), some (.p (ety N)), some (.p (.list (F.map esq))), x6, some (.p (ety M)), none] ah3 = .ok ((F.map esq).map .p) ah3 := rfl
      rw [e_for, hit, t_ok]
      exact hlp
    refine ⟨ah4, ?_⟩
    rw [E_law, g_law, e_seq, h1, s_nx, e_seq, h2, s_nx, e_seq, h3, s_nx, e_seq, h4, s_nx, e_seq, h5, s_nx, e_seq, h6 _ _ ht, s_nx, e_seq, h7, s_nx, e_seq, h8, s_nx, e_seq, h9, s_nx, e_seq, h10, s_nx, e_seq, h11, s_nx, e_seq, h12, s_nx]
    simp only [e_seq, e_nx, e_set, e_ret, e_expr, e_if, e_f2, e_call, e_nil, e_cons, e_c, e_v0, e_vs, e_set0, e_sets, e_tB, e_tru, e_notF, e_neg, b_ok, b_ex, t_ok, t_ex, s_nx, s_rt, s_bk, s_ct, s_ex, o_ok, e_rt, e_fnx, i_add, i_sub, i_mod, Int.reduceLT, i_lt, i_le, i_gt, i_ge, i_eq, i_ne, l_add, t_add, e_r1, e_for, e_gN, e_asg, e_tup, e_tupl, e_frz, ↓reduceIte, Bool.false_eq_true, Bool.not_true, Bool.not_false, e_and, e_or, e_yes, e_fAnd, e_isi, hty, kl, truOf, eq_etys, decide_true]
end k08

set_option Elab.async false
set_option linter.all false
set_option maxRecDepth 100000
namespace k08
open PySem PySem.Spec PyProof.Rows L2 DL
def topS (i : Nat) : Stmt := PySem.Challenge.pw_tilefloor_k08_whole_roads.main.body.getD i (.Pass ⟨0, 0, 0, 0⟩)
abbrev s_is_within : Stmt := topS 6
abbrev N_is_within : List Str := ["thing", "low", "high"]
theorem sc_is_within : FnScope N_is_within ["thing", "low", "high"] (defScope s_is_within) := ⟨rfl, rfl, rfl, by decide +kernel, rfl, by decide +kernel, by decide +kernel⟩
abbrev s_is_square : Stmt := topS 7
abbrev N_is_square : List Str := ["thing"]
theorem sc_is_square : FnScope N_is_square ["thing"] (defScope s_is_square) := ⟨rfl, rfl, rfl, by decide +kernel, rfl, by decide +kernel, by decide +kernel⟩
abbrev s_beside : Stmt := topS 8
abbrev N_beside : List Str := ["square", "row", "column"]
theorem sc_beside : FnScope N_beside ["square"] (defScope s_beside) := ⟨rfl, rfl, rfl, by decide +kernel, rfl, by decide +kernel, by decide +kernel⟩
abbrev s_neighbours : Stmt := topS 9
abbrev N_neighbours : List Str := ["floor", "square", "other"]
theorem sc_neighbours : FnScope N_neighbours ["floor", "square"] (defScope s_neighbours) := ⟨rfl, rfl, rfl, by decide +kernel, rfl, by decide +kernel, by decide +kernel⟩
abbrev s_after : Stmt := topS 12
abbrev N_after : List Str := ["floor", "known", "found", "other", "left", "square"]
theorem sc_after : FnScope N_after ["floor", "known"] (defScope s_after) := ⟨rfl, rfl, rfl, by decide +kernel, rfl, by decide +kernel, by decide +kernel⟩
abbrev s_count : Stmt := topS 13
abbrev N_count : List Str := ["floor"]
theorem sc_count : FnScope N_count ["floor"] (defScope s_count) := ⟨rfl, rfl, rfl, by decide +kernel, rfl, by decide +kernel, by decide +kernel⟩
abbrev s_ways : Stmt := topS 14
abbrev N_ways : List Str := ["floor", "found", "other", "left", "square", "rest"]
theorem sc_ways : FnScope N_ways ["floor"] (defScope s_ways) := ⟨rfl, rfl, rfl, by decide +kernel, rfl, by decide +kernel, by decide +kernel⟩
abbrev s_all_layings : Stmt := topS 15
abbrev N_all_layings : List Str := ["floor", "way"]
theorem sc_all_layings : FnScope N_all_layings ["floor"] (defScope s_all_layings) := ⟨rfl, rfl, rfl, by decide +kernel, rfl, by decide +kernel, by decide +kernel⟩
abbrev s_lying : Stmt := topS 17
abbrev N_lying : List Str := ["square", "row", "column", "right", "low", "last"]
theorem sc_lying : FnScope N_lying ["square"] (defScope s_lying) := ⟨rfl, rfl, rfl, by decide +kernel, rfl, by decide +kernel, by decide +kernel⟩
abbrev s_has_all : Stmt := topS 18
abbrev N_has_all : List Str := ["laying", "stones"]
theorem sc_has_all : FnScope N_has_all ["laying", "stones"] (defScope s_has_all) := ⟨rfl, rfl, rfl, by decide +kernel, rfl, by decide +kernel, by decide +kernel⟩
abbrev s_turns : Stmt := topS 19
abbrev N_turns : List Str := ["laying", "found", "stone", "across", "down"]
theorem sc_turns : FnScope N_turns ["laying"] (defScope s_turns) := ⟨rfl, rfl, rfl, by decide +kernel, rfl, by decide +kernel, by decide +kernel⟩
abbrev s_exchanged : Stmt := topS 20
abbrev N_exchanged : List Str := ["laying", "old", "new", "stone"]
theorem sc_exchanged : FnScope N_exchanged ["laying", "old", "new"] (defScope s_exchanged) := ⟨rfl, rfl, rfl, by decide +kernel, rfl, by decide +kernel, by decide +kernel⟩
abbrev s_turned : Stmt := topS 21
abbrev N_turned : List Str := ["laying", "square", "across", "down"]
theorem sc_turned : FnScope N_turned ["laying", "square"] (defScope s_turned) := ⟨rfl, rfl, rfl, by decide +kernel, rfl, by decide +kernel, by decide +kernel⟩
abbrev s_road : Stmt := topS 22
abbrev N_road : List Str := ["floor", "one", "other", "many", "ahead", "todo", "here", "square", "there", "found"]
theorem sc_road : FnScope N_road ["floor", "one", "other"] (defScope s_road) := ⟨rfl, rfl, rfl, by decide +kernel, rfl, by decide +kernel, by decide +kernel⟩
abbrev s__law_cell : Stmt := topS 24
abbrev N__law_cell : List Str := ["_law_script", "_law_k"]
theorem sc__law_cell : FnScope N__law_cell ["_law_script", "_law_k"] (defScope s__law_cell) := ⟨rfl, rfl, rfl, by decide +kernel, rfl, by decide +kernel, by decide +kernel⟩
abbrev s__law_mix : Stmt := topS 25
abbrev N__law_mix : List Str := ["_law_cell_here", "_law_prime", "_law_many"]
theorem sc__law_mix : FnScope N__law_mix ["_law_cell_here", "_law_prime", "_law_many"] (defScope s__law_mix) := ⟨rfl, rfl, rfl, by decide +kernel, rfl, by decide +kernel, by decide +kernel⟩
abbrev s__law_floor : Stmt := topS 26
abbrev N__law_floor : List Str := ["_law_script", "_law_at", "_law_cell_here", "_law_rows", "_law_wide", "_law_down", "_law_right", "_law_some", "_law_r", "_law_gone", "_law_k", "_law_seed", "_law_one", "_law_left", "_law_c"]
theorem sc__law_floor : FnScope N__law_floor ["_law_script", "_law_at"] (defScope s__law_floor) := ⟨rfl, rfl, rfl, by decide +kernel, rfl, by decide +kernel, by decide +kernel⟩
abbrev s__law_near : Stmt := topS 27
abbrev N__law_near : List Str := ["_law_floor_here", "_law_square", "_law_r", "_law_c", "_law_one"]
theorem sc__law_near : FnScope N__law_near ["_law_floor_here", "_law_square"] (defScope s__law_near) := ⟨rfl, rfl, rfl, by decide +kernel, rfl, by decide +kernel, by decide +kernel⟩
abbrev s__law_every : Stmt := topS 28
abbrev N__law_every : List Str := ["_law_floor_here", "_law_known", "_law_found", "_law_last", "_law_other", "_law_left", "_law_one", "_law_row"]
theorem sc__law_every : FnScope N__law_every ["_law_floor_here", "_law_known"] (defScope s__law_every) := ⟨rfl, rfl, rfl, by decide +kernel, rfl, by decide +kernel, by decide +kernel⟩
abbrev s__law_all : Stmt := topS 29
abbrev N__law_all : List Str := ["_law_floor_here", "_law_row"]
theorem sc__law_all : FnScope N__law_all ["_law_floor_here"] (defScope s__law_all) := ⟨rfl, rfl, rfl, by decide +kernel, rfl, by decide +kernel, by decide +kernel⟩
abbrev s__law_four : Stmt := topS 30
abbrev N__law_four : List Str := ["_law_square", "_law_r", "_law_c", "_law_wide"]
theorem sc__law_four : FnScope N__law_four ["_law_square"] (defScope s__law_four) := ⟨rfl, rfl, rfl, by decide +kernel, rfl, by decide +kernel, by decide +kernel⟩
abbrev s__law_turns : Stmt := topS 31
abbrev N__law_turns : List Str := ["_law_laying", "_law_found", "_law_r", "_law_c", "_law_wide", "_law_tall", "_law_across_all", "_law_one"]
theorem sc__law_turns : FnScope N__law_turns ["_law_laying"] (defScope s__law_turns) := ⟨rfl, rfl, rfl, by decide +kernel, rfl, by decide +kernel, by decide +kernel⟩
abbrev s__law_turned : Stmt := topS 32
abbrev N__law_turned : List Str := ["_law_laying", "_law_square", "_law_wide", "_law_tall", "_law_one"]
theorem sc__law_turned : FnScope N__law_turned ["_law_laying", "_law_square"] (defScope s__law_turned) := ⟨rfl, rfl, rfl, by decide +kernel, rfl, by decide +kernel, by decide +kernel⟩
abbrev s__law_told : Stmt := topS 33
abbrev N__law_told : List Str := ["_law_floor_here", "_law_one", "_law_other", "e"]
theorem sc__law_told : FnScope N__law_told ["_law_floor_here", "_law_one", "_law_other"] (defScope s__law_told) := ⟨rfl, rfl, rfl, by decide +kernel, rfl, by decide +kernel, by decide +kernel⟩
abbrev s__law_far : Stmt := topS 34
abbrev N__law_far : List Str := ["_law_one", "_law_other", "_law_met", "_law_todo", "_law_here", "_law_square", "_law_there"]
theorem sc__law_far : FnScope N__law_far ["_law_one", "_law_other"] (defScope s__law_far) := ⟨rfl, rfl, rfl, by decide +kernel, rfl, by decide +kernel, by decide +kernel⟩
abbrev s_law : Stmt := topS 35
abbrev N_law : List Str := ["_law_script", "_law_floor_here", "_law_every_here", "_law_one", "_law_other", "_law_found", "_law_due", "_law_here", "_law_square"]
theorem sc_law : FnScope N_law ["_law_script"] (defScope s_law) := ⟨rfl, rfl, rfl, by decide +kernel, rfl, by decide +kernel, by decide +kernel⟩
section
variable {T0 : Tb} {mg : Str → Option Value} {base : Heap}
theorem ok_is_within {f : Addr} {fd : FuncData} (Fu : Fun T0.K "is_within" "is_within" s_is_within f fd) (m_isinstance : mg "isinstance" = none) (m_int : mg "int" = none) (m_bool : mg "bool" = none) : DFn T0 mg base 1 f fd ["thing", "low", "high"] F_is_within := by
  have sc := sc_is_within
  refine DFn.by (k := 0) (N := N_is_within) Fu sc fun cdv A outer s H E T c hp => ?_
  exact (ds_one (ds_ret (de_and (de_isi c.t (t := "int") (by rfl) m_isinstance (by rfl) m_int (by decide +kernel) (dv 0)) (de_and (de_not (de_isi c.t (t := "bool") (by rfl) m_isinstance (by rfl) m_bool (by decide +kernel) (dv 0))) (de_one (de_chain (od_le c.t) (od_le c.t) (dv 1) (dv 0) (dv 2)))))))
theorem ok_is_square {f : Addr} {fd : FuncData} (Fu : Fun T0.K "is_square" "is_square" s_is_square f fd) {f_is_within : Addr} {fd_is_within : FuncData} (c_is_within : Def T0 mg base 1 "is_within" f_is_within fd_is_within ["thing", "low", "high"] F_is_within) (m_isinstance : mg "isinstance" = none) (m_tuple : mg "tuple" = none) (m_len : mg "len" = none) {t_LAST : Tok} (m_LAST : mg "LAST" = some (.int 7 t_LAST)) : DFn T0 mg base 2 f fd ["thing"] F_is_square := by
  have sc := sc_is_square
  refine DFn.by (k := 1) (N := N_is_square) Fu sc fun cdv A outer s H E T c hp => ?_
  exact (ds_cons (ds_if (DW.dt (dw_or (dt_not (dt_truth c.t (de_isi c.t (t := "tuple") (by rfl) m_isinstance (by rfl) m_tuple (by decide +kernel) (dv 0)))) (dw_or1 (dt_cmp (od_ne c.t) (de_callB (cd_len c.t) (by rfl) m_len (by decide +kernel) (da_cons (dv 0) da_nil)) de_int (nomark _))))) (ds_one (ds_ret de_bl)) ds_nil) (ds_one (ds_ret (de_and (de_fn c c_is_within (by omega) (by rfl) (da_cons (de_sub c.t (dv 0) de_int (fun _ _ => rfl)) (da_cons de_int (da_cons (de_gint (by rfl) m_LAST) da_nil))) (aCons_len (aCons_len (aCons_len aNil_len)))) (de_one (de_fn c c_is_within (by omega) (by rfl) (da_cons (de_sub c.t (dv 0) de_int (fun _ _ => rfl)) (da_cons de_int (da_cons (de_gint (by rfl) m_LAST) da_nil))) (aCons_len (aCons_len (aCons_len aNil_len)))))))))
theorem ok_beside {f : Addr} {fd : FuncData} (Fu : Fun T0.K "beside" "beside" s_beside f fd) : DFn T0 mg base 1 f fd ["square"] F_beside := by
  have sc := sc_beside
  refine DFn.by (k := 0) (N := N_beside) Fu sc fun cdv A outer s H E T c hp => ?_
  exact (ds_cons (ds_asg (dv 0) (dg_pair c.t (i := 1) (j := 2) sc.nd rfl rfl (by first | exact Or.inl rfl | exact Or.inr rfl) (by first | exact Or.inl rfl | exact Or.inr rfl))) (ds_one (ds_ret (de_lst (da_cons (de_tup (da_cons (de_op od_sub (dv 1) de_int) (da_cons (dv 2) da_nil))) (da_cons (de_tup (da_cons (dv 1) (da_cons (de_op od_sub (dv 2) de_int) da_nil))) (da_cons (de_tup (da_cons (dv 1) (da_cons (de_op od_add (dv 2) de_int) da_nil))) (da_cons (de_tup (da_cons (de_op od_add (dv 1) de_int) (da_cons (dv 2) da_nil))) da_nil))))))))
theorem ok_neighbours {f : Addr} {fd : FuncData} (Fu : Fun T0.K "neighbours" "neighbours" s_neighbours f fd) {f_beside : Addr} {fd_beside : FuncData} (c_beside : Def T0 mg base 1 "beside" f_beside fd_beside ["square"] F_beside) : DFn T0 mg base 2 f fd ["floor", "square"] F_neighbours := by
  have sc := sc_neighbours
  refine DFn.by (k := 1) (N := N_neighbours) Fu sc fun cdv A outer s H E T c hp => ?_
  exact (ds_one (ds_ret (de_lcC c sc.nd (di_any c.t (de_fn c c_beside (by omega) (by rfl) (da_cons (dv 1) da_nil) (aCons_len aNil_len))) (blkOk_by (own := [("other", 2)]) (N := N_neighbours) (sc := defScope s_neighbours) (by decide +kernel)) (fun _ _ _ _ _ => pg_name (i := 2) sc.nd rfl (by first | exact Or.inl rfl | exact Or.inr rfl)) (fun _ _ _ _ _ _ c => (dts_one (dt_cmp (od_in c.t) (dv 2) (dv 0) (by rfl)))) (fun _ _ _ _ _ _ c => (dv 2)))))
theorem ok_after {f_after : Addr} {fd_after : FuncData} (Fu : Fun T0.K "after" "after" s_after f_after fd_after) (g_after' : mg "after" = some (.ref f_after)) (b_after : Binds T0.K fd_after ["floor", "known"] []) {f_neighbours : Addr} {fd_neighbours : FuncData} (c_neighbours : Def T0 mg base 2 "neighbours" f_neighbours fd_neighbours ["floor", "square"] F_neighbours) (m_tuple : mg "tuple" = none) : ∀ n : Nat, DFn T0 mg base (2 + n) f_after fd_after ["floor", "known"] (F_after n)
  | 0 => DFn.bad
  | n + 1 => by
    have c_after : Def T0 mg base (2 + n) "after" f_after fd_after ["floor", "known"] (F_after n) := ⟨ok_after Fu g_after' b_after c_neighbours m_tuple n, g_after', Fu.kp, b_after⟩
    have sc := sc_after
    refine DFn.by (k := 2 + n) (N := N_after) Fu sc fun cdv A outer s H E T c hp => ?_
    exact (ds_cons (ds_if (dt_not (dt_truth c.t (dv 0))) (ds_one (ds_ret de_int)) ds_nil) (ds_cons (ds_if (dt_cmp (od_notIn c.t) (dv 0) (dv 1) (by rfl)) (ds_cons (ds_set (i := 2) sc.nd rfl (by first | exact Or.inl rfl | exact Or.inr rfl) de_int) (ds_cons (ds_for hp c.t (di_any c.t (de_fn c c_neighbours (by omega) (by rfl) (da_cons (dv 0) (da_cons (de_sub c.t (dv 0) de_int (fun _ _ => rfl)) da_nil)) (aCons_len (aCons_len aNil_len)))) (dg_name (i := 3) sc.nd rfl (by first | exact Or.inl rfl | exact Or.inr rfl)) (ds_cons (ds_set (i := 4) sc.nd rfl (by first | exact Or.inl rfl | exact Or.inr rfl) (de_callTy (cd_tuple c.t) (by rfl) m_tuple (by decide +kernel) (da_cons (de_lcC c sc.nd (di_any c.t (de_slice c.t (dv 0) (dp_some de_int) dp_none)) (blkOk_by (own := [("square", 5)]) (N := N_after) (sc := defScope s_after) (by decide +kernel)) (fun _ _ _ _ _ => pg_name (i := 5) sc.nd rfl (by first | exact Or.inl rfl | exact Or.inr rfl)) (fun _ _ _ _ _ _ c => (dts_one (dt_cmp (od_ne c.t) (dv 5) (dv 3) (nomark _)))) (fun _ _ _ _ _ _ c => (dv 5))) da_nil))) (ds_one (ds_set (i := 2) sc.nd rfl (by first | exact Or.inl rfl | exact Or.inr rfl) (de_op od_add (dv 2) (de_fn c c_after (by omega) (by rfl) (da_cons (dv 4) (da_cons (dv 1) da_nil)) (aCons_len (aCons_len aNil_len)))))))) (ds_one (ds_dput c.t (dv 1) (dv 0) (dv 2))))) ds_nil) (ds_one (ds_ret (de_sub c.t (dv 1) (dv 0) (fun _ _ => rfl))))))
theorem ok_count {f : Addr} {fd : FuncData} (Fu : Fun T0.K "count" "count" s_count f fd) {f_after : Addr} {fd_after : FuncData} (c_after : Def T0 mg base 28 "after" f_after fd_after ["floor", "known"] (F_after 26)) : DFn T0 mg base 29 f fd ["floor"] F_count := by
  have sc := sc_count
  refine DFn.by (k := 28) (N := N_count) Fu sc fun cdv A outer s H E T c hp => ?_
  exact (ds_one (ds_ret (de_fn c c_after (by omega) (by rfl) (da_cons (dv 0) (da_cons de_dict da_nil)) (aCons_len (aCons_len aNil_len)))))
theorem ok_ways {f_ways : Addr} {fd_ways : FuncData} (Fu : Fun T0.K "ways" "ways" s_ways f_ways fd_ways) (g_ways' : mg "ways" = some (.ref f_ways)) (b_ways : Binds T0.K fd_ways ["floor"] []) {f_neighbours : Addr} {fd_neighbours : FuncData} (c_neighbours : Def T0 mg base 2 "neighbours" f_neighbours fd_neighbours ["floor", "square"] F_neighbours) (m_tuple : mg "tuple" = none) : ∀ n : Nat, DFn T0 mg base (2 + n) f_ways fd_ways ["floor"] (F_ways n)
  | 0 => DFn.bad
  | n + 1 => by
    have c_ways : Def T0 mg base (2 + n) "ways" f_ways fd_ways ["floor"] (F_ways n) := ⟨ok_ways Fu g_ways' b_ways c_neighbours m_tuple n, g_ways', Fu.kp, b_ways⟩
    have sc := sc_ways
    refine DFn.by (k := 2 + n) (N := N_ways) Fu sc fun cdv A outer s H E T c hp => ?_
    exact (ds_cons (ds_if (dt_not (dt_truth c.t (dv 0))) (ds_one (ds_ret (de_lst (da_cons (de_lst da_nil) da_nil)))) ds_nil) (ds_cons (ds_set (i := 1) sc.nd rfl (by first | exact Or.inl rfl | exact Or.inr rfl) (de_lstM da_nil)) (ds_cons (ds_for hp c.t (di_any c.t (de_fn c c_neighbours (by omega) (by rfl) (da_cons (dv 0) (da_cons (de_sub c.t (dv 0) de_int (fun _ _ => rfl)) da_nil)) (aCons_len (aCons_len aNil_len)))) (dg_name (i := 2) sc.nd rfl (by first | exact Or.inl rfl | exact Or.inr rfl)) (ds_cons (ds_set (i := 3) sc.nd rfl (by first | exact Or.inl rfl | exact Or.inr rfl) (de_callTy (cd_tuple c.t) (by rfl) m_tuple (by decide +kernel) (da_cons (de_lcC c sc.nd (di_any c.t (de_slice c.t (dv 0) (dp_some de_int) dp_none)) (blkOk_by (own := [("square", 4)]) (N := N_ways) (sc := defScope s_ways) (by decide +kernel)) (fun _ _ _ _ _ => pg_name (i := 4) sc.nd rfl (by first | exact Or.inl rfl | exact Or.inr rfl)) (fun _ _ _ _ _ _ c => (dts_one (dt_cmp (od_ne c.t) (dv 4) (dv 2) (nomark _)))) (fun _ _ _ _ _ _ c => (dv 4))) da_nil))) (ds_one (ds_expr (de_extend (dv 1) (da_cons (de_lcC c sc.nd (di_any c.t (de_fn c c_ways (by omega) (by rfl) (da_cons (dv 3) da_nil) (aCons_len aNil_len))) (blkOk_by (own := [("rest", 5)]) (N := N_ways) (sc := defScope s_ways) (by decide +kernel)) (fun _ _ _ _ _ => pg_name (i := 5) sc.nd rfl (by first | exact Or.inl rfl | exact Or.inr rfl)) (fun _ _ _ _ _ _ c => dts_nil) (fun _ _ _ _ _ _ c => (de_op od_add (de_lst (da_cons (de_tup (da_cons (de_sub c.t (dv 0) de_int (fun _ _ => rfl)) (da_cons (dv 2) da_nil))) da_nil)) (dv 5)))) da_nil)))))) (ds_one (ds_ret (de_frz (dv 1)))))))
theorem ok_all_layings {f : Addr} {fd : FuncData} (Fu : Fun T0.K "all_layings" "all_layings" s_all_layings f fd) {f_ways : Addr} {fd_ways : FuncData} (c_ways : Def T0 mg base 28 "ways" f_ways fd_ways ["floor"] (F_ways 26)) {f_count : Addr} {fd_count : FuncData} (c_count : Def T0 mg base 29 "count" f_count fd_count ["floor"] F_count) (k_TooMany : Cls T0 mg 3 "TooMany") (m_sorted : mg "sorted" = none) (m_tuple : mg "tuple" = none) {t_MOST_LAYINGS : Tok} (m_MOST_LAYINGS : mg "MOST_LAYINGS" = some (.int 200 t_MOST_LAYINGS)) : DFn T0 mg base 30 f fd ["floor"] F_all_layings := by
  have sc := sc_all_layings
  refine DFn.by (k := 29) (N := N_all_layings) Fu sc fun cdv A outer s H E T c hp => ?_
  exact (ds_cons (ds_if (dt_cmp (od_gt c.t) (de_fn c c_count (by omega) (by rfl) (da_cons (dv 0) da_nil) (aCons_len aNil_len)) (de_gint (by rfl) m_MOST_LAYINGS) (nomark _)) (ds_one (ds_raise c k_TooMany (by rfl))) ds_nil) (ds_one (ds_ret (de_callB (cd_sortedL c.t) (by rfl) m_sorted (by decide +kernel) (da_cons (de_lcC c sc.nd (di_any c.t (de_fn c c_ways (by omega) (by rfl) (da_cons (dv 0) da_nil) (aCons_len aNil_len))) (blkOk_by (own := [("way", 1)]) (N := N_all_layings) (sc := defScope s_all_layings) (by decide +kernel)) (fun _ _ _ _ _ => pg_name (i := 1) sc.nd rfl (by first | exact Or.inl rfl | exact Or.inr rfl)) (fun _ _ _ _ _ _ c => dts_nil) (fun _ _ _ _ _ _ c => (de_callTy (cd_tuple c.t) (by rfl) m_tuple (by decide +kernel) (da_cons (de_callB (cd_sortedL c.t) (by rfl) m_sorted (by decide +kernel) (da_cons (dv 1) da_nil)) da_nil)))) da_nil)))))
theorem ok_lying {f : Addr} {fd : FuncData} (Fu : Fun T0.K "lying" "lying" s_lying f fd) : DFn T0 mg base 1 f fd ["square"] F_lying := by
  have sc := sc_lying
  refine DFn.by (k := 0) (N := N_lying) Fu sc fun cdv A outer s H E T c hp => ?_
  exact (ds_cons (ds_asg (dv 0) (dg_pair c.t (i := 1) (j := 2) sc.nd rfl rfl (by first | exact Or.inl rfl | exact Or.inr rfl) (by first | exact Or.inl rfl | exact Or.inr rfl))) (ds_cons (ds_set (i := 3) sc.nd rfl (by first | exact Or.inl rfl | exact Or.inr rfl) (de_tup (da_cons (dv 1) (da_cons (de_op od_add (dv 2) de_int) da_nil)))) (ds_cons (ds_set (i := 4) sc.nd rfl (by first | exact Or.inl rfl | exact Or.inr rfl) (de_tup (da_cons (de_op od_add (dv 1) de_int) (da_cons (dv 2) da_nil)))) (ds_cons (ds_set (i := 5) sc.nd rfl (by first | exact Or.inl rfl | exact Or.inr rfl) (de_tup (da_cons (de_op od_add (dv 1) de_int) (da_cons (de_op od_add (dv 2) de_int) da_nil)))) (ds_one (ds_ret (de_tup (da_cons (de_lst (da_cons (de_tup (da_cons (dv 0) (da_cons (dv 3) da_nil))) (da_cons (de_tup (da_cons (dv 4) (da_cons (dv 5) da_nil))) da_nil))) (da_cons (de_lst (da_cons (de_tup (da_cons (dv 0) (da_cons (dv 4) da_nil))) (da_cons (de_tup (da_cons (dv 3) (da_cons (dv 5) da_nil))) da_nil))) da_nil)))))))))
theorem ok_has_all {f : Addr} {fd : FuncData} (Fu : Fun T0.K "has_all" "has_all" s_has_all f fd) : DFn T0 mg base 1 f fd ["laying", "stones"] F_has_all := by
  have sc := sc_has_all
  refine DFn.by (k := 0) (N := N_has_all) Fu sc fun cdv A outer s H E T c hp => ?_
  exact (ds_one (ds_ret (de_and (de_cmp (od_in c.t) (de_sub c.t (dv 1) de_int (fun _ _ => rfl)) (dv 0) (by rfl)) (de_one (de_cmp (od_in c.t) (de_sub c.t (dv 1) de_int (fun _ _ => rfl)) (dv 0) (by rfl))))))
theorem ok_turns {f : Addr} {fd : FuncData} (Fu : Fun T0.K "turns" "turns" s_turns f fd) {f_has_all : Addr} {fd_has_all : FuncData} (c_has_all : Def T0 mg base 1 "has_all" f_has_all fd_has_all ["laying", "stones"] F_has_all) {f_lying : Addr} {fd_lying : FuncData} (c_lying : Def T0 mg base 1 "lying" f_lying fd_lying ["square"] F_lying) (m_sorted : mg "sorted" = none) : DFn T0 mg base 2 f fd ["laying"] F_turns := by
  have sc := sc_turns
  refine DFn.by (k := 1) (N := N_turns) Fu sc fun cdv A outer s H E T c hp => ?_
  exact (ds_cons (ds_set (i := 1) sc.nd rfl (by first | exact Or.inl rfl | exact Or.inr rfl) (de_lstM da_nil)) (ds_cons (ds_for hp c.t (di_any c.t (dv 0)) (dg_name (i := 2) sc.nd rfl (by first | exact Or.inl rfl | exact Or.inr rfl)) (ds_cons (ds_asg (de_fn c c_lying (by omega) (by rfl) (da_cons (de_sub c.t (dv 2) de_int (fun _ _ => rfl)) da_nil) (aCons_len aNil_len)) (dg_pair c.t (i := 3) (j := 4) sc.nd rfl rfl (by first | exact Or.inl rfl | exact Or.inr rfl) (by first | exact Or.inl rfl | exact Or.inr rfl))) (ds_one (ds_if (DW.dt (dw_or (dt_truth c.t (de_fn c c_has_all (by omega) (by rfl) (da_cons (dv 0) (da_cons (dv 3) da_nil)) (aCons_len (aCons_len aNil_len)))) (dw_or1 (dt_truth c.t (de_fn c c_has_all (by omega) (by rfl) (da_cons (dv 0) (da_cons (dv 4) da_nil)) (aCons_len (aCons_len aNil_len))))))) (ds_one (ds_expr (de_append (dv 1) (da_cons (de_sub c.t (dv 2) de_int (fun _ _ => rfl)) da_nil)))) ds_nil)))) (ds_one (ds_ret (de_callB (cd_sortedL c.t) (by rfl) m_sorted (by decide +kernel) (da_cons (dv 1) da_nil))))))
theorem ok_exchanged {f : Addr} {fd : FuncData} (Fu : Fun T0.K "exchanged" "exchanged" s_exchanged f fd) (m_tuple : mg "tuple" = none) (m_sorted : mg "sorted" = none) : DFn T0 mg base 1 f fd ["laying", "old", "new"] F_exchanged := by
  have sc := sc_exchanged
  refine DFn.by (k := 0) (N := N_exchanged) Fu sc fun cdv A outer s H E T c hp => ?_
  exact (ds_one (ds_ret (de_callTy (cd_tuple c.t) (by rfl) m_tuple (by decide +kernel) (da_cons (de_callB (cd_sortedL c.t) (by rfl) m_sorted (by decide +kernel) (da_cons (de_op od_add (de_lcC c sc.nd (di_any c.t (dv 0)) (blkOk_by (own := [("stone", 3)]) (N := N_exchanged) (sc := defScope s_exchanged) (by decide +kernel)) (fun _ _ _ _ _ => pg_name (i := 3) sc.nd rfl (by first | exact Or.inl rfl | exact Or.inr rfl)) (fun _ _ _ _ _ _ c => (dts_one (dt_cmp (od_notIn c.t) (dv 3) (dv 1) (by rfl)))) (fun _ _ _ _ _ _ c => (dv 3))) (dv 2)) da_nil)) da_nil))))
theorem ok_turned {f : Addr} {fd : FuncData} (Fu : Fun T0.K "turned" "turned" s_turned f fd) {f_exchanged : Addr} {fd_exchanged : FuncData} (c_exchanged : Def T0 mg base 1 "exchanged" f_exchanged fd_exchanged ["laying", "old", "new"] F_exchanged) {f_has_all : Addr} {fd_has_all : FuncData} (c_has_all : Def T0 mg base 1 "has_all" f_has_all fd_has_all ["laying", "stones"] F_has_all) {f_lying : Addr} {fd_lying : FuncData} (c_lying : Def T0 mg base 1 "lying" f_lying fd_lying ["square"] F_lying) {f_is_square : Addr} {fd_is_square : FuncData} (c_is_square : Def T0 mg base 2 "is_square" f_is_square fd_is_square ["thing"] F_is_square) {f_turns : Addr} {fd_turns : FuncData} (c_turns : Def T0 mg base 2 "turns" f_turns fd_turns ["laying"] F_turns) (k_NoTurn : Cls T0 mg 4 "NoTurn") : DFn T0 mg base 3 f fd ["laying", "square"] F_turned := by
  have sc := sc_turned
  refine DFn.by (k := 2) (N := N_turned) Fu sc fun cdv A outer s H E T c hp => ?_
  exact (ds_cons (ds_if (DW.dt (dw_or (dt_not (dt_truth c.t (de_fn c c_is_square (by omega) (by rfl) (da_cons (dv 1) da_nil) (aCons_len aNil_len)))) (dw_or1 (dt_cmp (od_notIn c.t) (dv 1) (de_fn c c_turns (by omega) (by rfl) (da_cons (dv 0) da_nil) (aCons_len aNil_len)) (by rfl))))) (ds_one (ds_raise c k_NoTurn (by rfl))) ds_nil) (ds_cons (ds_asg (de_fn c c_lying (by omega) (by rfl) (da_cons (dv 1) da_nil) (aCons_len aNil_len)) (dg_pair c.t (i := 2) (j := 3) sc.nd rfl rfl (by first | exact Or.inl rfl | exact Or.inr rfl) (by first | exact Or.inl rfl | exact Or.inr rfl))) (ds_cons (ds_if (dt_truth c.t (de_fn c c_has_all (by omega) (by rfl) (da_cons (dv 0) (da_cons (dv 2) da_nil)) (aCons_len (aCons_len aNil_len)))) (ds_one (ds_ret (de_fn c c_exchanged (by omega) (by rfl) (da_cons (dv 0) (da_cons (dv 2) (da_cons (dv 3) da_nil))) (aCons_len (aCons_len (aCons_len aNil_len)))))) ds_nil) (ds_one (ds_ret (de_fn c c_exchanged (by omega) (by rfl) (da_cons (dv 0) (da_cons (dv 3) (da_cons (dv 2) da_nil))) (aCons_len (aCons_len (aCons_len aNil_len)))))))))
theorem ok_road {f : Addr} {fd : FuncData} (Fu : Fun T0.K "road" "road" s_road f fd) {f_turns : Addr} {fd_turns : FuncData} (c_turns : Def T0 mg base 2 "turns" f_turns fd_turns ["laying"] F_turns) {f_turned : Addr} {fd_turned : FuncData} (c_turned : Def T0 mg base 3 "turned" f_turned fd_turned ["laying", "square"] F_turned) {f_all_layings : Addr} {fd_all_layings : FuncData} (c_all_layings : Def T0 mg base 30 "all_layings" f_all_layings fd_all_layings ["floor"] F_all_layings) (m_len : mg "len" = none) : DFn T0 mg base 31 f fd ["floor", "one", "other"] F_road := by
  have sc := sc_road
  refine DFn.by (k := 30) (N := N_road) Fu sc fun cdv A outer s H E T c hp => ?_
  exact (ds_cons (ds_set (i := 3) sc.nd rfl (by first | exact Or.inl rfl | exact Or.inr rfl) (de_callB (cd_len c.t) (by rfl) m_len (by decide +kernel) (da_cons (de_fn c c_all_layings (by omega) (by rfl) (da_cons (dv 0) da_nil) (aCons_len aNil_len)) da_nil))) (ds_cons (ds_set (i := 4) sc.nd rfl (by first | exact Or.inl rfl | exact Or.inr rfl) (de_disp1 c.t (dv 1) de_non)) (ds_cons (ds_set (i := 5) sc.nd rfl (by first | exact Or.inl rfl | exact Or.inr rfl) (de_lstM (da_cons (dv 1) da_nil))) (ds_cons (ds_while 100000 hp (DW.dt (dw_and (dt_truth c.t (dv 5)) (dw_and (dt_cmp (od_notIn c.t) (dv 2) (dv 4) (by rfl)) (dw_and1 (dt_cmp (od_lt c.t) (de_callB (cd_len c.t) (by rfl) m_len (by decide +kernel) (da_cons (dv 4) da_nil)) (dv 3) (nomark _)))))) (ds_cons (ds_set (i := 6) sc.nd rfl (by first | exact Or.inl rfl | exact Or.inr rfl) (de_popAt (dv 5) (da_cons de_int da_nil))) (ds_one (ds_for hp c.t (di_any c.t (de_fn c c_turns (by omega) (by rfl) (da_cons (dv 6) da_nil) (aCons_len aNil_len))) (dg_name (i := 7) sc.nd rfl (by first | exact Or.inl rfl | exact Or.inr rfl)) (ds_cons (ds_set (i := 8) sc.nd rfl (by first | exact Or.inl rfl | exact Or.inr rfl) (de_fn c c_turned (by omega) (by rfl) (da_cons (dv 6) (da_cons (dv 7) da_nil)) (aCons_len (aCons_len aNil_len)))) (ds_one (ds_if (dt_cmp (od_notIn c.t) (dv 8) (dv 4) (by rfl)) (ds_cons (ds_dput c.t (dv 4) (dv 8) (de_tup (da_cons (dv 6) (da_cons (dv 7) da_nil)))) (ds_one (ds_expr (de_append (dv 5) (da_cons (dv 8) da_nil))))) ds_nil))))))) (ds_cons (ds_if (dt_cmp (od_notIn c.t) (dv 2) (dv 4) (by rfl)) (ds_one (ds_ret de_non)) ds_nil) (ds_cons (ds_set (i := 9) sc.nd rfl (by first | exact Or.inl rfl | exact Or.inr rfl) (de_lstM da_nil)) (ds_cons (ds_while 100000 hp (dt_cmp od_isNot (de_sub c.t (dv 4) (dv 2) (fun _ _ => rfl)) de_non (nomark _)) (ds_cons (ds_asg (de_sub c.t (dv 4) (dv 2) (fun _ _ => rfl)) (dg_pair c.t (i := 2) (j := 7) sc.nd rfl rfl (by first | exact Or.inl rfl | exact Or.inr rfl) (by first | exact Or.inl rfl | exact Or.inr rfl))) (ds_one (ds_expr (de_append (dv 9) (da_cons (dv 7) da_nil)))))) (ds_cons (ds_expr (de_reverse (dv 9))) (ds_one (ds_ret (de_frz (dv 9))))))))))))
theorem ok__law_cell {f : Addr} {fd : FuncData} (Fu : Fun T0.K "_law_cell" "_law_cell" s__law_cell f fd) (m_len : mg "len" = none) : DFn T0 mg base 1 f fd ["_law_script", "_law_k"] F__law_cell := by
  have sc := sc__law_cell
  refine DFn.by (k := 0) (N := N__law_cell) Fu sc fun cdv A outer s H E T c hp => ?_
  exact (ds_cons (ds_if (dt_cmp (od_lt c.t) (dv 1) (de_callB (cd_len c.t) (by rfl) m_len (by decide +kernel) (da_cons (dv 0) da_nil)) (nomark _)) (ds_one (ds_ret (de_sub c.t (dv 0) (dv 1) (fun _ _ => rfl)))) ds_nil) (ds_one (ds_ret de_int)))
theorem ok__law_mix {f : Addr} {fd : FuncData} (Fu : Fun T0.K "_law_mix" "_law_mix" s__law_mix f fd) : DFn T0 mg base 1 f fd ["_law_cell_here", "_law_prime", "_law_many"] F__law_mix := by
  have sc := sc__law_mix
  refine DFn.by (k := 0) (N := N__law_mix) Fu sc fun cdv A outer s H E T c hp => ?_
  exact (ds_one (ds_ret (de_op od_mod (de_op od_mod (de_op (od_mulS c.t) (dv 0) de_int) (dv 1)) (dv 2))))
theorem ok__law_floor {f : Addr} {fd : FuncData} (Fu : Fun T0.K "_law_floor" "_law_floor" s__law_floor f fd) {f__law_mix : Addr} {fd__law_mix : FuncData} (c__law_mix : Def T0 mg base 1 "_law_mix" f__law_mix fd__law_mix ["_law_cell_here", "_law_prime", "_law_many"] F__law_mix) {f__law_cell : Addr} {fd__law_cell : FuncData} (c__law_cell : Def T0 mg base 1 "_law_cell" f__law_cell fd__law_cell ["_law_script", "_law_k"] F__law_cell) (m_tuple : mg "tuple" = none) (m_range : mg "range" = none) (m_len : mg "len" = none) (m_min : mg "min" = none) (m_max : mg "max" = none) : DFn T0 mg base 2 f fd ["_law_script", "_law_at"] F__law_floor := by
  have sc := sc__law_floor
  refine DFn.by (k := 1) (N := N__law_floor) Fu sc fun cdv A outer s H E T c hp => ?_
  exact (ds_cons (ds_set (i := 2) sc.nd rfl (by first | exact Or.inl rfl | exact Or.inr rfl) (de_fn c c__law_cell (by omega) (by rfl) (da_cons (dv 0) (da_cons (dv 1) da_nil)) (aCons_len (aCons_len aNil_len)))) (ds_cons (ds_set (i := 3) sc.nd rfl (by first | exact Or.inl rfl | exact Or.inr rfl) (de_op od_add de_int (de_fn c c__law_mix (by omega) (by rfl) (da_cons (dv 2) (da_cons de_int (da_cons de_int da_nil))) (aCons_len (aCons_len (aCons_len aNil_len)))))) (ds_cons (ds_set (i := 4) sc.nd rfl (by first | exact Or.inl rfl | exact Or.inr rfl) (de_op od_add de_int (de_fn c c__law_mix (by omega) (by rfl) (da_cons (dv 2) (da_cons de_int (da_cons de_int da_nil))) (aCons_len (aCons_len (aCons_len aNil_len)))))) (ds_cons (ds_if (dt_cmp (od_eq c.t) (de_fn c c__law_mix (by omega) (by rfl) (da_cons (dv 2) (da_cons de_int (da_cons de_int da_nil))) (aCons_len (aCons_len (aCons_len aNil_len)))) de_int (nomark _)) (ds_cons (ds_set (i := 3) sc.nd rfl (by first | exact Or.inl rfl | exact Or.inr rfl) (de_sub c.t (de_lst (da_cons de_int (da_cons de_int (da_cons de_int (da_cons de_int da_nil))))) (de_fn c c__law_mix (by omega) (by rfl) (da_cons (dv 2) (da_cons de_int (da_cons de_int da_nil))) (aCons_len (aCons_len (aCons_len aNil_len)))) (fun _ _ => rfl))) (ds_one (ds_set (i := 4) sc.nd rfl (by first | exact Or.inl rfl | exact Or.inr rfl) (de_op od_div de_int (dv 3))))) ds_nil) (ds_cons (ds_set (i := 5) sc.nd rfl (by first | exact Or.inl rfl | exact Or.inr rfl) (de_fn c c__law_mix (by omega) (by rfl) (da_cons (de_fn c c__law_cell (by omega) (by rfl) (da_cons (dv 0) (da_cons (de_op od_add (dv 1) de_int) da_nil)) (aCons_len (aCons_len aNil_len))) (da_cons de_int (da_cons (de_op od_sub de_int (dv 3)) da_nil))) (aCons_len (aCons_len (aCons_len aNil_len))))) (ds_cons (ds_set (i := 6) sc.nd rfl (by first | exact Or.inl rfl | exact Or.inr rfl) (de_fn c c__law_mix (by omega) (by rfl) (da_cons (de_fn c c__law_cell (by omega) (by rfl) (da_cons (dv 0) (da_cons (de_op od_add (dv 1) de_int) da_nil)) (aCons_len (aCons_len aNil_len))) (da_cons de_int (da_cons (de_callB (cd_max2 c.t) (by rfl) m_max (by decide +kernel) (da_cons de_int (da_cons (de_op od_sub de_int (dv 4)) da_nil))) da_nil))) (aCons_len (aCons_len (aCons_len aNil_len))))) (ds_cons (ds_set (i := 7) sc.nd rfl (by first | exact Or.inl rfl | exact Or.inr rfl) (de_lst da_nil)) (ds_cons (ds_for hp c.t (di_range1 (by rfl) m_range (da_cons (dv 3) da_nil)) (dg_name (i := 8) sc.nd rfl (by first | exact Or.inl rfl | exact Or.inr rfl)) (ds_one (ds_set (i := 7) sc.nd rfl (by first | exact Or.inl rfl | exact Or.inr rfl) (de_op od_add (dv 7) (de_lcC c sc.nd (di_range1 (by rfl) m_range (da_cons (de_callB (cd_min2 c.t) (by rfl) m_min (by decide +kernel) (da_cons (dv 4) (da_cons de_int da_nil))) da_nil)) (blkOk_by (own := [("_law_c", 14)]) (N := N__law_floor) (sc := defScope s__law_floor) (by decide +kernel)) (fun _ _ _ _ _ => pg_name (i := 14) sc.nd rfl (by first | exact Or.inl rfl | exact Or.inr rfl)) (fun _ _ _ _ _ _ c => dts_nil) (fun _ _ _ _ _ _ c => (de_tup (da_cons (de_op od_add (dv 5) (dv 8)) (da_cons (de_op od_add (dv 6) (dv 14)) da_nil))))))))) (ds_cons (ds_set (i := 9) sc.nd rfl (by first | exact Or.inl rfl | exact Or.inr rfl) (de_lstM da_nil)) (ds_cons (ds_for hp c.t (di_range1 (by rfl) m_range (da_cons (de_fn c c__law_mix (by omega) (by rfl) (da_cons (de_fn c c__law_cell (by omega) (by rfl) (da_cons (dv 0) (da_cons (de_op od_add (dv 1) de_int) da_nil)) (aCons_len (aCons_len aNil_len))) (da_cons de_int (da_cons de_int da_nil))) (aCons_len (aCons_len (aCons_len aNil_len)))) da_nil)) (dg_name (i := 10) sc.nd rfl (by first | exact Or.inl rfl | exact Or.inr rfl)) (ds_cons (ds_set (i := 11) sc.nd rfl (by first | exact Or.inl rfl | exact Or.inr rfl) (de_op od_add (de_fn c c__law_cell (by omega) (by rfl) (da_cons (dv 0) (da_cons (de_op od_add (de_op od_add (dv 1) de_int) (dv 10)) da_nil)) (aCons_len (aCons_len aNil_len))) (de_op (od_mulS c.t) (de_op (od_mulS c.t) de_int (dv 10)) (dv 10)))) (ds_cons (ds_set (i := 12) sc.nd rfl (by first | exact Or.inl rfl | exact Or.inr rfl) (de_sub c.t (dv 7) (de_fn c c__law_mix (by omega) (by rfl) (da_cons (dv 11) (da_cons de_int (da_cons (de_callB (cd_len c.t) (by rfl) m_len (by decide +kernel) (da_cons (dv 7) da_nil)) da_nil))) (aCons_len (aCons_len (aCons_len aNil_len)))) (fun _ _ => rfl))) (ds_cons (ds_expr (de_append (dv 9) (da_cons (dv 12) da_nil))) (ds_one (ds_if (dt_cmp (od_gt c.t) (de_fn c c__law_mix (by omega) (by rfl) (da_cons (dv 11) (da_cons de_int (da_cons de_int da_nil))) (aCons_len (aCons_len (aCons_len aNil_len)))) de_int (nomark _)) (ds_one (ds_expr (de_append (dv 9) (da_cons (de_tup (da_cons (de_sub c.t (dv 12) de_int (fun _ _ => rfl)) (da_cons (de_op od_add (de_sub c.t (dv 12) de_int (fun _ _ => rfl)) de_int) da_nil))) da_nil)))) ds_nil)))))) (ds_cons (ds_set (i := 13) sc.nd rfl (by first | exact Or.inl rfl | exact Or.inr rfl) (de_callTy (cd_tuple c.t) (by rfl) m_tuple (by decide +kernel) (da_cons (de_lcC c sc.nd (di_any c.t (dv 7)) (blkOk_by (own := [("_law_one", 12)]) (N := N__law_floor) (sc := defScope s__law_floor) (by decide +kernel)) (fun _ _ _ _ _ => pg_name (i := 12) sc.nd rfl (by first | exact Or.inl rfl | exact Or.inr rfl)) (fun _ _ _ _ _ _ c => (dts_one (dt_cmp (od_notIn c.t) (dv 12) (dv 9) (by rfl)))) (fun _ _ _ _ _ _ c => (dv 12))) da_nil))) (ds_cons (ds_if (dt_truth c.t (dv 13)) (ds_one (ds_ret (dv 13))) ds_nil) (ds_one (ds_ret (de_callTy (cd_tuple c.t) (by rfl) m_tuple (by decide +kernel) (da_cons (dv 7) da_nil))))))))))))))))
theorem ok__law_near {f : Addr} {fd : FuncData} (Fu : Fun T0.K "_law_near" "_law_near" s__law_near f fd) : DFn T0 mg base 1 f fd ["_law_floor_here", "_law_square"] F__law_near := by
  have sc := sc__law_near
  refine DFn.by (k := 0) (N := N__law_near) Fu sc fun cdv A outer s H E T c hp => ?_
  exact (ds_cons (ds_asg (dv 1) (dg_pair c.t (i := 2) (j := 3) sc.nd rfl rfl (by first | exact Or.inl rfl | exact Or.inr rfl) (by first | exact Or.inl rfl | exact Or.inr rfl))) (ds_one (ds_ret (de_lcC c sc.nd (di_any c.t (de_lst (da_cons (de_tup (da_cons (de_op od_sub (dv 2) de_int) (da_cons (dv 3) da_nil))) (da_cons (de_tup (da_cons (dv 2) (da_cons (de_op od_sub (dv 3) de_int) da_nil))) (da_cons (de_tup (da_cons (dv 2) (da_cons (de_op od_add (dv 3) de_int) da_nil))) (da_cons (de_tup (da_cons (de_op od_add (dv 2) de_int) (da_cons (dv 3) da_nil))) da_nil)))))) (blkOk_by (own := [("_law_one", 4)]) (N := N__law_near) (sc := defScope s__law_near) (by decide +kernel)) (fun _ _ _ _ _ => pg_name (i := 4) sc.nd rfl (by first | exact Or.inl rfl | exact Or.inr rfl)) (fun _ _ _ _ _ _ c => (dts_one (dt_cmp (od_in c.t) (dv 4) (dv 0) (by rfl)))) (fun _ _ _ _ _ _ c => (dv 4))))))
theorem ok__law_every {f__law_every : Addr} {fd__law_every : FuncData} (Fu : Fun T0.K "_law_every" "_law_every" s__law_every f__law_every fd__law_every) (g__law_every' : mg "_law_every" = some (.ref f__law_every)) (b__law_every : Binds T0.K fd__law_every ["_law_floor_here", "_law_known"] []) {f__law_near : Addr} {fd__law_near : FuncData} (c__law_near : Def T0 mg base 1 "_law_near" f__law_near fd__law_near ["_law_floor_here", "_law_square"] F__law_near) (m_tuple : mg "tuple" = none) : ∀ n : Nat, DFn T0 mg base (1 + n) f__law_every fd__law_every ["_law_floor_here", "_law_known"] (F__law_every n)
  | 0 => DFn.bad
  | n + 1 => by
    have c__law_every : Def T0 mg base (1 + n) "_law_every" f__law_every fd__law_every ["_law_floor_here", "_law_known"] (F__law_every n) := ⟨ok__law_every Fu g__law_every' b__law_every c__law_near m_tuple n, g__law_every', Fu.kp, b__law_every⟩
    have sc := sc__law_every
    refine DFn.by (k := 1 + n) (N := N__law_every) Fu sc fun cdv A outer s H E T c hp => ?_
    exact (ds_cons (ds_if (dt_not (dt_truth c.t (dv 0))) (ds_one (ds_ret (de_lst (da_cons (de_lst da_nil) da_nil)))) ds_nil) (ds_cons (ds_if (dt_cmp (od_notIn c.t) (dv 0) (dv 1) (by rfl)) (ds_cons (ds_set (i := 2) sc.nd rfl (by first | exact Or.inl rfl | exact Or.inr rfl) (de_lst da_nil)) (ds_cons (ds_set (i := 3) sc.nd rfl (by first | exact Or.inl rfl | exact Or.inr rfl) (de_sub c.t (dv 0) (de_neg de_int) (fun _ _ => rfl))) (ds_cons (ds_for hp c.t (di_any c.t (de_fn c c__law_near (by omega) (by rfl) (da_cons (dv 0) (da_cons (dv 3) da_nil)) (aCons_len (aCons_len aNil_len)))) (dg_name (i := 4) sc.nd rfl (by first | exact Or.inl rfl | exact Or.inr rfl)) (ds_cons (ds_set (i := 5) sc.nd rfl (by first | exact Or.inl rfl | exact Or.inr rfl) (de_callTy (cd_tuple c.t) (by rfl) m_tuple (by decide +kernel) (da_cons (de_lcC c sc.nd (di_any c.t (dv 0)) (blkOk_by (own := [("_law_one", 6)]) (N := N__law_every) (sc := defScope s__law_every) (by decide +kernel)) (fun _ _ _ _ _ => pg_name (i := 6) sc.nd rfl (by first | exact Or.inl rfl | exact Or.inr rfl)) (fun _ _ _ _ _ _ c => (dts_one (DW.dt (dw_and (dt_cmp (od_ne c.t) (dv 6) (dv 3) (nomark _)) (dw_and1 (dt_cmp (od_ne c.t) (dv 6) (dv 4) (nomark _))))))) (fun _ _ _ _ _ _ c => (dv 6))) da_nil))) (ds_one (ds_set (i := 2) sc.nd rfl (by first | exact Or.inl rfl | exact Or.inr rfl) (de_op od_add (dv 2) (de_lcC c sc.nd (di_any c.t (de_fn c c__law_every (by omega) (by rfl) (da_cons (dv 5) (da_cons (dv 1) da_nil)) (aCons_len (aCons_len aNil_len)))) (blkOk_by (own := [("_law_row", 7)]) (N := N__law_every) (sc := defScope s__law_every) (by decide +kernel)) (fun _ _ _ _ _ => pg_name (i := 7) sc.nd rfl (by first | exact Or.inl rfl | exact Or.inr rfl)) (fun _ _ _ _ _ _ c => dts_nil) (fun _ _ _ _ _ _ c => (de_op od_add (dv 7) (de_lst (da_cons (de_tup (da_cons (dv 4) (da_cons (dv 3) da_nil))) da_nil)))))))))) (ds_one (ds_dput c.t (dv 1) (dv 0) (dv 2)))))) ds_nil) (ds_one (ds_ret (de_sub c.t (dv 1) (dv 0) (fun _ _ => rfl))))))
theorem ok__law_all {f : Addr} {fd : FuncData} (Fu : Fun T0.K "_law_all" "_law_all" s__law_all f fd) {f__law_every : Addr} {fd__law_every : FuncData} (c__law_every : Def T0 mg base 27 "_law_every" f__law_every fd__law_every ["_law_floor_here", "_law_known"] (F__law_every 26)) (m_sorted : mg "sorted" = none) (m_tuple : mg "tuple" = none) : DFn T0 mg base 28 f fd ["_law_floor_here"] F__law_all := by
  have sc := sc__law_all
  refine DFn.by (k := 27) (N := N__law_all) Fu sc fun cdv A outer s H E T c hp => ?_
  exact (ds_one (ds_ret (de_callB (cd_sortedL c.t) (by rfl) m_sorted (by decide +kernel) (da_cons (de_lcC c sc.nd (di_any c.t (de_fn c c__law_every (by omega) (by rfl) (da_cons (dv 0) (da_cons de_dict da_nil)) (aCons_len (aCons_len aNil_len)))) (blkOk_by (own := [("_law_row", 1)]) (N := N__law_all) (sc := defScope s__law_all) (by decide +kernel)) (fun _ _ _ _ _ => pg_name (i := 1) sc.nd rfl (by first | exact Or.inl rfl | exact Or.inr rfl)) (fun _ _ _ _ _ _ c => dts_nil) (fun _ _ _ _ _ _ c => (de_callTy (cd_tuple c.t) (by rfl) m_tuple (by decide +kernel) (da_cons (de_callB (cd_sortedL c.t) (by rfl) m_sorted (by decide +kernel) (da_cons (dv 1) da_nil)) da_nil)))) da_nil))))
theorem ok__law_four {f : Addr} {fd : FuncData} (Fu : Fun T0.K "_law_four" "_law_four" s__law_four f fd) : DFn T0 mg base 1 f fd ["_law_square"] F__law_four := by
  have sc := sc__law_four
  refine DFn.by (k := 0) (N := N__law_four) Fu sc fun cdv A outer s H E T c hp => ?_
  exact (ds_cons (ds_asg (dv 0) (dg_pair c.t (i := 1) (j := 2) sc.nd rfl rfl (by first | exact Or.inl rfl | exact Or.inr rfl) (by first | exact Or.inl rfl | exact Or.inr rfl))) (ds_cons (ds_set (i := 3) sc.nd rfl (by first | exact Or.inl rfl | exact Or.inr rfl) (de_lst (da_cons (de_tup (da_cons (de_tup (da_cons (dv 1) (da_cons (dv 2) da_nil))) (da_cons (de_tup (da_cons (dv 1) (da_cons (de_op od_add (dv 2) de_int) da_nil))) da_nil))) (da_cons (de_tup (da_cons (de_tup (da_cons (de_op od_add (dv 1) de_int) (da_cons (dv 2) da_nil))) (da_cons (de_tup (da_cons (de_op od_add (dv 1) de_int) (da_cons (de_op od_add (dv 2) de_int) da_nil))) da_nil))) da_nil)))) (ds_one (ds_ret (de_tup (da_cons (dv 3) (da_cons (de_lst (da_cons (de_tup (da_cons (de_tup (da_cons (dv 1) (da_cons (dv 2) da_nil))) (da_cons (de_tup (da_cons (de_op od_add (dv 1) de_int) (da_cons (dv 2) da_nil))) da_nil))) (da_cons (de_tup (da_cons (de_tup (da_cons (dv 1) (da_cons (de_op od_add (dv 2) de_int) da_nil))) (da_cons (de_tup (da_cons (de_op od_add (dv 1) de_int) (da_cons (de_op od_add (dv 2) de_int) da_nil))) da_nil))) da_nil))) da_nil)))))))
theorem ok__law_turns {f : Addr} {fd : FuncData} (Fu : Fun T0.K "_law_turns" "_law_turns" s__law_turns f fd) {f__law_four : Addr} {fd__law_four : FuncData} (c__law_four : Def T0 mg base 1 "_law_four" f__law_four fd__law_four ["_law_square"] F__law_four) (m_range : mg "range" = none) (m_len : mg "len" = none) : DFn T0 mg base 2 f fd ["_law_laying"] F__law_turns := by
  have sc := sc__law_turns
  refine DFn.by (k := 1) (N := N__law_turns) Fu sc fun cdv A outer s H E T c hp => ?_
  exact (ds_cons (ds_set (i := 1) sc.nd rfl (by first | exact Or.inl rfl | exact Or.inr rfl) (de_lstM da_nil)) (ds_cons (ds_for hp c.t (di_range1 (by rfl) m_range (da_cons de_int da_nil)) (dg_name (i := 2) sc.nd rfl (by first | exact Or.inl rfl | exact Or.inr rfl)) (ds_one (ds_for hp c.t (di_range1 (by rfl) m_range (da_cons de_int da_nil)) (dg_name (i := 3) sc.nd rfl (by first | exact Or.inl rfl | exact Or.inr rfl)) (ds_cons (ds_asg (de_fn c c__law_four (by omega) (by rfl) (da_cons (de_tup (da_cons (dv 2) (da_cons (dv 3) da_nil))) da_nil) (aCons_len aNil_len)) (dg_pair c.t (i := 4) (j := 5) sc.nd rfl rfl (by first | exact Or.inl rfl | exact Or.inr rfl) (by first | exact Or.inl rfl | exact Or.inr rfl))) (ds_cons (ds_set (i := 6) sc.nd rfl (by first | exact Or.inl rfl | exact Or.inr rfl) (de_callB (cd_len c.t) (by rfl) m_len (by decide +kernel) (da_cons (de_lcC c sc.nd (di_any c.t (dv 4)) (blkOk_by (own := [("_law_one", 7)]) (N := N__law_turns) (sc := defScope s__law_turns) (by decide +kernel)) (fun _ _ _ _ _ => pg_name (i := 7) sc.nd rfl (by first | exact Or.inl rfl | exact Or.inr rfl)) (fun _ _ _ _ _ _ c => (dts_one (dt_cmp (od_in c.t) (dv 7) (dv 0) (by rfl)))) (fun _ _ _ _ _ _ c => (dv 7))) da_nil))) (ds_one (ds_if (DW.dt (dw_or (dt_cmp (od_eq c.t) (dv 6) de_int (nomark _)) (dw_or1 (dt_cmp (od_eq c.t) (de_callB (cd_len c.t) (by rfl) m_len (by decide +kernel) (da_cons (de_lcC c sc.nd (di_any c.t (dv 5)) (blkOk_by (own := [("_law_one", 7)]) (N := N__law_turns) (sc := defScope s__law_turns) (by decide +kernel)) (fun _ _ _ _ _ => pg_name (i := 7) sc.nd rfl (by first | exact Or.inl rfl | exact Or.inr rfl)) (fun _ _ _ _ _ _ c => (dts_one (dt_cmp (od_in c.t) (dv 7) (dv 0) (by rfl)))) (fun _ _ _ _ _ _ c => (dv 7))) da_nil)) de_int (nomark _))))) (ds_one (ds_expr (de_append (dv 1) (da_cons (de_tup (da_cons (dv 2) (da_cons (dv 3) da_nil))) da_nil)))) ds_nil))))))) (ds_one (ds_ret (de_frz (dv 1))))))
theorem ok__law_turned {f : Addr} {fd : FuncData} (Fu : Fun T0.K "_law_turned" "_law_turned" s__law_turned f fd) {f__law_four : Addr} {fd__law_four : FuncData} (c__law_four : Def T0 mg base 1 "_law_four" f__law_four fd__law_four ["_law_square"] F__law_four) (m_tuple : mg "tuple" = none) (m_sorted : mg "sorted" = none) : DFn T0 mg base 2 f fd ["_law_laying", "_law_square"] F__law_turned := by
  have sc := sc__law_turned
  refine DFn.by (k := 1) (N := N__law_turned) Fu sc fun cdv A outer s H E T c hp => ?_
  exact (ds_cons (ds_asg (de_fn c c__law_four (by omega) (by rfl) (da_cons (dv 1) da_nil) (aCons_len aNil_len)) (dg_pair c.t (i := 2) (j := 3) sc.nd rfl rfl (by first | exact Or.inl rfl | exact Or.inr rfl) (by first | exact Or.inl rfl | exact Or.inr rfl))) (ds_cons (ds_if (dt_cmp (od_in c.t) (de_sub c.t (dv 2) de_int (fun _ _ => rfl)) (dv 0) (by rfl)) (ds_one (ds_ret (de_callTy (cd_tuple c.t) (by rfl) m_tuple (by decide +kernel) (da_cons (de_callB (cd_sortedL c.t) (by rfl) m_sorted (by decide +kernel) (da_cons (de_op od_add (de_lcC c sc.nd (di_any c.t (dv 0)) (blkOk_by (own := [("_law_one", 4)]) (N := N__law_turned) (sc := defScope s__law_turned) (by decide +kernel)) (fun _ _ _ _ _ => pg_name (i := 4) sc.nd rfl (by first | exact Or.inl rfl | exact Or.inr rfl)) (fun _ _ _ _ _ _ c => (dts_one (dt_cmp (od_notIn c.t) (dv 4) (dv 2) (by rfl)))) (fun _ _ _ _ _ _ c => (dv 4))) (dv 3)) da_nil)) da_nil)))) ds_nil) (ds_one (ds_ret (de_callTy (cd_tuple c.t) (by rfl) m_tuple (by decide +kernel) (da_cons (de_callB (cd_sortedL c.t) (by rfl) m_sorted (by decide +kernel) (da_cons (de_op od_add (de_lcC c sc.nd (di_any c.t (dv 0)) (blkOk_by (own := [("_law_one", 4)]) (N := N__law_turned) (sc := defScope s__law_turned) (by decide +kernel)) (fun _ _ _ _ _ => pg_name (i := 4) sc.nd rfl (by first | exact Or.inl rfl | exact Or.inr rfl)) (fun _ _ _ _ _ _ c => (dts_one (dt_cmp (od_notIn c.t) (dv 4) (dv 3) (by rfl)))) (fun _ _ _ _ _ _ c => (dv 4))) (dv 2)) da_nil)) da_nil))))))
theorem ok__law_told {f : Addr} {fd : FuncData} (Fu : Fun T0.K "_law_told" "_law_told" s__law_told f fd) (k_FloorError : Cls T0 mg 0 "FloorError") {f_road : Addr} {fd_road : FuncData} (c_road : Def T0 mg base 31 "road" f_road fd_road ["floor", "one", "other"] F_road) (k_TooMany : Cls T0 mg 3 "TooMany") (m_isinstance : mg "isinstance" = none) (m_ValueError : mg "ValueError" = none) (xm_FloorError : ∀ (n : Nat) (b : Bool), P_FloorError n = some b → PySem.W.exmOne T0.K (.ref (T0.ct n)) (.ref (T0.ct 0)) = some b) (is2_TooMany_ValueError : ∀ (n : Nat) (b : Bool × Bool), R2_TooMany_ValueError n = some b → ExcC T0.K (T0.ct n) ∧ PySem.W.kitOne T0.K (.ref (T0.ct n)) (.ref (T0.ct 3)) = some b.1 ∧ PySem.W.kitOne T0.K (.ref (T0.ct n)) (.type "ValueError") = some b.2) : DFn T0 mg base 32 f fd ["_law_floor_here", "_law_one", "_law_other"] F__law_told := by
  have sc := sc__law_told
  refine DFn.by (k := 31) (N := N__law_told) Fu sc fun cdv A outer s H E T c hp => ?_
  exact (ds_one (ds_tryIs2 (i := 3) (a1 := 3) c rfl rfl sc.nd rfl rfl (Or.inl rfl) ⟨by rfl, by decide, Or.inl k_FloorError.g⟩ xm_FloorError is2_TooMany_ValueError (by rfl) m_isinstance (by rfl) k_TooMany.g (by rfl) m_ValueError (by decide +kernel) (fun _ _ _ c => (ds_one (ds_ret (de_fn c c_road (by omega) (by rfl) (da_cons (dv 0) (da_cons (dv 1) (da_cons (dv 2) da_nil))) (aCons_len (aCons_len (aCons_len aNil_len)))))))))
theorem ok__law_far {f : Addr} {fd : FuncData} (Fu : Fun T0.K "_law_far" "_law_far" s__law_far f fd) {f__law_turns : Addr} {fd__law_turns : FuncData} (c__law_turns : Def T0 mg base 2 "_law_turns" f__law_turns fd__law_turns ["_law_laying"] F__law_turns) {f__law_turned : Addr} {fd__law_turned : FuncData} (c__law_turned : Def T0 mg base 2 "_law_turned" f__law_turned fd__law_turned ["_law_laying", "_law_square"] F__law_turned) : DFn T0 mg base 3 f fd ["_law_one", "_law_other"] F__law_far := by
  have sc := sc__law_far
  refine DFn.by (k := 2) (N := N__law_far) Fu sc fun cdv A outer s H E T c hp => ?_
  exact (ds_cons (ds_set (i := 2) sc.nd rfl (by first | exact Or.inl rfl | exact Or.inr rfl) (de_disp1 c.t (dv 0) de_int)) (ds_cons (ds_set (i := 3) sc.nd rfl (by first | exact Or.inl rfl | exact Or.inr rfl) (de_lstM (da_cons (dv 0) da_nil))) (ds_cons (ds_while 100000 hp (dt_truth c.t (dv 3)) (ds_cons (ds_set (i := 4) sc.nd rfl (by first | exact Or.inl rfl | exact Or.inr rfl) (de_popAt (dv 3) (da_cons de_int da_nil))) (ds_cons (ds_if (dt_cmp (od_eq c.t) (dv 4) (dv 1) (nomark _)) (ds_one (ds_ret (de_sub c.t (dv 2) (dv 4) (fun _ _ => rfl)))) ds_nil) (ds_one (ds_for hp c.t (di_any c.t (de_fn c c__law_turns (by omega) (by rfl) (da_cons (dv 4) da_nil) (aCons_len aNil_len))) (dg_name (i := 5) sc.nd rfl (by first | exact Or.inl rfl | exact Or.inr rfl)) (ds_cons (ds_set (i := 6) sc.nd rfl (by first | exact Or.inl rfl | exact Or.inr rfl) (de_fn c c__law_turned (by omega) (by rfl) (da_cons (dv 4) (da_cons (dv 5) da_nil)) (aCons_len (aCons_len aNil_len)))) (ds_one (ds_if (dt_cmp (od_notIn c.t) (dv 6) (dv 2) (by rfl)) (ds_cons (ds_dput c.t (dv 2) (dv 6) (de_op od_add (de_sub c.t (dv 2) (dv 4) (fun _ _ => rfl)) de_int)) (ds_one (ds_expr (de_append (dv 3) (da_cons (dv 6) da_nil))))) ds_nil)))))))) (ds_one (ds_ret de_non)))))
theorem ok_law {f : Addr} {fd : FuncData} (Fu : Fun T0.K "law" "law" s_law f fd) {f__law_turned : Addr} {fd__law_turned : FuncData} (c__law_turned : Def T0 mg base 2 "_law_turned" f__law_turned fd__law_turned ["_law_laying", "_law_square"] F__law_turned) {f__law_turns : Addr} {fd__law_turns : FuncData} (c__law_turns : Def T0 mg base 2 "_law_turns" f__law_turns fd__law_turns ["_law_laying"] F__law_turns) {f__law_far : Addr} {fd__law_far : FuncData} (c__law_far : Def T0 mg base 3 "_law_far" f__law_far fd__law_far ["_law_one", "_law_other"] F__law_far) {f__law_told : Addr} {fd__law_told : FuncData} (c__law_told : Def T0 mg base 32 "_law_told" f__law_told fd__law_told ["_law_floor_here", "_law_one", "_law_other"] F__law_told) {f__law_cell : Addr} {fd__law_cell : FuncData} (c__law_cell : Def T0 mg base 1 "_law_cell" f__law_cell fd__law_cell ["_law_script", "_law_k"] F__law_cell) {f__law_all : Addr} {fd__law_all : FuncData} (c__law_all : Def T0 mg base 28 "_law_all" f__law_all fd__law_all ["_law_floor_here"] F__law_all) {f__law_floor : Addr} {fd__law_floor : FuncData} (c__law_floor : Def T0 mg base 2 "_law_floor" f__law_floor fd__law_floor ["_law_script", "_law_at"] F__law_floor) (m_isinstance : mg "isinstance" = none) (m_list : mg "list" = none) (m_len : mg "len" = none) : DFn T0 mg base 33 f fd ["_law_script"] F_law := by
  have sc := sc_law
  refine DFn.by (k := 32) (N := N_law) Fu sc fun cdv A outer s H E T c hp => ?_
  exact (ds_cons (ds_set (i := 1) sc.nd rfl (by first | exact Or.inl rfl | exact Or.inr rfl) (de_fn c c__law_floor (by omega) (by rfl) (da_cons (dv 0) (da_cons de_int da_nil)) (aCons_len (aCons_len aNil_len)))) (ds_cons (ds_set (i := 2) sc.nd rfl (by first | exact Or.inl rfl | exact Or.inr rfl) (de_fn c c__law_all (by omega) (by rfl) (da_cons (dv 1) da_nil) (aCons_len aNil_len))) (ds_cons (ds_if (dt_not (dt_truth c.t (dv 2))) (ds_one (ds_ret de_bl)) ds_nil) (ds_cons (ds_set (i := 3) sc.nd rfl (by first | exact Or.inl rfl | exact Or.inr rfl) (de_sub c.t (dv 2) (de_op od_mod (de_fn c c__law_cell (by omega) (by rfl) (da_cons (dv 0) (da_cons de_int da_nil)) (aCons_len (aCons_len aNil_len))) (de_callB (cd_len c.t) (by rfl) m_len (by decide +kernel) (da_cons (dv 2) da_nil))) (fun _ _ => rfl))) (ds_cons (ds_set (i := 4) sc.nd rfl (by first | exact Or.inl rfl | exact Or.inr rfl) (de_sub c.t (dv 2) (de_op od_mod (de_fn c c__law_cell (by omega) (by rfl) (da_cons (dv 0) (da_cons de_int da_nil)) (aCons_len (aCons_len aNil_len))) (de_callB (cd_len c.t) (by rfl) m_len (by decide +kernel) (da_cons (dv 2) da_nil))) (fun _ _ => rfl))) (ds_cons (ds_set (i := 5) sc.nd rfl (by first | exact Or.inl rfl | exact Or.inr rfl) (de_fn c c__law_told (by omega) (by rfl) (da_cons (dv 1) (da_cons (dv 3) (da_cons (dv 4) da_nil))) (aCons_len (aCons_len (aCons_len aNil_len))))) (ds_cons (ds_if (dt_cmp (od_gt c.t) (de_callB (cd_len c.t) (by rfl) m_len (by decide +kernel) (da_cons (dv 2) da_nil)) de_int (nomark _)) (ds_one (ds_ret (de_cmp (od_eq c.t) (dv 5) (de_lst (da_cons de_bl (da_cons de_bl da_nil))) (nomark _)))) ds_nil) (ds_cons (ds_set (i := 6) sc.nd rfl (by first | exact Or.inl rfl | exact Or.inr rfl) de_non) (ds_cons (ds_if (dt_cmp (od_le c.t) (de_callB (cd_len c.t) (by rfl) m_len (by decide +kernel) (da_cons (dv 2) da_nil)) de_int (nomark _)) (ds_cons (ds_set (i := 6) sc.nd rfl (by first | exact Or.inl rfl | exact Or.inr rfl) (de_fn c c__law_far (by omega) (by rfl) (da_cons (dv 3) (da_cons (dv 4) da_nil)) (aCons_len (aCons_len aNil_len)))) (ds_one (ds_if (DW.dt (dw_or (dt_cmp (od_ne c.t) (de_cmp od_is (dv 5) de_non (nomark _)) (de_cmp od_is (dv 6) de_non (nomark _)) (nomark _)) (dw_or1 (DW.dt (dw_and (dt_cmp od_isNot (dv 6) de_non (nomark _)) (dw_and1 (dt_cmp (od_ne c.t) (de_callB (cd_len c.t) (by rfl) m_len (by decide +kernel) (da_cons (dv 5) da_nil)) (dv 6) (nomark _)))))))) (ds_one (ds_ret de_bl)) ds_nil))) ds_nil) (ds_cons (ds_if (dt_cmp od_is (dv 5) de_non (nomark _)) (ds_one (ds_ret de_bl)) ds_nil) (ds_cons (ds_set (i := 7) sc.nd rfl (by first | exact Or.inl rfl | exact Or.inr rfl) (dv 3)) (ds_cons (ds_for hp c.t (di_any c.t (dv 5)) (dg_name (i := 8) sc.nd rfl (by first | exact Or.inl rfl | exact Or.inr rfl)) (ds_cons (ds_if (dt_cmp (od_notIn c.t) (dv 8) (de_fn c c__law_turns (by omega) (by rfl) (da_cons (dv 7) da_nil) (aCons_len aNil_len)) (by rfl)) (ds_one (ds_ret de_bl)) ds_nil) (ds_one (ds_set (i := 7) sc.nd rfl (by first | exact Or.inl rfl | exact Or.inr rfl) (de_fn c c__law_turned (by omega) (by rfl) (da_cons (dv 7) (da_cons (dv 8) da_nil)) (aCons_len (aCons_len aNil_len))))))) (ds_one (ds_ret (de_and (de_isi c.t (t := "list") (by rfl) m_isinstance (by rfl) m_list (by decide +kernel) (dv 5)) (de_one (de_cmp (od_eq c.t) (dv 7) (dv 4) (nomark _))))))))))))))))))
end
theorem all_mk {P : Program} {w : World} {K : PySem.W.Frag} {h : Heap} {mg : Str → Option Value} {fa : Addr} (X : K.In h) (G : h.Ns mainGlobals mg) (hfa : mg "law" = some (.ref fa))
    {f0 f1 f2 f3 f4 f5 f6 f7 f8 f9 f10 f11 f12 f13 f14 f15 f16 f17 f18 f19 f20 f21 f22 f23 f24 f25 : Addr} {od0 an0 od1 an1 od2 an2 od3 an3 od4 an4 od5 an5 od6 an6 od7 an7 od8 an8 od9 an9 od10 an10 od11 an11 od12 an12 od13 an13 od14 an14 od15 an15 od16 an16 od17 an17 od18 an18 od19 an19 od20 an20 od21 an21 od22 an22 od23 an23 od24 an24 od25 an25 : Option Addr} {sl0 sl1 sl2 sl3 sl4 sl5 sl6 sl7 sl8 sl9 sl10 sl11 sl12 sl13 sl14 sl15 sl16 sl17 sl18 sl19 sl20 sl21 sl22 sl23 sl24 sl25 : Array (Option Value)} {oc0 kV0 dc0 pm0 cd0 ct0 oc1 kV1 dc1 pm1 cd1 ct1 oc2 kV2 dc2 pm2 cd2 ct2 oc3 kV3 dc3 pm3 cd3 ct3 oc4 kV4 dc4 pm4 cd4 ct4 oc5 kV5 dc5 pm5 cd5 ct5 oc6 kV6 dc6 pm6 cd6 ct6 oc7 kV7 dc7 pm7 cd7 ct7 oc8 kV8 dc8 pm8 cd8 ct8 oc9 kV9 dc9 pm9 cd9 ct9 oc10 kV10 dc10 pm10 cd10 ct10 oc11 kV11 dc11 pm11 cd11 ct11 oc12 kV12 dc12 pm12 cd12 ct12 oc13 kV13 dc13 pm13 cd13 ct13 oc14 kV14 dc14 pm14 cd14 ct14 oc15 kV15 dc15 pm15 cd15 ct15 oc16 kV16 dc16 pm16 cd16 ct16 oc17 kV17 dc17 pm17 cd17 ct17 oc18 kV18 dc18 pm18 cd18 ct18 oc19 kV19 dc19 pm19 cd19 ct19 oc20 kV20 dc20 pm20 cd20 ct20 oc21 kV21 dc21 pm21 cd21 ct21 oc22 kV22 dc22 pm22 cd22 ct22 oc23 kV23 dc23 pm23 cd23 ct23 oc24 kV24 dc24 pm24 cd24 ct24 oc25 kV25 dc25 pm25 cd25 ct25 : Value} {t_LAST t_MOST_LAYINGS : Tok}
    {C_TooMany C_NoTurn C_FloorError : Addr}
    (a0 : PySem.W.nsIn K mainGlobals "is_within" = some (some (.ref f0))) (l0 : K.lookup f0 = some ⟨oc0, od0, .func (PySem.W.fnOf "is_within" "is_within" (defArgs s_is_within) (defBody s_is_within) (defScope s_is_within) .none kV0 dc0 pm0 an0 cd0 ct0), sl0⟩) (c0 : PySem.W.codeIn K cd0 "is_within" = true) (k0 : PySem.W.keepIn K (.ref f0) = true)
    (a1 : PySem.W.nsIn K mainGlobals "is_square" = some (some (.ref f1))) (l1 : K.lookup f1 = some ⟨oc1, od1, .func (PySem.W.fnOf "is_square" "is_square" (defArgs s_is_square) (defBody s_is_square) (defScope s_is_square) .none kV1 dc1 pm1 an1 cd1 ct1), sl1⟩) (c1 : PySem.W.codeIn K cd1 "is_square" = true) (k1 : PySem.W.keepIn K (.ref f1) = true)
    (a2 : PySem.W.nsIn K mainGlobals "beside" = some (some (.ref f2))) (l2 : K.lookup f2 = some ⟨oc2, od2, .func (PySem.W.fnOf "beside" "beside" (defArgs s_beside) (defBody s_beside) (defScope s_beside) .none kV2 dc2 pm2 an2 cd2 ct2), sl2⟩) (c2 : PySem.W.codeIn K cd2 "beside" = true) (k2 : PySem.W.keepIn K (.ref f2) = true)
    (a3 : PySem.W.nsIn K mainGlobals "neighbours" = some (some (.ref f3))) (l3 : K.lookup f3 = some ⟨oc3, od3, .func (PySem.W.fnOf "neighbours" "neighbours" (defArgs s_neighbours) (defBody s_neighbours) (defScope s_neighbours) .none kV3 dc3 pm3 an3 cd3 ct3), sl3⟩) (c3 : PySem.W.codeIn K cd3 "neighbours" = true) (k3 : PySem.W.keepIn K (.ref f3) = true)
    (a4 : PySem.W.nsIn K mainGlobals "after" = some (some (.ref f4))) (l4 : K.lookup f4 = some ⟨oc4, od4, .func (PySem.W.fnOf "after" "after" (defArgs s_after) (defBody s_after) (defScope s_after) .none kV4 dc4 pm4 an4 cd4 ct4), sl4⟩) (c4 : PySem.W.codeIn K cd4 "after" = true) (k4 : PySem.W.keepIn K (.ref f4) = true)
    (a5 : PySem.W.nsIn K mainGlobals "count" = some (some (.ref f5))) (l5 : K.lookup f5 = some ⟨oc5, od5, .func (PySem.W.fnOf "count" "count" (defArgs s_count) (defBody s_count) (defScope s_count) .none kV5 dc5 pm5 an5 cd5 ct5), sl5⟩) (c5 : PySem.W.codeIn K cd5 "count" = true) (k5 : PySem.W.keepIn K (.ref f5) = true)
    (a6 : PySem.W.nsIn K mainGlobals "ways" = some (some (.ref f6))) (l6 : K.lookup f6 = some ⟨oc6, od6, .func (PySem.W.fnOf "ways" "ways" (defArgs s_ways) (defBody s_ways) (defScope s_ways) .none kV6 dc6 pm6 an6 cd6 ct6), sl6⟩) (c6 : PySem.W.codeIn K cd6 "ways" = true) (k6 : PySem.W.keepIn K (.ref f6) = true)
    (a7 : PySem.W.nsIn K mainGlobals "all_layings" = some (some (.ref f7))) (l7 : K.lookup f7 = some ⟨oc7, od7, .func (PySem.W.fnOf "all_layings" "all_layings" (defArgs s_all_layings) (defBody s_all_layings) (defScope s_all_layings) .none kV7 dc7 pm7 an7 cd7 ct7), sl7⟩) (c7 : PySem.W.codeIn K cd7 "all_layings" = true) (k7 : PySem.W.keepIn K (.ref f7) = true)
    (a8 : PySem.W.nsIn K mainGlobals "lying" = some (some (.ref f8))) (l8 : K.lookup f8 = some ⟨oc8, od8, .func (PySem.W.fnOf "lying" "lying" (defArgs s_lying) (defBody s_lying) (defScope s_lying) .none kV8 dc8 pm8 an8 cd8 ct8), sl8⟩) (c8 : PySem.W.codeIn K cd8 "lying" = true) (k8 : PySem.W.keepIn K (.ref f8) = true)
    (a9 : PySem.W.nsIn K mainGlobals "has_all" = some (some (.ref f9))) (l9 : K.lookup f9 = some ⟨oc9, od9, .func (PySem.W.fnOf "has_all" "has_all" (defArgs s_has_all) (defBody s_has_all) (defScope s_has_all) .none kV9 dc9 pm9 an9 cd9 ct9), sl9⟩) (c9 : PySem.W.codeIn K cd9 "has_all" = true) (k9 : PySem.W.keepIn K (.ref f9) = true)
    (a10 : PySem.W.nsIn K mainGlobals "turns" = some (some (.ref f10))) (l10 : K.lookup f10 = some ⟨oc10, od10, .func (PySem.W.fnOf "turns" "turns" (defArgs s_turns) (defBody s_turns) (defScope s_turns) .none kV10 dc10 pm10 an10 cd10 ct10), sl10⟩) (c10 : PySem.W.codeIn K cd10 "turns" = true) (k10 : PySem.W.keepIn K (.ref f10) = true)
    (a11 : PySem.W.nsIn K mainGlobals "exchanged" = some (some (.ref f11))) (l11 : K.lookup f11 = some ⟨oc11, od11, .func (PySem.W.fnOf "exchanged" "exchanged" (defArgs s_exchanged) (defBody s_exchanged) (defScope s_exchanged) .none kV11 dc11 pm11 an11 cd11 ct11), sl11⟩) (c11 : PySem.W.codeIn K cd11 "exchanged" = true) (k11 : PySem.W.keepIn K (.ref f11) = true)
    (a12 : PySem.W.nsIn K mainGlobals "turned" = some (some (.ref f12))) (l12 : K.lookup f12 = some ⟨oc12, od12, .func (PySem.W.fnOf "turned" "turned" (defArgs s_turned) (defBody s_turned) (defScope s_turned) .none kV12 dc12 pm12 an12 cd12 ct12), sl12⟩) (c12 : PySem.W.codeIn K cd12 "turned" = true) (k12 : PySem.W.keepIn K (.ref f12) = true)
    (a13 : PySem.W.nsIn K mainGlobals "road" = some (some (.ref f13))) (l13 : K.lookup f13 = some ⟨oc13, od13, .func (PySem.W.fnOf "road" "road" (defArgs s_road) (defBody s_road) (defScope s_road) .none kV13 dc13 pm13 an13 cd13 ct13), sl13⟩) (c13 : PySem.W.codeIn K cd13 "road" = true) (k13 : PySem.W.keepIn K (.ref f13) = true)
    (a14 : PySem.W.nsIn K mainGlobals "_law_cell" = some (some (.ref f14))) (l14 : K.lookup f14 = some ⟨oc14, od14, .func (PySem.W.fnOf "_law_cell" "_law_cell" (defArgs s__law_cell) (defBody s__law_cell) (defScope s__law_cell) .none kV14 dc14 pm14 an14 cd14 ct14), sl14⟩) (c14 : PySem.W.codeIn K cd14 "_law_cell" = true) (k14 : PySem.W.keepIn K (.ref f14) = true)
    (a15 : PySem.W.nsIn K mainGlobals "_law_mix" = some (some (.ref f15))) (l15 : K.lookup f15 = some ⟨oc15, od15, .func (PySem.W.fnOf "_law_mix" "_law_mix" (defArgs s__law_mix) (defBody s__law_mix) (defScope s__law_mix) .none kV15 dc15 pm15 an15 cd15 ct15), sl15⟩) (c15 : PySem.W.codeIn K cd15 "_law_mix" = true) (k15 : PySem.W.keepIn K (.ref f15) = true)
    (a16 : PySem.W.nsIn K mainGlobals "_law_floor" = some (some (.ref f16))) (l16 : K.lookup f16 = some ⟨oc16, od16, .func (PySem.W.fnOf "_law_floor" "_law_floor" (defArgs s__law_floor) (defBody s__law_floor) (defScope s__law_floor) .none kV16 dc16 pm16 an16 cd16 ct16), sl16⟩) (c16 : PySem.W.codeIn K cd16 "_law_floor" = true) (k16 : PySem.W.keepIn K (.ref f16) = true)
    (a17 : PySem.W.nsIn K mainGlobals "_law_near" = some (some (.ref f17))) (l17 : K.lookup f17 = some ⟨oc17, od17, .func (PySem.W.fnOf "_law_near" "_law_near" (defArgs s__law_near) (defBody s__law_near) (defScope s__law_near) .none kV17 dc17 pm17 an17 cd17 ct17), sl17⟩) (c17 : PySem.W.codeIn K cd17 "_law_near" = true) (k17 : PySem.W.keepIn K (.ref f17) = true)
    (a18 : PySem.W.nsIn K mainGlobals "_law_every" = some (some (.ref f18))) (l18 : K.lookup f18 = some ⟨oc18, od18, .func (PySem.W.fnOf "_law_every" "_law_every" (defArgs s__law_every) (defBody s__law_every) (defScope s__law_every) .none kV18 dc18 pm18 an18 cd18 ct18), sl18⟩) (c18 : PySem.W.codeIn K cd18 "_law_every" = true) (k18 : PySem.W.keepIn K (.ref f18) = true)
    (a19 : PySem.W.nsIn K mainGlobals "_law_all" = some (some (.ref f19))) (l19 : K.lookup f19 = some ⟨oc19, od19, .func (PySem.W.fnOf "_law_all" "_law_all" (defArgs s__law_all) (defBody s__law_all) (defScope s__law_all) .none kV19 dc19 pm19 an19 cd19 ct19), sl19⟩) (c19 : PySem.W.codeIn K cd19 "_law_all" = true) (k19 : PySem.W.keepIn K (.ref f19) = true)
    (a20 : PySem.W.nsIn K mainGlobals "_law_four" = some (some (.ref f20))) (l20 : K.lookup f20 = some ⟨oc20, od20, .func (PySem.W.fnOf "_law_four" "_law_four" (defArgs s__law_four) (defBody s__law_four) (defScope s__law_four) .none kV20 dc20 pm20 an20 cd20 ct20), sl20⟩) (c20 : PySem.W.codeIn K cd20 "_law_four" = true) (k20 : PySem.W.keepIn K (.ref f20) = true)
    (a21 : PySem.W.nsIn K mainGlobals "_law_turns" = some (some (.ref f21))) (l21 : K.lookup f21 = some ⟨oc21, od21, .func (PySem.W.fnOf "_law_turns" "_law_turns" (defArgs s__law_turns) (defBody s__law_turns) (defScope s__law_turns) .none kV21 dc21 pm21 an21 cd21 ct21), sl21⟩) (c21 : PySem.W.codeIn K cd21 "_law_turns" = true) (k21 : PySem.W.keepIn K (.ref f21) = true)
    (a22 : PySem.W.nsIn K mainGlobals "_law_turned" = some (some (.ref f22))) (l22 : K.lookup f22 = some ⟨oc22, od22, .func (PySem.W.fnOf "_law_turned" "_law_turned" (defArgs s__law_turned) (defBody s__law_turned) (defScope s__law_turned) .none kV22 dc22 pm22 an22 cd22 ct22), sl22⟩) (c22 : PySem.W.codeIn K cd22 "_law_turned" = true) (k22 : PySem.W.keepIn K (.ref f22) = true)
    (a23 : PySem.W.nsIn K mainGlobals "_law_told" = some (some (.ref f23))) (l23 : K.lookup f23 = some ⟨oc23, od23, .func (PySem.W.fnOf "_law_told" "_law_told" (defArgs s__law_told) (defBody s__law_told) (defScope s__law_told) .none kV23 dc23 pm23 an23 cd23 ct23), sl23⟩) (c23 : PySem.W.codeIn K cd23 "_law_told" = true) (k23 : PySem.W.keepIn K (.ref f23) = true)
    (a24 : PySem.W.nsIn K mainGlobals "_law_far" = some (some (.ref f24))) (l24 : K.lookup f24 = some ⟨oc24, od24, .func (PySem.W.fnOf "_law_far" "_law_far" (defArgs s__law_far) (defBody s__law_far) (defScope s__law_far) .none kV24 dc24 pm24 an24 cd24 ct24), sl24⟩) (c24 : PySem.W.codeIn K cd24 "_law_far" = true) (k24 : PySem.W.keepIn K (.ref f24) = true)
    (a25 : PySem.W.nsIn K mainGlobals "law" = some (some (.ref f25))) (l25 : K.lookup f25 = some ⟨oc25, od25, .func (PySem.W.fnOf "law" "law" (defArgs s_law) (defBody s_law) (defScope s_law) .none kV25 dc25 pm25 an25 cd25 ct25), sl25⟩) (c25 : PySem.W.codeIn K cd25 "law" = true) (k25 : PySem.W.keepIn K (.ref f25) = true)
    (ga_TooMany : PySem.W.nsIn K mainGlobals "TooMany" = some (some (.ref C_TooMany))) (kp_TooMany : PySem.W.keepIn K (.ref C_TooMany) = true) (ex_TooMany : PySem.W.excIn K C_TooMany [.type "ValueError", .type "Exception", .type "BaseException", .type "object"] "ValueError.__new__" = true) (ty_TooMany : PySem.W.typeIn K (.ref C_TooMany) = some (.type "type"))
    (hg_TooMany : PySem.W.findIn K (.ref C_TooMany) "__getattribute__" = some (some (.builtin "BaseException.__getattribute__")))
    (hk_TooMany : PySem.W.findIn K (.ref C_TooMany) "__getattr__" = some none)
    (hs_TooMany : PySem.W.subIn K (.ref C_TooMany) (.type "BaseException") = some true)
    (hd_TooMany : PySem.W.hasDictIn K C_TooMany = true)
    (ha_TooMany : PySem.W.findIn K (.ref C_TooMany) "__class__" = some (some (.builtin "object.__class__")))
    (hm_TooMany : PySem.W.mroIn K C_TooMany (.type "object") = some true)
    (ga_NoTurn : PySem.W.nsIn K mainGlobals "NoTurn" = some (some (.ref C_NoTurn))) (kp_NoTurn : PySem.W.keepIn K (.ref C_NoTurn) = true) (ex_NoTurn : PySem.W.excIn K C_NoTurn [.type "ValueError", .type "Exception", .type "BaseException", .type "object"] "ValueError.__new__" = true) (ty_NoTurn : PySem.W.typeIn K (.ref C_NoTurn) = some (.type "type"))
    (hg_NoTurn : PySem.W.findIn K (.ref C_NoTurn) "__getattribute__" = some (some (.builtin "BaseException.__getattribute__")))
    (hk_NoTurn : PySem.W.findIn K (.ref C_NoTurn) "__getattr__" = some none)
    (hs_NoTurn : PySem.W.subIn K (.ref C_NoTurn) (.type "BaseException") = some true)
    (hd_NoTurn : PySem.W.hasDictIn K C_NoTurn = true)
    (ha_NoTurn : PySem.W.findIn K (.ref C_NoTurn) "__class__" = some (some (.builtin "object.__class__")))
    (hm_NoTurn : PySem.W.mroIn K C_NoTurn (.type "object") = some true)
    (ga_FloorError : PySem.W.nsIn K mainGlobals "FloorError" = some (some (.ref C_FloorError))) (kp_FloorError : PySem.W.keepIn K (.ref C_FloorError) = true) (ex_FloorError : PySem.W.excIn K C_FloorError [.type "ValueError", .type "Exception", .type "BaseException", .type "object"] "ValueError.__new__" = true) (ty_FloorError : PySem.W.typeIn K (.ref C_FloorError) = some (.type "type"))
    (hg_FloorError : PySem.W.findIn K (.ref C_FloorError) "__getattribute__" = some (some (.builtin "BaseException.__getattribute__")))
    (hk_FloorError : PySem.W.findIn K (.ref C_FloorError) "__getattr__" = some none)
    (hs_FloorError : PySem.W.subIn K (.ref C_FloorError) (.type "BaseException") = some true)
    (hd_FloorError : PySem.W.hasDictIn K C_FloorError = true)
    (ha_FloorError : PySem.W.findIn K (.ref C_FloorError) "__class__" = some (some (.builtin "object.__class__")))
    (hm_FloorError : PySem.W.mroIn K C_FloorError (.type "object") = some true)
    (hn_ : PySem.W.specialIn K (.builtin "object.__class__") "__get__" = some (some (.builtin "getset_descriptor.__get__"))) (ht_ : PySem.W.takesIn K (.builtin "object.__class__") = some true)
    (xm_TooMany_FloorError : PySem.W.subIn K (.ref C_TooMany) (.ref C_FloorError) = some true)
    (xm_NoTurn_FloorError : PySem.W.subIn K (.ref C_NoTurn) (.ref C_FloorError) = some true)
    (xm_FloorError_FloorError : PySem.W.subIn K (.ref C_FloorError) (.ref C_FloorError) = some true)
    (is_TooMany_ValueError : PySem.W.subIn K (.ref C_TooMany) (.type "ValueError") = some true)
    (is_NoTurn_ValueError : PySem.W.subIn K (.ref C_NoTurn) (.type "ValueError") = some true)
    (is_FloorError_ValueError : PySem.W.subIn K (.ref C_FloorError) (.type "ValueError") = some true)
    (xm_TooMany_TooMany : PySem.W.subIn K (.ref C_TooMany) (.ref C_TooMany) = some true)
    (xm_NoTurn_TooMany : PySem.W.subIn K (.ref C_NoTurn) (.ref C_TooMany) = some false)
    (xm_FloorError_TooMany : PySem.W.subIn K (.ref C_FloorError) (.ref C_TooMany) = some false)
    (z_isinstance : PySem.W.nsIn K mainGlobals "isinstance" = some none)
    (z_int : PySem.W.nsIn K mainGlobals "int" = some none)
    (z_bool : PySem.W.nsIn K mainGlobals "bool" = some none)
    (z_tuple : PySem.W.nsIn K mainGlobals "tuple" = some none)
    (z_len : PySem.W.nsIn K mainGlobals "len" = some none)
    (z_sorted : PySem.W.nsIn K mainGlobals "sorted" = some none)
    (z_range : PySem.W.nsIn K mainGlobals "range" = some none)
    (z_min : PySem.W.nsIn K mainGlobals "min" = some none)
    (z_max : PySem.W.nsIn K mainGlobals "max" = some none)
    (z_ValueError : PySem.W.nsIn K mainGlobals "ValueError" = some none)
    (z_list : PySem.W.nsIn K mainGlobals "list" = some none)
    (z_LAST : PySem.W.nsIn K mainGlobals "LAST" = some (some (.int 7 t_LAST)))
    (z_MOST_LAYINGS : PySem.W.nsIn K mainGlobals "MOST_LAYINGS" = some (some (.int 200 t_MOST_LAYINGS)))
    (hl : LawOk F_law) : ∃ fd : FuncData, (∀ (s : Shared) (v : Value), BindsTo s fd ⟨[v], []⟩ [("_law_script", v)]) ∧ ∀ base : Heap, K.In base → base.Ns mainGlobals mg → FnOk P w K mg base (L2.CX P w) 33 fa fd ["_law_script"] (spLaw K) := by
  have e := hfa.symm.trans (PySem.W.mg_of X G a25)
  cases e
  have U0 := fun_mk (st := s_is_within) l0 c0 k0
  have b0 := U0.binds (ps := ["thing", "low", "high"]) fun _ _ _ _ _ _ us hl => match us, hl with | [_, _, _], _ => rfl
  have U1 := fun_mk (st := s_is_square) l1 c1 k1
  have b1 := U1.binds (ps := ["thing"]) fun _ _ _ _ _ _ us hl => match us, hl with | [_], _ => rfl
  have U2 := fun_mk (st := s_beside) l2 c2 k2
  have b2 := U2.binds (ps := ["square"]) fun _ _ _ _ _ _ us hl => match us, hl with | [_], _ => rfl
  have U3 := fun_mk (st := s_neighbours) l3 c3 k3
  have b3 := U3.binds (ps := ["floor", "square"]) fun _ _ _ _ _ _ us hl => match us, hl with | [_, _], _ => rfl
  have U4 := fun_mk (st := s_after) l4 c4 k4
  have b4 := U4.binds (ps := ["floor", "known"]) fun _ _ _ _ _ _ us hl => match us, hl with | [_, _], _ => rfl
  have U5 := fun_mk (st := s_count) l5 c5 k5
  have b5 := U5.binds (ps := ["floor"]) fun _ _ _ _ _ _ us hl => match us, hl with | [_], _ => rfl
  have U6 := fun_mk (st := s_ways) l6 c6 k6
  have b6 := U6.binds (ps := ["floor"]) fun _ _ _ _ _ _ us hl => match us, hl with | [_], _ => rfl
  have U7 := fun_mk (st := s_all_layings) l7 c7 k7
  have b7 := U7.binds (ps := ["floor"]) fun _ _ _ _ _ _ us hl => match us, hl with | [_], _ => rfl
  have U8 := fun_mk (st := s_lying) l8 c8 k8
  have b8 := U8.binds (ps := ["square"]) fun _ _ _ _ _ _ us hl => match us, hl with | [_], _ => rfl
  have U9 := fun_mk (st := s_has_all) l9 c9 k9
  have b9 := U9.binds (ps := ["laying", "stones"]) fun _ _ _ _ _ _ us hl => match us, hl with | [_, _], _ => rfl
  have U10 := fun_mk (st := s_turns) l10 c10 k10
  have b10 := U10.binds (ps := ["laying"]) fun _ _ _ _ _ _ us hl => match us, hl with | [_], _ => rfl
  have U11 := fun_mk (st := s_exchanged) l11 c11 k11
  have b11 := U11.binds (ps := ["laying", "old", "new"]) fun _ _ _ _ _ _ us hl => match us, hl with | [_, _, _], _ => rfl
  have U12 := fun_mk (st := s_turned) l12 c12 k12
  have b12 := U12.binds (ps := ["laying", "square"]) fun _ _ _ _ _ _ us hl => match us, hl with | [_, _], _ => rfl
  have U13 := fun_mk (st := s_road) l13 c13 k13
  have b13 := U13.binds (ps := ["floor", "one", "other"]) fun _ _ _ _ _ _ us hl => match us, hl with | [_, _, _], _ => rfl
  have U14 := fun_mk (st := s__law_cell) l14 c14 k14
  have b14 := U14.binds (ps := ["_law_script", "_law_k"]) fun _ _ _ _ _ _ us hl => match us, hl with | [_, _], _ => rfl
  have U15 := fun_mk (st := s__law_mix) l15 c15 k15
  have b15 := U15.binds (ps := ["_law_cell_here", "_law_prime", "_law_many"]) fun _ _ _ _ _ _ us hl => match us, hl with | [_, _, _], _ => rfl
  have U16 := fun_mk (st := s__law_floor) l16 c16 k16
  have b16 := U16.binds (ps := ["_law_script", "_law_at"]) fun _ _ _ _ _ _ us hl => match us, hl with | [_, _], _ => rfl
  have U17 := fun_mk (st := s__law_near) l17 c17 k17
  have b17 := U17.binds (ps := ["_law_floor_here", "_law_square"]) fun _ _ _ _ _ _ us hl => match us, hl with | [_, _], _ => rfl
  have U18 := fun_mk (st := s__law_every) l18 c18 k18
  have b18 := U18.binds (ps := ["_law_floor_here", "_law_known"]) fun _ _ _ _ _ _ us hl => match us, hl with | [_, _], _ => rfl
  have U19 := fun_mk (st := s__law_all) l19 c19 k19
  have b19 := U19.binds (ps := ["_law_floor_here"]) fun _ _ _ _ _ _ us hl => match us, hl with | [_], _ => rfl
  have U20 := fun_mk (st := s__law_four) l20 c20 k20
  have b20 := U20.binds (ps := ["_law_square"]) fun _ _ _ _ _ _ us hl => match us, hl with | [_], _ => rfl
  have U21 := fun_mk (st := s__law_turns) l21 c21 k21
  have b21 := U21.binds (ps := ["_law_laying"]) fun _ _ _ _ _ _ us hl => match us, hl with | [_], _ => rfl
  have U22 := fun_mk (st := s__law_turned) l22 c22 k22
  have b22 := U22.binds (ps := ["_law_laying", "_law_square"]) fun _ _ _ _ _ _ us hl => match us, hl with | [_, _], _ => rfl
  have U23 := fun_mk (st := s__law_told) l23 c23 k23
  have b23 := U23.binds (ps := ["_law_floor_here", "_law_one", "_law_other"]) fun _ _ _ _ _ _ us hl => match us, hl with | [_, _, _], _ => rfl
  have U24 := fun_mk (st := s__law_far) l24 c24 k24
  have b24 := U24.binds (ps := ["_law_one", "_law_other"]) fun _ _ _ _ _ _ us hl => match us, hl with | [_, _], _ => rfl
  have U25 := fun_mk (st := s_law) l25 c25 k25
  refine ⟨PySem.W.fnOf "law" "law" (defArgs s_law) (defBody s_law) (defScope s_law) .none kV25 dc25 pm25 an25 cd25 ct25, fun s v => .of_eq rfl, fun base _ _ => ?_⟩
  refine law_end (ct := (fun i => [C_FloorError, 0, 0, C_TooMany, C_NoTurn, 0, 0].getD i 0)) (ft := fun _ => 0) (F := F_law) (fun sa => ?_) hl
  have k_TooMany : Cls ⟨⟨P, w⟩, K, (fun i => [C_FloorError, 0, 0, C_TooMany, C_NoTurn, 0, 0].getD i 0), fun _ => 0, sa, []⟩ mg 3 "TooMany" := ⟨PySem.W.mg_of X G ga_TooMany, kp_TooMany, ex_TooMany, ty_TooMany, ⟨hg_TooMany, hk_TooMany, hs_TooMany, hd_TooMany, ha_TooMany, hn_, ht_, hm_TooMany⟩⟩
  have k_NoTurn : Cls ⟨⟨P, w⟩, K, (fun i => [C_FloorError, 0, 0, C_TooMany, C_NoTurn, 0, 0].getD i 0), fun _ => 0, sa, []⟩ mg 4 "NoTurn" := ⟨PySem.W.mg_of X G ga_NoTurn, kp_NoTurn, ex_NoTurn, ty_NoTurn, ⟨hg_NoTurn, hk_NoTurn, hs_NoTurn, hd_NoTurn, ha_NoTurn, hn_, ht_, hm_NoTurn⟩⟩
  have k_FloorError : Cls ⟨⟨P, w⟩, K, (fun i => [C_FloorError, 0, 0, C_TooMany, C_NoTurn, 0, 0].getD i 0), fun _ => 0, sa, []⟩ mg 0 "FloorError" := ⟨PySem.W.mg_of X G ga_FloorError, kp_FloorError, ex_FloorError, ty_FloorError, ⟨hg_FloorError, hk_FloorError, hs_FloorError, hd_FloorError, ha_FloorError, hn_, ht_, hm_FloorError⟩⟩
  have xm_FloorError : ∀ (n : Nat) (b : Bool), P_FloorError n = some b → PySem.W.exmOne K (.ref ((fun i => [C_FloorError, 0, 0, C_TooMany, C_NoTurn, 0, 0].getD i 0) n)) (.ref ((fun i => [C_FloorError, 0, 0, C_TooMany, C_NoTurn, 0, 0].getD i 0) 0)) = some b := by
    intro n b h
    unfold P_FloorError at h
    split at h <;> first | (cases h; done) | (cases h; first | exact PySem.W.exm_ref hs_FloorError hd_FloorError ty_FloorError xm_TooMany_FloorError | exact PySem.W.exm_ref hs_FloorError hd_FloorError ty_FloorError xm_NoTurn_FloorError | exact PySem.W.exm_ref hs_FloorError hd_FloorError ty_FloorError xm_FloorError_FloorError)
  have is2_TooMany_ValueError : ∀ (n : Nat) (b : Bool × Bool), R2_TooMany_ValueError n = some b → ExcC K ((fun i => [C_FloorError, 0, 0, C_TooMany, C_NoTurn, 0, 0].getD i 0) n) ∧ PySem.W.kitOne K (.ref ((fun i => [C_FloorError, 0, 0, C_TooMany, C_NoTurn, 0, 0].getD i 0) n)) (.ref ((fun i => [C_FloorError, 0, 0, C_TooMany, C_NoTurn, 0, 0].getD i 0) 3)) = some b.1 ∧ PySem.W.kitOne K (.ref ((fun i => [C_FloorError, 0, 0, C_TooMany, C_NoTurn, 0, 0].getD i 0) n)) (.type "ValueError") = some b.2 := by
    intro n b h
    unfold R2_TooMany_ValueError at h
    split at h <;> first | (cases h; done) | (cases h; first | exact ⟨k_TooMany.ec, kit_own hd_TooMany ty_TooMany xm_TooMany_TooMany xm_TooMany_TooMany, kit_sub is_TooMany_ValueError (by decide +kernel)⟩ | exact ⟨k_NoTurn.ec, kit_own hd_TooMany ty_TooMany xm_TooMany_TooMany xm_NoTurn_TooMany, kit_sub is_NoTurn_ValueError (by decide +kernel)⟩ | exact ⟨k_FloorError.ec, kit_own hd_TooMany ty_TooMany xm_TooMany_TooMany xm_FloorError_TooMany, kit_sub is_FloorError_ValueError (by decide +kernel)⟩)
  have c_is_within : Def ⟨⟨P, w⟩, K, (fun i => [C_FloorError, 0, 0, C_TooMany, C_NoTurn, 0, 0].getD i 0), fun _ => 0, sa, []⟩ mg base 1 "is_within" f0 _ ["thing", "low", "high"] F_is_within := ⟨ok_is_within U0  (PySem.W.mg_none_of X G z_isinstance) (PySem.W.mg_none_of X G z_int) (PySem.W.mg_none_of X G z_bool) , PySem.W.mg_of X G a0, k0, b0⟩
  have c_beside : Def ⟨⟨P, w⟩, K, (fun i => [C_FloorError, 0, 0, C_TooMany, C_NoTurn, 0, 0].getD i 0), fun _ => 0, sa, []⟩ mg base 1 "beside" f2 _ ["square"] F_beside := ⟨ok_beside U2   , PySem.W.mg_of X G a2, k2, b2⟩
  have c_lying : Def ⟨⟨P, w⟩, K, (fun i => [C_FloorError, 0, 0, C_TooMany, C_NoTurn, 0, 0].getD i 0), fun _ => 0, sa, []⟩ mg base 1 "lying" f8 _ ["square"] F_lying := ⟨ok_lying U8   , PySem.W.mg_of X G a8, k8, b8⟩
  have c_has_all : Def ⟨⟨P, w⟩, K, (fun i => [C_FloorError, 0, 0, C_TooMany, C_NoTurn, 0, 0].getD i 0), fun _ => 0, sa, []⟩ mg base 1 "has_all" f9 _ ["laying", "stones"] F_has_all := ⟨ok_has_all U9   , PySem.W.mg_of X G a9, k9, b9⟩
  have c_exchanged : Def ⟨⟨P, w⟩, K, (fun i => [C_FloorError, 0, 0, C_TooMany, C_NoTurn, 0, 0].getD i 0), fun _ => 0, sa, []⟩ mg base 1 "exchanged" f11 _ ["laying", "old", "new"] F_exchanged := ⟨ok_exchanged U11  (PySem.W.mg_none_of X G z_tuple) (PySem.W.mg_none_of X G z_sorted) , PySem.W.mg_of X G a11, k11, b11⟩
  have c__law_cell : Def ⟨⟨P, w⟩, K, (fun i => [C_FloorError, 0, 0, C_TooMany, C_NoTurn, 0, 0].getD i 0), fun _ => 0, sa, []⟩ mg base 1 "_law_cell" f14 _ ["_law_script", "_law_k"] F__law_cell := ⟨ok__law_cell U14  (PySem.W.mg_none_of X G z_len) , PySem.W.mg_of X G a14, k14, b14⟩
  have c__law_mix : Def ⟨⟨P, w⟩, K, (fun i => [C_FloorError, 0, 0, C_TooMany, C_NoTurn, 0, 0].getD i 0), fun _ => 0, sa, []⟩ mg base 1 "_law_mix" f15 _ ["_law_cell_here", "_law_prime", "_law_many"] F__law_mix := ⟨ok__law_mix U15   , PySem.W.mg_of X G a15, k15, b15⟩
  have c__law_near : Def ⟨⟨P, w⟩, K, (fun i => [C_FloorError, 0, 0, C_TooMany, C_NoTurn, 0, 0].getD i 0), fun _ => 0, sa, []⟩ mg base 1 "_law_near" f17 _ ["_law_floor_here", "_law_square"] F__law_near := ⟨ok__law_near U17   , PySem.W.mg_of X G a17, k17, b17⟩
  have c__law_four : Def ⟨⟨P, w⟩, K, (fun i => [C_FloorError, 0, 0, C_TooMany, C_NoTurn, 0, 0].getD i 0), fun _ => 0, sa, []⟩ mg base 1 "_law_four" f20 _ ["_law_square"] F__law_four := ⟨ok__law_four U20   , PySem.W.mg_of X G a20, k20, b20⟩
  have c_is_square : Def ⟨⟨P, w⟩, K, (fun i => [C_FloorError, 0, 0, C_TooMany, C_NoTurn, 0, 0].getD i 0), fun _ => 0, sa, []⟩ mg base 2 "is_square" f1 _ ["thing"] F_is_square := ⟨ok_is_square U1 c_is_within (PySem.W.mg_none_of X G z_isinstance) (PySem.W.mg_none_of X G z_tuple) (PySem.W.mg_none_of X G z_len) (PySem.W.mg_of X G z_LAST), PySem.W.mg_of X G a1, k1, b1⟩
  have c_neighbours : Def ⟨⟨P, w⟩, K, (fun i => [C_FloorError, 0, 0, C_TooMany, C_NoTurn, 0, 0].getD i 0), fun _ => 0, sa, []⟩ mg base 2 "neighbours" f3 _ ["floor", "square"] F_neighbours := ⟨ok_neighbours U3 c_beside  , PySem.W.mg_of X G a3, k3, b3⟩
  have c_turns : Def ⟨⟨P, w⟩, K, (fun i => [C_FloorError, 0, 0, C_TooMany, C_NoTurn, 0, 0].getD i 0), fun _ => 0, sa, []⟩ mg base 2 "turns" f10 _ ["laying"] F_turns := ⟨ok_turns U10 c_has_all c_lying (PySem.W.mg_none_of X G z_sorted) , PySem.W.mg_of X G a10, k10, b10⟩
  have c__law_floor : Def ⟨⟨P, w⟩, K, (fun i => [C_FloorError, 0, 0, C_TooMany, C_NoTurn, 0, 0].getD i 0), fun _ => 0, sa, []⟩ mg base 2 "_law_floor" f16 _ ["_law_script", "_law_at"] F__law_floor := ⟨ok__law_floor U16 c__law_mix c__law_cell (PySem.W.mg_none_of X G z_tuple) (PySem.W.mg_none_of X G z_range) (PySem.W.mg_none_of X G z_len) (PySem.W.mg_none_of X G z_min) (PySem.W.mg_none_of X G z_max) , PySem.W.mg_of X G a16, k16, b16⟩
  have c__law_turns : Def ⟨⟨P, w⟩, K, (fun i => [C_FloorError, 0, 0, C_TooMany, C_NoTurn, 0, 0].getD i 0), fun _ => 0, sa, []⟩ mg base 2 "_law_turns" f21 _ ["_law_laying"] F__law_turns := ⟨ok__law_turns U21 c__law_four (PySem.W.mg_none_of X G z_range) (PySem.W.mg_none_of X G z_len) , PySem.W.mg_of X G a21, k21, b21⟩
  have c__law_turned : Def ⟨⟨P, w⟩, K, (fun i => [C_FloorError, 0, 0, C_TooMany, C_NoTurn, 0, 0].getD i 0), fun _ => 0, sa, []⟩ mg base 2 "_law_turned" f22 _ ["_law_laying", "_law_square"] F__law_turned := ⟨ok__law_turned U22 c__law_four (PySem.W.mg_none_of X G z_tuple) (PySem.W.mg_none_of X G z_sorted) , PySem.W.mg_of X G a22, k22, b22⟩
  have c_turned : Def ⟨⟨P, w⟩, K, (fun i => [C_FloorError, 0, 0, C_TooMany, C_NoTurn, 0, 0].getD i 0), fun _ => 0, sa, []⟩ mg base 3 "turned" f12 _ ["laying", "square"] F_turned := ⟨ok_turned U12 c_exchanged c_has_all c_lying c_is_square c_turns k_NoTurn  , PySem.W.mg_of X G a12, k12, b12⟩
  have c__law_far : Def ⟨⟨P, w⟩, K, (fun i => [C_FloorError, 0, 0, C_TooMany, C_NoTurn, 0, 0].getD i 0), fun _ => 0, sa, []⟩ mg base 3 "_law_far" f24 _ ["_law_one", "_law_other"] F__law_far := ⟨ok__law_far U24 c__law_turns c__law_turned  , PySem.W.mg_of X G a24, k24, b24⟩
  have c__law_every : Def ⟨⟨P, w⟩, K, (fun i => [C_FloorError, 0, 0, C_TooMany, C_NoTurn, 0, 0].getD i 0), fun _ => 0, sa, []⟩ mg base 27 "_law_every" f18 _ ["_law_floor_here", "_law_known"] (F__law_every 26) := ⟨ok__law_every U18 (PySem.W.mg_of X G a18) b18 c__law_near (PySem.W.mg_none_of X G z_tuple)  26, PySem.W.mg_of X G a18, k18, b18⟩
  have c_after : Def ⟨⟨P, w⟩, K, (fun i => [C_FloorError, 0, 0, C_TooMany, C_NoTurn, 0, 0].getD i 0), fun _ => 0, sa, []⟩ mg base 28 "after" f4 _ ["floor", "known"] (F_after 26) := ⟨ok_after U4 (PySem.W.mg_of X G a4) b4 c_neighbours (PySem.W.mg_none_of X G z_tuple)  26, PySem.W.mg_of X G a4, k4, b4⟩
  have c_ways : Def ⟨⟨P, w⟩, K, (fun i => [C_FloorError, 0, 0, C_TooMany, C_NoTurn, 0, 0].getD i 0), fun _ => 0, sa, []⟩ mg base 28 "ways" f6 _ ["floor"] (F_ways 26) := ⟨ok_ways U6 (PySem.W.mg_of X G a6) b6 c_neighbours (PySem.W.mg_none_of X G z_tuple)  26, PySem.W.mg_of X G a6, k6, b6⟩
  have c__law_all : Def ⟨⟨P, w⟩, K, (fun i => [C_FloorError, 0, 0, C_TooMany, C_NoTurn, 0, 0].getD i 0), fun _ => 0, sa, []⟩ mg base 28 "_law_all" f19 _ ["_law_floor_here"] F__law_all := ⟨ok__law_all U19 c__law_every (PySem.W.mg_none_of X G z_sorted) (PySem.W.mg_none_of X G z_tuple) , PySem.W.mg_of X G a19, k19, b19⟩
  have c_count : Def ⟨⟨P, w⟩, K, (fun i => [C_FloorError, 0, 0, C_TooMany, C_NoTurn, 0, 0].getD i 0), fun _ => 0, sa, []⟩ mg base 29 "count" f5 _ ["floor"] F_count := ⟨ok_count U5 c_after  , PySem.W.mg_of X G a5, k5, b5⟩
  have c_all_layings : Def ⟨⟨P, w⟩, K, (fun i => [C_FloorError, 0, 0, C_TooMany, C_NoTurn, 0, 0].getD i 0), fun _ => 0, sa, []⟩ mg base 30 "all_layings" f7 _ ["floor"] F_all_layings := ⟨ok_all_layings U7 c_ways c_count k_TooMany (PySem.W.mg_none_of X G z_sorted) (PySem.W.mg_none_of X G z_tuple) (PySem.W.mg_of X G z_MOST_LAYINGS), PySem.W.mg_of X G a7, k7, b7⟩
  have c_road : Def ⟨⟨P, w⟩, K, (fun i => [C_FloorError, 0, 0, C_TooMany, C_NoTurn, 0, 0].getD i 0), fun _ => 0, sa, []⟩ mg base 31 "road" f13 _ ["floor", "one", "other"] F_road := ⟨ok_road U13 c_turns c_turned c_all_layings (PySem.W.mg_none_of X G z_len) , PySem.W.mg_of X G a13, k13, b13⟩
  have c__law_told : Def ⟨⟨P, w⟩, K, (fun i => [C_FloorError, 0, 0, C_TooMany, C_NoTurn, 0, 0].getD i 0), fun _ => 0, sa, []⟩ mg base 32 "_law_told" f23 _ ["_law_floor_here", "_law_one", "_law_other"] F__law_told := ⟨ok__law_told U23 k_FloorError c_road k_TooMany (PySem.W.mg_none_of X G z_isinstance) (PySem.W.mg_none_of X G z_ValueError)  xm_FloorError is2_TooMany_ValueError, PySem.W.mg_of X G a23, k23, b23⟩
  exact ok_law U25 c__law_turned c__law_turns c__law_far c__law_told c__law_cell c__law_all c__law_floor (PySem.W.mg_none_of X G z_isinstance) (PySem.W.mg_none_of X G z_list) (PySem.W.mg_none_of X G z_len) 
end k08
open PySem PySem.W PyProof.Rows
set_option maxHeartbeats 0 in
theorem PySem.Challenge.cw_tilefloor_k08_whole_roads_holds : PySem.Challenge.rw_tilefloor_k08_whole_roads.Holds := by
  w_on; o_law; k_head; (case hw => w_witness2)
  k_fill
  refine L2.walk_of (l := PySem.Challenge.rw_tilefloor_k08_whole_roads) (n := 63) (k := 33) (x := "_law_script") (CX := fun w => L2.CX PySem.Challenge.pw_tilefloor_k08_whole_roads w) (sp := fun w => DL.spLaw _) rfl (by decide) rfl ⟨rfl, by decide, by decide⟩ (fun w h Y => PySem.W.kIn_of Y) ?F (fun _ _ a ns hl _ hS => ⟨a, ns, rfl, hS, hl, fun _ => rfl⟩) (fun _ _ _ _ _ h => DL.cx_end h)
  case F =>
    intro w mg fa h KX G hmg
    refine' k08.all_mk KX G hmg ?a0 ?l0 ?c0 ?k0 ?a1 ?l1 ?c1 ?k1 ?a2 ?l2 ?c2 ?k2 ?a3 ?l3 ?c3 ?k3 ?a4 ?l4 ?c4 ?k4 ?a5 ?l5 ?c5 ?k5 ?a6 ?l6 ?c6 ?k6 ?a7 ?l7 ?c7 ?k7 ?a8 ?l8 ?c8 ?k8 ?a9 ?l9 ?c9 ?k9 ?a10 ?l10 ?c10 ?k10 ?a11 ?l11 ?c11 ?k11 ?a12 ?l12 ?c12 ?k12 ?a13 ?l13 ?c13 ?k13 ?a14 ?l14 ?c14 ?k14 ?a15 ?l15 ?c15 ?k15 ?a16 ?l16 ?c16 ?k16 ?a17 ?l17 ?c17 ?k17 ?a18 ?l18 ?c18 ?k18 ?a19 ?l19 ?c19 ?k19 ?a20 ?l20 ?c20 ?k20 ?a21 ?l21 ?c21 ?k21 ?a22 ?l22 ?c22 ?k22 ?a23 ?l23 ?c23 ?k23 ?a24 ?l24 ?c24 ?k24 ?a25 ?l25 ?c25 ?k25 ?ga_TooMany ?kp_TooMany ?ex_TooMany ?ty_TooMany ?hg_TooMany ?hk_TooMany ?hs_TooMany ?hd_TooMany ?ha_TooMany ?hm_TooMany ?ga_NoTurn ?kp_NoTurn ?ex_NoTurn ?ty_NoTurn ?hg_NoTurn ?hk_NoTurn ?hs_NoTurn ?hd_NoTurn ?ha_NoTurn ?hm_NoTurn ?ga_FloorError ?kp_FloorError ?ex_FloorError ?ty_FloorError ?hg_FloorError ?hk_FloorError ?hs_FloorError ?hd_FloorError ?ha_FloorError ?hm_FloorError ?hn_ ?ht_ ?xm_TooMany_FloorError ?xm_NoTurn_FloorError ?xm_FloorError_FloorError ?is_TooMany_ValueError ?is_NoTurn_ValueError ?is_FloorError_ValueError ?xm_TooMany_TooMany ?xm_NoTurn_TooMany ?xm_FloorError_TooMany ?z_isinstance ?z_int ?z_bool ?z_tuple ?z_len ?z_sorted ?z_range ?z_min ?z_max ?z_ValueError ?z_list ?z_LAST ?z_MOST_LAYINGS k08.law_ok
    (case a0 => k_is)
    (case l0 => k_is)
    (case c0 => k_is)
    (case k0 => k_is)
    (case a1 => k_is)
    (case l1 => k_is)
    (case c1 => k_is)
    (case k1 => k_is)
    (case a2 => k_is)
    (case l2 => k_is)
    (case c2 => k_is)
    (case k2 => k_is)
    (case a3 => k_is)
    (case l3 => k_is)
    (case c3 => k_is)
    (case k3 => k_is)
    (case a4 => k_is)
    (case l4 => k_is)
    (case c4 => k_is)
    (case k4 => k_is)
    (case a5 => k_is)
    (case l5 => k_is)
    (case c5 => k_is)
    (case k5 => k_is)
    (case a6 => k_is)
    (case l6 => k_is)
    (case c6 => k_is)
    (case k6 => k_is)
    (case a7 => k_is)
    (case l7 => k_is)
    (case c7 => k_is)
    (case k7 => k_is)
    (case a8 => k_is)
    (case l8 => k_is)
    (case c8 => k_is)
    (case k8 => k_is)
    (case a9 => k_is)
    (case l9 => k_is)
    (case c9 => k_is)
    (case k9 => k_is)
    (case a10 => k_is)
    (case l10 => k_is)
    (case c10 => k_is)
    (case k10 => k_is)
    (case a11 => k_is)
    (case l11 => k_is)
    (case c11 => k_is)
    (case k11 => k_is)
    (case a12 => k_is)
    (case l12 => k_is)
    (case c12 => k_is)
    (case k12 => k_is)
    (case a13 => k_is)
    (case l13 => k_is)
    (case c13 => k_is)
    (case k13 => k_is)
    (case a14 => k_is)
    (case l14 => k_is)
    (case c14 => k_is)
    (case k14 => k_is)
    (case a15 => k_is)
    (case l15 => k_is)
    (case c15 => k_is)
    (case k15 => k_is)
    (case a16 => k_is)
    (case l16 => k_is)
    (case c16 => k_is)
    (case k16 => k_is)
    (case a17 => k_is)
    (case l17 => k_is)
    (case c17 => k_is)
    (case k17 => k_is)
    (case a18 => k_is)
    (case l18 => k_is)
    (case c18 => k_is)
    (case k18 => k_is)
    (case a19 => k_is)
    (case l19 => k_is)
    (case c19 => k_is)
    (case k19 => k_is)
    (case a20 => k_is)
    (case l20 => k_is)
    (case c20 => k_is)
    (case k20 => k_is)
    (case a21 => k_is)
    (case l21 => k_is)
    (case c21 => k_is)
    (case k21 => k_is)
    (case a22 => k_is)
    (case l22 => k_is)
    (case c22 => k_is)
    (case k22 => k_is)
    (case a23 => k_is)
    (case l23 => k_is)
    (case c23 => k_is)
    (case k23 => k_is)
    (case a24 => k_is)
    (case l24 => k_is)
    (case c24 => k_is)
    (case k24 => k_is)
    (case a25 => k_is)
    (case l25 => k_is)
    (case c25 => k_is)
    (case k25 => k_is)
    (case ga_TooMany => k_is)
    (case kp_TooMany => k_is)
    (case ex_TooMany => k_exc)
    (case ty_TooMany => k_is)
    (case hg_TooMany => k_is)
    (case hk_TooMany => k_is)
    (case hs_TooMany => k_is)
    (case hd_TooMany => k_is)
    (case ha_TooMany => k_is)
    (case hm_TooMany => k_is)
    (case ga_NoTurn => k_is)
    (case kp_NoTurn => k_is)
    (case ex_NoTurn => k_exc)
    (case ty_NoTurn => k_is)
    (case hg_NoTurn => k_is)
    (case hk_NoTurn => k_is)
    (case hs_NoTurn => k_is)
    (case hd_NoTurn => k_is)
    (case ha_NoTurn => k_is)
    (case hm_NoTurn => k_is)
    (case ga_FloorError => k_is)
    (case kp_FloorError => k_is)
    (case ex_FloorError => k_exc)
    (case ty_FloorError => k_is)
    (case hg_FloorError => k_is)
    (case hk_FloorError => k_is)
    (case hs_FloorError => k_is)
    (case hd_FloorError => k_is)
    (case ha_FloorError => k_is)
    (case hm_FloorError => k_is)
    (case hn_ => k_is)
    (case ht_ => k_is)
    (case xm_TooMany_FloorError => k_is)
    (case xm_NoTurn_FloorError => k_is)
    (case xm_FloorError_FloorError => k_is)
    (case is_TooMany_ValueError => k_is)
    (case is_NoTurn_ValueError => k_is)
    (case is_FloorError_ValueError => k_is)
    (case xm_TooMany_TooMany => k_is)
    (case xm_NoTurn_TooMany => k_is)
    (case xm_FloorError_TooMany => k_is)
    (case z_isinstance => k_is)
    (case z_int => k_is)
    (case z_bool => k_is)
    (case z_tuple => k_is)
    (case z_len => k_is)
    (case z_sorted => k_is)
    (case z_range => k_is)
    (case z_min => k_is)
    (case z_max => k_is)
    (case z_ValueError => k_is)
    (case z_list => k_is)
    (case z_LAST => k_is)
    (case z_MOST_LAYINGS => k_is)

