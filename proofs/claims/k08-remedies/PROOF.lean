import PyProof.Rows.All
import Wide.All
import OpenK.AllK
import Wide.FinOn
import HandS.Walk
import HandS.Deep
import HandS.Dict
import HandS.Iter
import KE.KDictKeyed
import KE.KDictWalk
import KE.KDictDisplayH
import KE.KDictCopyH
import KE.KDictList
import HandS.TupLen
import HandS.ForMost
import HandS.ForExc
import HandS.IsInst
import HandS.TupAny
import HandS.Style
import HandS.Zip
import HandS.DictComp
import HandS.SetFor
import HandS.Strs
import HandS.More
import KE.KRevSl
import HandS.DictSubView
import KE.KDictOf
import PySem.Challenge.RW_warmtank_k08_whole_good_programs_and_tan
set_option Elab.async false
set_option linter.all false
set_option maxRecDepth 100000
set_option maxHeartbeats 1000000
/-! Dicts whose keys are tuples, nested, of numbers, truth values, texts. -/
namespace Wt
open PySem L2
/-- the world in which texts are hashed -/
class Wd where
  w : World
mutual
/-- what value is the key k -/
inductive KIs (K : PySem.W.Frag) (H : Hp) : V → NestedKey → Prop
  | non : KIs K H .non .none
  | bl (b : Bool) : KIs K H (.bl b) (.num (if b = true then 1 else 0))
  | int (i : Int) : KIs K H (.int i) (.num i)
  | str (x : Str) : KIs K H (.str x) (.text x)
  | tup {a : Addr} {vs : List V} {ks : List NestedKey} : SqT K H a vs → KAll K H vs ks → KIs K H (.ref a) (.tup ks)
inductive KAll (K : PySem.W.Frag) (H : Hp) : List V → List NestedKey → Prop
  | nil : KAll K H [] []
  | cons {v : V} {vs : List V} {k : NestedKey} {ks : List NestedKey} : KIs K H v k → KAll K H vs ks → KAll K H (v :: vs) (k :: ks)
end
mutual
/-- the hash of a key without texts: no world is asked -/
def hash0 : NestedKey → Int
  | .none => reduceHash 0xFCA86420
  | .num i => hashInt i
  | .text _ => 0
  | .tup ks => reduceHash (Builtin.Tuple.tupleHashOf (hashes0 ks))
def hashes0 : List NestedKey → List Int
  | [] => []
  | k :: ks => hash0 k :: hashes0 ks
end
mutual
def noText : NestedKey → Bool
  | .none => true
  | .num _ => true
  | .text _ => false
  | .tup ks => noTexts ks
def noTexts : List NestedKey → Bool
  | [] => true
  | k :: ks => noText k && noTexts ks
end
mutual
theorem hash0_eq (w : World) : ∀ k : NestedKey, noText k = true → k.hash w = hash0 k
  | .none, _ => rfl
  | .num _, _ => rfl
  | .text _, h => by simp [noText] at h
  | .tup ks, h => by
    simp only [noText] at h
    simp only [NestedKey.hash, hash0, hashes0_eq w ks h]
theorem hashes0_eq (w : World) : ∀ ks : List NestedKey, noTexts ks = true → NestedKey.hashes w ks = hashes0 ks
  | [], _ => rfl
  | k :: ks, h => by
    simp only [noTexts, Bool.and_eq_true] at h
    simp only [NestedKey.hashes, hashes0, hash0_eq w k h.1, hashes0_eq w ks h.2]
end
section
variable {X : Cx} {pins : List (Addr × Obj)} {σ : L2.St} {H : Hp} {s : Shared} {a b : Addr} {A : Around} {E : Value → Shared → Prop}
mutual
theorem kis_is (I : Inv X pins σ H s) : ∀ {v : V} {k : NestedKey}, KIs X.K H v k → ∀ {u : Value}, RelV v u → NestedIs s.heap k u
  | _, _, .non, u, r => by cases r; exact .none
  | _, _, .bl b, u, r => by cases r; exact .bool rfl
  | _, _, .int i, u, r => by obtain ⟨t, rfl⟩ := r; exact .int i t
  | _, _, .str x, u, r => by obtain ⟨t, rfl⟩ := r; exact .text x t
  | _, _, .tup h ks, u, r => by
    cases r
    obtain ⟨its, rv, hx, _⟩ := I.tuple h
    obtain ⟨o, h1, h2, n, h3⟩ := hx
    exact .tup h1 h2 h3 (kall_is I ks (by simpa using rv))
theorem kall_is (I : Inv X pins σ H s) : ∀ {vs : List V} {ks : List NestedKey}, KAll X.K H vs ks → ∀ {us : List Value}, Vals vs us → NestedAll s.heap ks us
  | _, _, .nil, us, r => by cases r; exact .nil
  | _, _, .cons h hs, us, r => by
    cases r with
    | cons r1 r2 => exact .cons (kis_is I h r1) (kall_is I hs r2)
end
abbrev DE := NestedKey × Addr × V
def DRel (p : DE) (q : NestedKey × Addr × Value) : Prop := p.1 = q.1 ∧ p.2.1 = q.2.1 ∧ RelV p.2.2 q.2.2
/-- what stands at a key; behind a store -/
def dAt (xs : List DE) (k : NestedKey) : Option V := (xs.find? fun x => decide (x.1 = k)).map (·.2.2)
def dSet (k : NestedKey) (v : V) (x : DE) : DE := if x.1 = k then (x.1, x.2.1, v) else x
def dPut (xs : List DE) (k : NestedKey) (b : Addr) (v : V) : List DE := if (dAt xs k).isSome then xs.map (dSet k v) else xs ++ [(k, b, v)]
theorem drel_at {k : NestedKey} : ∀ {xs : List DE} {ys : List (NestedKey × Addr × Value)}, Paired DRel xs ys → RelO (dAt xs k) ((atKey ys k).map (·.2))
  | _, _, .nil => trivial
  | _, _, @Paired.cons _ _ _ p q ps qs hq t => by
    have ih := drel_at (k := k) t
    unfold dAt atKey at *
    by_cases h : p.1 = k
    · have h2 : q.1 = k := hq.1.symm.trans h
      simp only [List.find?_cons, h, h2, decide_true]
      exact hq.2.2
    · have h2 : ¬ q.1 = k := fun z => h (hq.1.trans z)
      simp only [List.find?_cons, h, h2, decide_false]
      exact ih
theorem drel_put {k : NestedKey} {b : Addr} {v : V} {r : Value} {xs : List DE} {ys : List (NestedKey × Addr × Value)} (h : Paired DRel xs ys) (rv : RelV v r) : Paired DRel (dPut xs k b v) (storedH ys k b r) := by
  have e : (dAt xs k).isSome = (atKey ys k).isSome := by
    have q := (drel_at (k := k) h).isSome_eq
    rw [Option.isSome_map] at q
    exact q
  unfold dPut storedH
  rw [e]
  split
  · rename_i hc
    clear hc e
    induction h with
    | nil => exact .nil
    | @cons p q ps qs hq t ih =>
      refine .cons ?_ ih
      unfold dSet putAt
      by_cases h : p.1 = k
      · rw [if_pos h, if_pos (hq.1.symm.trans h)]
        exact ⟨hq.1, hq.2.1, rv⟩
      · rw [if_neg h, if_neg (fun z => h (hq.1.trans z))]
        exact hq
  · rename_i hc
    clear hc e
    induction h with
    | nil => exact .cons ⟨rfl, rfl, rv⟩ .nil
    | @cons p q ps qs hq t ih => exact .cons hq ih
theorem dPut_len (xs : List DE) (k : NestedKey) (b : Addr) (v : V) : (dPut xs k b v).length ≤ xs.length + 1 := by
  unfold dPut
  split <;> simp
theorem dPut_mem {xs : List DE} {k : NestedKey} {b : Addr} {v : V} {x : DE} (h : x ∈ dPut xs k b v) : (∃ y ∈ xs, x.1 = y.1 ∧ x.2.1 = y.2.1) ∨ (x.1 = k ∧ x.2.1 = b) := by
  unfold dPut at h
  split at h
  · obtain ⟨y, hy, rfl⟩ := List.mem_map.mp h
    refine .inl ⟨y, hy, ?_⟩
    unfold dSet
    split <;> exact ⟨rfl, rfl⟩
  · rcases List.mem_append.mp h with h | h
    · exact .inl ⟨x, h, rfl, rfl⟩
    · rw [List.mem_singleton.mp h]
      exact .inr ⟨rfl, rfl⟩
/-- good keys: sound, not too deep -/
def DKeys (K : PySem.W.Frag) (H : Hp) (xs : List DE) : Prop := ∀ x ∈ xs, KIs K H (.ref x.2.1) x.1 ∧ x.1.depth ≤ 8
/-- at a stands a dict with these entries, its keys tuples -/
def AtN (X : Cx) (s : Shared) (a : Addr) (xs : List DE) : Prop := xs.length ≤ sizeLine ∧ (a == sysModules) = false ∧ ∃ ys, Paired DRel xs ys ∧ s.heap.DictOfH (nestedKind X.prog X.w) a ys
theorem AtN.keys_ok (I : Inv X pins σ H s) : ∀ {l : List DE} {m : List (NestedKey × Addr × Value)}, Paired DRel l m → DKeys X.K H l → ∀ x ∈ m, (nestedKind X.prog X.w).is s.heap x.1 x.2.1 := by
  intro l m q
  induction q with
  | nil => intro _ x hx; exact nomatch hx
  | @cons p q ps qs hq t ih =>
    intro hk x hx
    rcases List.mem_cons.mp hx with e | hx
    · subst e
      have := hk p (.head _)
      rw [← hq.1, ← hq.2.1]
      exact ⟨kis_is I this.1 rfl, this.2⟩
    · exact ih (fun y hy => hk y (.tail _ hy)) x hx
/-- an empty dict -/
theorem atN0 (I : Inv X pins σ H s) (e : Rd H a (.dK [])) : AtN X s a [] := by
  obtain ⟨_, hd, vs, rel, o, es, ep, h1, h2, h3, _, h5, _⟩ := dk_rd I.hok e
  cases rel
  refine ⟨Nat.zero_le _, hd, [], .nil, o, es, ep, h1, h2, h3, ?_, (fun _ z => nomatch z), List.nodup_nil⟩
  have l := h5.length
  rw [List.map_nil]
  exact List.length_eq_zero_iff.mp l
section
variable [Wd]
def entW (x : NestedKey × Addr × Value) : DictEntry := ⟨x.1.hash Wd.w, .ref x.2.1, x.2.2⟩
theorem entW_eq (P : Program) {w : World} (hw : w = Wd.w) (ys : List (NestedKey × Addr × Value)) : ys.map (entryOfKey (nestedKind P w)) = ys.map entW := by
  subst hw
  rfl
/-- a dict by its entries: key, the key's tuple, value -/
def DicO (a : Addr) (xs : List DE) : HO := .ext fun h => xs.length ≤ sizeLine ∧ (a == sysModules) = false ∧ ∃ ys : List (NestedKey × Addr × Value), Paired DRel xs ys ∧
  ∃ o es ep, h.get? a = some o ∧ o.ExactDict ∧ o.data = .dict es ep ∧ es.toList = ys.map entW ∧ (ys.map (·.1)).Nodup
theorem atN {xs : List DE} (hw : X.w = Wd.w) (I : Inv X pins σ H s) (e : Rd H a (DicO a xs)) (hk : DKeys X.K H xs) : AtN X s a xs := by
  obtain ⟨⟨z, hd, ys, r, o, es, ep, h1, h2, h3, h4, h5⟩, _, _⟩ := e.ok I.hok
  rw [← entW_eq X.prog hw] at h4
  exact ⟨z, hd, ys, r, o, es, ep, h1, h2, h3, h4, AtN.keys_ok I r hk, h5⟩
theorem dic_ok {P : Program} {w : World} {H : Hp} {h : Heap} {ys : List (NestedKey × Addr × Value)} {xs : List DE} (hw : w = Wd.w) (z : xs.length ≤ sizeLine) (hs : (a == sysModules) = false) (rel : Paired DRel xs ys)
    (dd : h.DictOfH (nestedKind P w) a ys) : ObjOk P w H h a (DicO a xs) := by
  obtain ⟨o, es, ep, h1, h2, h3, h4, _, h5⟩ := dd
  rw [entW_eq P hw] at h4
  refine ⟨⟨z, hs, ys, rel, o, es, ep, h1, h2, h3, h4, h5⟩, ⟨o, h1⟩, fun g1 g2 q keep => ?_⟩
  obtain ⟨z, hs, ys, rel, o, es, ep, h1, h2, h3, h4, h5⟩ := q
  exact ⟨z, hs, ys, rel, o, es, ep, keep _ h1, h2, h3, h4, h5⟩
end
variable {k : NestedKey} {v : V} {u r : Value} {xs : List DE}
theorem room9 (hu : A.units + 9 < cLine) : (nestedKind X.prog X.w).room A.in1 := by
  show A.units + 1 + 8 < cLine
  omega
theorem AtN.type (n : AtN X s a xs) : s.TypeIs (.ref a) "dict" := by
  obtain ⟨_, _, ys, _, dd⟩ := n
  exact dd.typeIs
theorem nd_get' (hu : A.units + 9 < cLine) (I : Inv X pins σ H s) (n : AtN X s a xs) (hb : KIs X.K H (.ref b) k) (hd : k.depth ≤ 8) (l : dAt xs k = some v) :
    ∃ w', RelV v w' ∧ ∀ {Q : Value → Shared → Prop}, (∀ s', Inv X pins σ H s' → Q w' s') → wpAny (model X.prog X.w) A (getItem (.ref a) (.ref b)) Q E s := by
  obtain ⟨z, hs, ys, rel, dd⟩ := n
  obtain ⟨w', hw, rw'⟩ := RelO.some_of (v := v) (o := (atKey ys k).map (·.2)) (by rw [← l]; exact drel_at rel)
  obtain ⟨p, hp, hp2⟩ := Option.map_eq_some_iff.mp hw
  refine ⟨w', rw', fun {Q} h => wpAny_getItem_heap (room9 hu) ⟨kis_is I hb rfl, hd⟩ dd hp ?_⟩
  rw [hp2]
  exact h _ (I.tok _)
theorem nd_in {Q : Value → Shared → Prop} (hu : A.units + 9 < cLine) (I : Inv X pins σ H s) (n : AtN X s a xs) (hb : KIs X.K H (.ref b) k) (hd : k.depth ≤ 8)
    (h : ∀ s', Inv X pins σ H s' → Q (.bool (dAt xs k).isSome) s') : wpAny (model X.prog X.w) A (compareOp .In (.ref b) (.ref a)) Q E s := by
  obtain ⟨z, hs, ys, rel, dd⟩ := n
  refine wpAny_in_heap (room9 hu) ⟨kis_is I hb rfl, hd⟩ hs dd ?_
  have q := (drel_at (k := k) rel).isSome_eq
  rw [Option.isSome_map] at q
  rw [← q]
  exact h _ (I.tok _)
theorem nd_notIn {Q : Value → Shared → Prop} (hu : A.units + 9 < cLine) (I : Inv X pins σ H s) (n : AtN X s a xs) (hb : KIs X.K H (.ref b) k) (hd : k.depth ≤ 8)
    (h : ∀ s', Inv X pins σ H s' → Q (.bool (!(dAt xs k).isSome)) s') : wpAny (model X.prog X.w) A (compareOp .NotIn (.ref b) (.ref a)) Q E s := by
  obtain ⟨z, hs, ys, rel, dd⟩ := n
  refine notIn_keyed (kvs := pairsH ys) (room9 hu) ⟨kis_is I hb rfl, hd⟩ hs ⟨ys, dd, rfl⟩ ?_
  have q := (drel_at (k := k) rel).isSome_eq
  rw [valueAt_pairsH, ← q]
  exact h _ (I.tok _)
theorem nd_get1 {Q : Value → Shared → Prop} (hu : A.units + 9 < cLine) (I : Inv X pins σ H s) (n : AtN X s a xs) (hb : KIs X.K H (.ref b) k) (hd : k.depth ≤ 8)
    (h : ∀ w' s', Inv X pins σ H s' → RelV ((dAt xs k).getD .non) w' → Q w' s') : wpAny (model X.prog X.w) A (call (.builtin "dict.get") [.ref a, .ref b]) Q E s := by
  obtain ⟨z, hs, ys, rel, dd⟩ := n
  exact get_keyed (kvs := pairsH ys) (room9 hu) ⟨kis_is I hb rfl, hd⟩ hs ⟨ys, dd, rfl⟩ (h _ _ (I.tok _) (by rw [valueAt_pairsH]; exact (drel_at rel).getD rfl))
theorem nd_get2 {Q : Value → Shared → Prop} (hu : A.units + 9 < cLine) (I : Inv X pins σ H s) (n : AtN X s a xs) (hb : KIs X.K H (.ref b) k) (hd : k.depth ≤ 8) (rv : RelV v r)
    (h : ∀ w' s', Inv X pins σ H s' → RelV ((dAt xs k).getD v) w' → Q w' s') : wpAny (model X.prog X.w) A (call (.builtin "dict.get") [.ref a, .ref b, r]) Q E s := by
  obtain ⟨z, hs, ys, rel, dd⟩ := n
  exact getOr_keyed (kvs := pairsH ys) (room9 hu) ⟨kis_is I hb rfl, hd⟩ hs ⟨ys, dd, rfl⟩ (h _ _ (I.tok _) (by rw [valueAt_pairsH]; exact (drel_at rel).getD rv))
theorem nd_setItem [Wd] {Q : Unit → Shared → Prop} (hw : X.w = Wd.w) (hu : A.units + 9 < cLine) (I : Inv X pins σ H s) (mu : Mut (H a)) (n : AtN X s a xs) (hb : KIs X.K H (.ref b) k) (hd : k.depth ≤ 8) (hl : xs.length < sizeLine) (rv : RelV v r)
    (h : ∀ s', Inv X pins σ (upd H a (DicO a (dPut xs k b v))) s' → Q () s') : wpAny (model X.prog X.w) A (setItem (.ref a) (.ref b) r) Q E s := by
  obtain ⟨z, hs, ys, rel, dd⟩ := n
  have hz : ys.length ≤ sizeLine := by rw [← Paired.length rel]; exact z
  have hl2 : (dPut xs k b v).length ≤ sizeLine := by have := dPut_len xs k b v; omega
  refine wpAny_setItem_heap (hsz := hz) (room9 hu) ⟨kis_is I hb rfl, hd⟩ dd fun h' dd' sb => h _ ?_
  exact d_write I mu sb (let ⟨q, _, _, hq, _⟩ := dd'; ⟨q, hq⟩) (dic_ok hw hl2 hs (drel_put rel rv) dd')
theorem nd_len {Q : Value → Shared → Prop} (I : Inv X pins σ H s) (n : AtN X s a xs) (h : ∀ t s', Inv X pins σ H s' → Q (.int xs.length t) s') : wpAny (model X.prog X.w) A (call (.builtin "len") [.ref a]) Q E s := by
  obtain ⟨z, hs, ys, rel, dd⟩ := n
  have hl := Paired.length rel
  refine call_len_dictH hs dd (by rw [← hl]; rw [sizeLine_eq] at z; omega) ?_
  rw [← hl]
  exact h _ _ (I.tok _)
end
/-! ### a dict that is as it is from now on: its entries, walked -/
/-- the entries of the object, keys and values -/
def EntsOf (o : Obj) (kv : List (V × V)) : Prop := o.ExactDict ∧ ∃ es ep, o.data = .dict es ep ∧ es.size = kv.length ∧ ∀ (i : Nat) (hi : i < es.size) (k v : V), kv[i]? = some (k, v) → RelV k es[i].key ∧ RelV v es[i].val
section
variable {X : Cx} {pins : List (Addr × Obj)} {σ : L2.St} {H : Hp} {s : Shared} {d : Addr} {o : Obj}
theorem ents_N [Wd] {xs : List DE} (I : Inv X pins σ H s) (h : H d = some (.frz o (DicO d xs))) : (d == sysModules) = false ∧ s.heap.get? d = some o ∧ EntsOf o (xs.map fun p => (.ref p.2.1, p.2.2)) := by
  obtain ⟨e, ⟨z, hd, ys, r, o', es, ep, h1, h2, h3, h4, _⟩, _, _⟩ := I.hok d _ h
  rw [e] at h1
  cases h1
  have hl : es.size = ys.length := by rw [← Array.length_toList, h4, List.length_map]
  refine ⟨hd, e, h2, es, ep, h3, by rw [hl, List.length_map]; exact (Paired.length r).symm, fun i hi k v q => ?_⟩
  rw [List.getElem?_map] at q
  obtain ⟨p, hp, e2⟩ := Option.map_eq_some_iff.mp q
  cases e2
  obtain ⟨y, hy, _, h6, h7⟩ := paired_get r hp
  have e3 : es[i]? = some (entW y) := by rw [← Array.getElem?_toList, h4, List.getElem?_map, hy]; rfl
  rw [Array.getElem?_eq_getElem hi] at e3
  rw [Option.some.inj e3]
  exact ⟨by rw [h6]; rfl, h7⟩
theorem pairs_get {P : Program} {w : World} : ∀ {es : List DictEntry} {vs : List (Key × Value)}, Pairs (mixKind P w) es vs → ∀ (i : Nat) (en : DictEntry), es[i]? = some en → ∃ q, vs[i]? = some q ∧ RelV (kV q.1) en.key ∧ en.val = q.2
  | _, _, .nil, i, en, e => by simp at e
  | _, _, @Pairs.cons _ _ _ _ _ _ kv _ kvs hk hv t, i, en, e => by
    cases i with
    | zero =>
      simp only [List.getElem?_cons_zero, Option.some.injEq] at e
      subst e
      exact ⟨kv, rfl, relV_key hk, hv⟩
    | succ i =>
      simp only [List.getElem?_cons_succ] at e ⊢
      exact pairs_get t i en e
theorem ents_K {kvs : List (Key × V)} (I : Inv X pins σ H s) (h : H d = some (.frz o (.dK kvs))) : (d == sysModules) = false ∧ s.heap.get? d = some o ∧ EntsOf o (kvs.map fun p => (kV p.1, p.2)) := by
  obtain ⟨hs, hg, hx, es, ep, vs, hd, hz, kv, o', es', h1, h2, h3, h4, h5, _⟩ := I.frzK h
  rw [hg] at h1
  cases h1
  rw [hd] at h3
  cases h3
  refine ⟨hs, hg, hx, es, ep, hd, by rw [hz, List.length_map], fun i hi k v q => ?_⟩
  rw [List.getElem?_map] at q
  obtain ⟨p, hp, e2⟩ := Option.map_eq_some_iff.mp q
  cases e2
  obtain ⟨y, hy, r1, r2⟩ := pairs_get h5 i es[i] (by rw [Array.getElem?_toList, Array.getElem?_eq_getElem hi])
  obtain ⟨u, hu, ru⟩ := kv_get kv (i := i) (k := p.1) (v := p.2) hp
  rw [hu] at hy
  cases hy
  exact ⟨r1, by rw [r2]; exact ru⟩
end
/-- the object at d is o and stays so -/
def Still (H : Hp) (d : Addr) (o : Obj) : Prop := ∃ u, H d = some (.frz o u)
theorem still_get {X : Cx} {pins : List (Addr × Obj)} {σ : L2.St} {H : Hp} {s : Shared} {d : Addr} {o : Obj} (I : Inv X pins σ H s) (h : Still H d o) : s.heap.get? d = some o := by
  obtain ⟨u, h⟩ := h
  exact (I.hok d _ h).1
def WkK (d : Addr) (o : Obj) (kv : List (V × V)) : L2.It := ⟨fun i H => Still H d o ∧ i < kv.length, fun i H x H' => H' = H ∧ ∃ v, kv[i]? = some (x, v), fun i H => Still H d o ∧ kv.length ≤ i⟩
def WkV (d : Addr) (o : Obj) (kv : List (V × V)) : L2.It := ⟨fun i H => Still H d o ∧ i < kv.length, fun i H x H' => H' = H ∧ ∃ k, kv[i]? = some (k, x), fun i H => Still H d o ∧ kv.length ≤ i⟩
def WkI (d : Addr) (o : Obj) (kv : List (V × V)) : L2.It := ⟨fun i H => Still H d o ∧ i < kv.length, fun i H x H' => ∃ T k v, kv[i]? = some (k, v) ∧ x = .ref T ∧ H T = none ∧ H' = upd H T (.tup [k, v]), fun i H => Still H d o ∧ kv.length ≤ i⟩
section
variable {P : Program} {w : World} {K : PySem.W.Frag} {tg : Expr} {d : Addr} {o : Obj} {es : Array DictEntry} {ep : Nat} {kv : List (V × V)}
theorem turn_WkK (it : Addr) (hx : o.ExactDict) (hod : o.data = .dict es ep) (hz : es.size = kv.length) (hr : ∀ (i : Nat) (hi : i < es.size) (k v : V), kv[i]? = some (k, v) → RelV k es[i].key ∧ RelV v es[i].val) :
    Turn P w K tg (WkK d o kv) [it] it (fun i h => h.IsKeyIter it d i es.size ep) where
  mem := .head _
  obj := fun i h st b hb => by
    obtain ⟨oi, e, c, dd⟩ := st
    rw [List.mem_singleton.mp hb]
    exact ⟨oi, e, fun v z => by rw [dd] at z; cases z⟩
  keep := fun i h h' st k => st.at fun oi e => k it (.head _) oi e
  item := fun X hP hw hK hc i pins s σ H E I hf st hg => by
    subst hP hw hK
    obtain ⟨f0, f1, f2, f3, f4, f5⟩ := hf it (.head _)
    have raw : s.heap.DictRaw d es ep := ⟨o, still_get I hg.1, hx, hod⟩
    have hi : i < es.size := by rw [hz]; exact hg.2
    refine wpAny_pyNext_keys_item_raw st raw hi fun h' st' sb => ?_
    have I1 : Inv X pins σ H { s with heap := h' } := I.turned (t' := s.toks) (fun b ob hb e => (sb.2 b hb).trans e) f0 f1 f3 f4 f5
    obtain ⟨oi, e, c, dd⟩ := id st'
    have hkv : kv[i]? = some (kv[i].1, kv[i].2) := List.getElem?_eq_getElem hg.2
    exact ⟨_, rfl, go_of (s := { s with heap := h' }) e c dd (by decide) ⟨kv[i].1, H, I1, (hr i hi _ _ hkv).1, ⟨rfl, _, hkv⟩, st', fun b hb => (hf b hb).1⟩⟩
  done := fun X hP hw hK hc i pins s σ H E I hf st hg => by
    subst hP hw hK
    obtain ⟨f0, f1, f2, f3, f4, f5⟩ := hf it (.head _)
    exact wpAny_pyNext_keys_end_raw (I.ok.hd hc) st ⟨o, still_get I hg.1, hx, hod⟩ (by rw [hz]; exact hg.2) fun h' eb => ⟨rfl, I.turned (t' := s.toks) (fun b ob hb e => eb b ob hb e) f0 f1 f3 f4 f5⟩
  self := fun A i s Q E st h => wpAny_pyIter_keyiter st h
theorem turn_WkV (it : Addr) (hx : o.ExactDict) (hod : o.data = .dict es ep) (hz : es.size = kv.length) (hr : ∀ (i : Nat) (hi : i < es.size) (k v : V), kv[i]? = some (k, v) → RelV k es[i].key ∧ RelV v es[i].val) :
    Turn P w K tg (WkV d o kv) [it] it (fun i h => h.IsValIter it d i es.size ep) where
  mem := .head _
  obj := fun i h st b hb => by
    obtain ⟨oi, e, c, dd⟩ := st
    rw [List.mem_singleton.mp hb]
    exact ⟨oi, e, fun v z => by rw [dd] at z; cases z⟩
  keep := fun i h h' st k => st.at fun oi e => k it (.head _) oi e
  item := fun X hP hw hK hc i pins s σ H E I hf st hg => by
    subst hP hw hK
    obtain ⟨f0, f1, f2, f3, f4, f5⟩ := hf it (.head _)
    have raw : s.heap.DictRaw d es ep := ⟨o, still_get I hg.1, hx, hod⟩
    have hi : i < es.size := by rw [hz]; exact hg.2
    refine wpAny_pyNext_values_item_raw st raw hi fun h' st' sb => ?_
    have I1 : Inv X pins σ H { s with heap := h' } := I.turned (t' := s.toks) (fun b ob hb e => (sb.2 b hb).trans e) f0 f1 f3 f4 f5
    obtain ⟨oi, e, c, dd⟩ := id st'
    have hkv : kv[i]? = some (kv[i].1, kv[i].2) := List.getElem?_eq_getElem hg.2
    exact ⟨_, rfl, go_of (s := { s with heap := h' }) e c dd (by decide) ⟨kv[i].2, H, I1, (hr i hi _ _ hkv).2, ⟨rfl, _, hkv⟩, st', fun b hb => (hf b hb).1⟩⟩
  done := fun X hP hw hK hc i pins s σ H E I hf st hg => by
    subst hP hw hK
    obtain ⟨f0, f1, f2, f3, f4, f5⟩ := hf it (.head _)
    exact wpAny_pyNext_values_end_raw (I.ok.hd hc) st ⟨o, still_get I hg.1, hx, hod⟩ (by rw [hz]; exact hg.2) fun h' eb => ⟨rfl, I.turned (t' := s.toks) (fun b ob hb e => eb b ob hb e) f0 f1 f3 f4 f5⟩
  self := fun A i s Q E st h => wpAny_pyIter_valiter st h
theorem turn_WkI {elts : List Expr} {kk : Nat} {tpos : Pos} (it : Addr) (hx : o.ExactDict) (hod : o.data = .dict es ep) (hz : es.size = kv.length) (hr : ∀ (i : Nat) (hi : i < es.size) (k v : V), kv[i]? = some (k, v) → RelV k es[i].key ∧ RelV v es[i].val) :
    Turn P w K (.Tuple elts kk tpos) (WkI d o kv) [it] it (fun i h => ∃ ok ov, IsItemIter h it d i es.size ep ok ov) where
  mem := .head _
  obj := fun i h st b hb => by
    obtain ⟨ok, ov, e⟩ := st
    rw [List.mem_singleton.mp hb]
    exact ⟨_, e, fun v z => nomatch z⟩
  keep := fun i h h' st k => let ⟨ok, ov, e⟩ := st; ⟨ok, ov, k it (.head _) _ e⟩
  item := fun X hP hw hK hc i pins s σ H E I hf st hg => by
    subst hP hw hK
    have raw : s.heap.DictRaw d es ep := ⟨o, still_get I hg.1, hx, hod⟩
    have hi : i < es.size := by rw [hz]; exact hg.2
    obtain ⟨ok, ov, he⟩ := st
    have hlt : it < s.heap.objs.size := Heap.lt_size he
    have hkv : kv[i]? = some (kv[i].1, kv[i].2) := List.getElem?_eq_getElem hg.2
    obtain ⟨r1, r2⟩ := hr i hi _ _ hkv
    refine wpAny_pyNext_items_item_raw he raw hi fun h' ho hT hsz hk => ?_
    refine ⟨_, rfl, wpAny_letOwnedTupleGo_items (s := { s with heap := h' }) ho fun h'' he' sb => ?_⟩
    have hT2 : h''.get? s.heap.objs.size = some { cls := .type "tuple", data := .seq #[es[i].key, es[i].val] } := (sb.2 _ (Nat.ne_of_gt hlt)).trans hT
    have I1 : Inv X pins σ (upd H s.heap.objs.size (.tup [kv[i].1, kv[i].2])) { s with heap := h'' } := by
      refine I.turnedNew (t' := s.toks) (ch := [it]) (fun b ob hb e => ?_) hf (Nat.le_refl _) ⟨Nat.le_trans (show 2 ≤ 1000 by decide) (by rw [sizeLine_eq]; decide), [_, _], .cons r1 (.cons r2 .nil), ⟨_, hT2, rfl, _, rfl⟩⟩
      have hb' : b ≠ it := fun z => hb (List.mem_singleton.mpr z)
      exact (sb.2 b hb').trans (hk b ob hb' e)
    refine ⟨.ref s.heap.objs.size, _, I1, rfl, ⟨_, _, _, hkv, rfl, I.hok.fresh (Nat.le_refl _), rfl⟩, ⟨_, _, he'⟩, fun b hb => ?_⟩
    rw [List.mem_singleton.mp hb, upd_ne (Nat.ne_of_lt hlt)]
    exact (hf it (.head _)).1
  done := fun X hP hw hK hc i pins s σ H E I hf st hg => by
    subst hP hw hK
    obtain ⟨f0, f1, f2, f3, f4, f5⟩ := hf it (.head _)
    obtain ⟨ok, ov, he⟩ := st
    exact wpAny_pyNext_items_end_raw (I.ok.hd hc) he ⟨o, still_get I hg.1, hx, hod⟩ (by rw [hz]; exact hg.2) fun h' eb => ⟨rfl, I.turned (t' := s.toks) (fun b ob hb e => eb b ob hb e) f0 f1 f3 f4 f5⟩
  self := fun A i s Q E st h => let ⟨_, _, e⟩ := st; PySem.W.kcp_self e h
end
/-- what is walked: keys, values, pairs -/
inductive Wk where
  | keys | vals | items
  deriving DecidableEq, Repr
def Wk.it : Wk → Addr → Obj → List (V × V) → L2.It
  | .keys => WkK | .vals => WkV | .items => WkI
/-- what a frozen dict's object holds -/
def Fz (a : Addr) (o : Obj) (u : HO) (kv : List (V × V)) : Prop := ∀ (X : Cx) (pins : List (Addr × Obj)) (σ : L2.St) (H : Hp) (s : Shared), Inv X pins σ H s → H a = some (.frz o u) → (a == sysModules) = false ∧ s.heap.get? a = some o ∧ EntsOf o kv
def iWk (wk : Wk) (td : TE) : TI := fun σ H R => td σ H fun x H1 => ∃ d o u kv, x = .ref d ∧ Fz d o u kv ∧ H1 d = some (.frz o u) ∧ R (wk.it d o kv) H1
section
variable {X : Cx} {tg e : Expr} {td : TE} {apos cpos : Pos}
theorem pi_WkV (he : PE X e td) (hbase : attributeBase e "values" X.env (eval e X.env) = eval e X.env) (hline : (apos.endLine == cpos.line) = true) : PI X tg (.Call (.Attribute e "values" apos) [] [] cpos) (iWk .vals td) := by
  refine ⟨fun pins s σ H R I h => ?_⟩
  refine wpAny_Call_method (T := "dict") (id := "dict.values") hbase rfl hline F.plainAttrs_dict F.slot_dict_values F.type_dict_values (thn (he.run pins s σ H _ I h) fun u s1 ⟨x, H1, I1, rx, d, o, ob, kv, ex, fz, hd, q⟩ => ?_)
  subst ex
  cases rx
  obtain ⟨hs, _, hx, es, ep, hod, hz, hr⟩ := fz X pins σ H1 s1 I1 hd
  have raw : s1.heap.DictRaw d es ep := ⟨o, still_get I1 ⟨_, hd⟩, hx, hod⟩
  refine ⟨raw.typeIs, fun b e => by cases e; exact ⟨o, still_get I1 ⟨_, hd⟩, hx.2.1⟩, ?_⟩
  have I2 : Inv X pins σ H1 { s1 with heap := s1.heap.push { cls := .type "dict_values", data := .fields #[.ref d] } } := I1.kept (t' := s1.toks) fun b ob q => Heap.get?_push_of_some _ q
  have fin : wpAny (model X.prog X.w) X.A (pyIter (.ref s1.heap.objs.size)) (PIE X pins σ tg R) X.xe { s1 with heap := s1.heap.push { cls := .type "dict_values", data := .fields #[.ref d] } } :=
    wpAny_pyIter_values_raw (d := d) ⟨_, Heap.get?_push_size _ rfl, rfl, rfl⟩ (raw.push _) (pi_one (tk := s1.toks) I2 _ (turn_WkV _ hx hod hz hr) ⟨_, Heap.get?_push_size _ rfl, rfl, rfl⟩ q)
  show wpAny _ _ (callWith cpos (.builtin "dict.values") [.ref d] [] []) _ X.xe s1
  exact method_meetsIn F.slot_dict_values F.entry_dict_values rfl (PySem.evalArgs_none ⟨rfl, raw.typeIs, F.args_dict_values_1 _, _, meets_dict_values_raw d hs, ⟨es, ep, raw⟩, fin⟩)
theorem pi_WkI {elts : List Expr} {kk : Nat} {tpos : Pos} (he : PE X e td) (hbase : attributeBase e "items" X.env (eval e X.env) = eval e X.env) (hline : (apos.endLine == cpos.line) = true) :
    PI X (.Tuple elts kk tpos) (.Call (.Attribute e "items" apos) [] [] cpos) (iWk .items td) := by
  refine ⟨fun pins s σ H R I h => ?_⟩
  refine wpAny_Call_method (T := "dict") (id := "dict.items") hbase rfl hline F.plainAttrs_dict F.slot_dict_items F.type_dict_items (thn (he.run pins s σ H _ I h) fun u s1 ⟨x, H1, I1, rx, d, o, ob, kv, ex, fz, hd, q⟩ => ?_)
  subst ex
  cases rx
  obtain ⟨hs, _, hx, es, ep, hod, hz, hr⟩ := fz X pins σ H1 s1 I1 hd
  have raw : s1.heap.DictRaw d es ep := ⟨o, still_get I1 ⟨_, hd⟩, hx, hod⟩
  refine ⟨raw.typeIs, fun b e => by cases e; exact ⟨o, still_get I1 ⟨_, hd⟩, hx.2.1⟩, ?_⟩
  have I2 : Inv X pins σ H1 { s1 with heap := s1.heap.push { cls := .type "dict_items", data := .fields #[.ref d] } } := I1.kept (t' := s1.toks) fun b ob q => Heap.get?_push_of_some _ q
  have fin : wpAny (model X.prog X.w) X.A (pyIter (.ref s1.heap.objs.size)) (PIE X pins σ (.Tuple elts kk tpos) R) X.xe { s1 with heap := s1.heap.push { cls := .type "dict_items", data := .fields #[.ref d] } } :=
    wpAny_pyIter_items_raw (d := d) ⟨_, Heap.get?_push_size _ rfl, rfl, rfl⟩ (raw.push _) (pi_one (tk := s1.toks) I2 _ (turn_WkI _ hx hod hz hr) ⟨.none, .none, Heap.get?_push_size _ rfl⟩ q)
  show wpAny _ _ (callWith cpos (.builtin "dict.items") [.ref d] [] []) _ X.xe s1
  exact method_meetsIn F.slot_dict_items F.entry_dict_items rfl (PySem.evalArgs_none ⟨rfl, raw.typeIs, F.args_dict_items_1 _, _, meets_dict_items_raw d hs, ⟨es, ep, raw⟩, fin⟩)
end
end Wt
set_option maxRecDepth 100000
set_option maxHeartbeats 4000000
/-! The data that values stand for, the store of lists that change, and how both lie in the abstract heap. -/
namespace Wt
open PySem L2

/-- data: lists and tuples by value, or the n-th of the lists that may change -/
inductive D where
  | non | bl (b : Bool) | int (i : Int) | str (s : Str)
  | lst (xs : List D) | tup (xs : List D) | scr (ns : List Int) | loc (n : Nat) | dic (ks vs : List D)
  deriving Inhabited
/-- a thing that may change -/
inductive M where
  | ls (xs : List D)
  | dc (kvs : List (D × D))
  deriving Inhabited
abbrev Store := List (Option M)

def Lv (ad : List Addr) (S : Store) (a : Addr) : Prop := ∃ (n : Nat) (m : M), ad[n]? = some a ∧ S[n]? = some (some m)
open Classical in
/-- the heap without the things that may change -/
noncomputable def era (hd ad : List Addr) (S : Store) (H : Hp) : Hp := fun a => if a ∈ hd ∨ Lv ad S a then none else H a
def Ex (H H' : Hp) : Prop := ∀ a o, H a = some o → H' a = some o
theorem Ex.refl (H : Hp) : Ex H H := fun _ _ h => h
theorem Ex.trans {H H1 H2 : Hp} (a : Ex H H1) (b : Ex H1 H2) : Ex H H2 := fun x o h => b x o (a x o h)
theorem Ex.new {H : Hp} {p : Addr} {o : HO} (h : H p = none) : Ex H (upd H p o) := fun a u e => by
  rw [upd_ne (ne_of_none e h)]
  exact e

/-- a key as data, as the model knows it -/
def nkD : Nat → D → Option NestedKey
  | 0, _ => none
  | _ + 1, .non => some .none
  | _ + 1, .bl b => some (.num (if b = true then 1 else 0))
  | _ + 1, .int i => some (.num i)
  | _ + 1, .str x => some (.text x)
  | n + 1, .tup ds => (ds.mapM (nkD n)).map .tup
  | _ + 1, _ => none
def keyD : Key → D
  | .inl i => .int i
  | .inr x => .str x
variable [Wd]
mutual
/-- v stands for d -/
inductive Rp (K : PySem.W.Frag) (H : Hp) (ad : List Addr) : V → D → Prop
  | non : Rp K H ad .non .non
  | bl (b : Bool) : Rp K H ad (.bl b) (.bl b)
  | int (i : Int) : Rp K H ad (.int i) (.int i)
  | str (x : Str) : Rp K H ad (.str x) (.str x)
  | lst {a : Addr} {xs : List V} {ds : List D} : H a = some (.lst xs) → RpAll K H ad xs ds → Rp K H ad (.ref a) (.lst ds)
  | tup {a : Addr} {xs : List V} {ds : List D} : SqT K H a xs → RpAll K H ad xs ds → Rp K H ad (.ref a) (.tup ds)
  | scr {a : Addr} {ns : List Int} : SqL K H a (ns.map V.int) → Rp K H ad (.ref a) (.scr ns)
  | loc {a : Addr} {n : Nat} : ad[n]? = some a → Rp K H ad (.ref a) (.loc n)
  | dcN {a : Addr} {o : Obj} {xs : List DE} {ks ds : List D} : H a = some (.frz o (DicO a xs)) → xs ≠ [] → ks.map (nkD 8) = xs.map (fun p => some p.1) → RpAll K H ad (xs.map fun p => V.ref p.2.1) ks → RpAll K H ad (xs.map fun p => p.2.2) ds → Rp K H ad (.ref a) (.dic ks ds)
  | dcK {a : Addr} {o : Obj} {xs : List (Key × V)} {ks ds : List D} : H a = some (.frz o (.dK xs)) → ks = xs.map (fun p => keyD p.1) → RpAll K H ad (xs.map fun p => p.2) ds → Rp K H ad (.ref a) (.dic ks ds)
inductive RpAll (K : PySem.W.Frag) (H : Hp) (ad : List Addr) : List V → List D → Prop
  | nil : RpAll K H ad [] []
  | cons {v : V} {vs : List V} {d : D} {ds : List D} : Rp K H ad v d → RpAll K H ad vs ds → RpAll K H ad (v :: vs) (d :: ds)
end

theorem ex_rd {H H' : Hp} {a : Addr} {u : HO} (e : Ex H H') (h : Rd H a u) : Rd H' a u := by
  rcases h with h | ⟨o, h⟩
  · exact Or.inl (e a _ h)
  · exact Or.inr ⟨o, e a _ h⟩
theorem ex_l {K : PySem.W.Frag} {H H' : Hp} {a : Addr} {xs : List V} (e : Ex H H') (h : SqL K H a xs) : SqL K H' a xs := by
  rcases h with h | h
  · exact Or.inl (ex_rd e h)
  · exact Or.inr h
theorem ex_t {K : PySem.W.Frag} {H H' : Hp} {a : Addr} {xs : List V} (e : Ex H H') (h : SqT K H a xs) : SqT K H' a xs := by
  rcases h with h | h
  · exact Or.inl (ex_rd e h)
  · exact Or.inr h
/-- one list of addresses goes on from another -/
def Pre (ad ad' : List Addr) : Prop := ∀ (n : Nat) (a : Addr), ad[n]? = some a → ad'[n]? = some a
theorem Pre.refl (ad : List Addr) : Pre ad ad := fun _ _ h => h
theorem Pre.trans {a b c : List Addr} (x : Pre a b) (y : Pre b c) : Pre a c := fun n p h => y n p (x n p h)
theorem Pre.app (ad : List Addr) (p : Addr) : Pre ad (ad ++ [p]) := fun n a h => by
  have hn : n < ad.length := (List.getElem?_eq_some_iff.mp h).1
  rw [List.getElem?_append_left hn]
  exact h
section
variable {K : PySem.W.Frag} {H H' : Hp} {ad ad' : List Addr}
mutual
theorem Rp.mono (e : Ex H H') (p : Pre ad ad') : ∀ (d : D) (v : V), Rp K H ad v d → Rp K H' ad' v d
  | .non, _, .non => .non
  | .bl b, _, .bl _ => .bl b
  | .int b, _, .int _ => .int b
  | .str b, _, .str _ => .str b
  | .lst ds, _, .lst h r => .lst (e _ _ h) (RpAll.mono e p ds _ r)
  | .tup ds, _, .tup h r => .tup (ex_t e h) (RpAll.mono e p ds _ r)
  | .scr ns, _, .scr h => .scr (ex_l e h)
  | .loc n, _, .loc h => .loc (p _ _ h)
  | .dic ks ds, _, .dcN h q0 q r1 r2 => .dcN (e _ _ h) q0 q (RpAll.mono e p ks _ r1) (RpAll.mono e p ds _ r2)
  | .dic ks ds, _, .dcK h q r2 => .dcK (e _ _ h) q (RpAll.mono e p ds _ r2)
theorem RpAll.mono (e : Ex H H') (p : Pre ad ad') : ∀ (ds : List D) (vs : List V), RpAll K H ad vs ds → RpAll K H' ad' vs ds
  | [], _, .nil => .nil
  | d :: ds, _, .cons h r => .cons (Rp.mono e p d _ h) (RpAll.mono e p ds _ r)
end
theorem RpAll.length : ∀ {vs : List V} {ds : List D}, RpAll K H ad vs ds → vs.length = ds.length
  | _, _, .nil => rfl
  | _, _, .cons _ r => congrArg (· + 1) r.length
theorem RpAll.get : ∀ {vs : List V} {ds : List D} {i : Nat} {d : D}, RpAll K H ad vs ds → ds[i]? = some d → ∃ v, vs[i]? = some v ∧ Rp K H ad v d
  | _, _, _, _, .nil, e => by simp at e
  | _, _, 0, _, .cons r _, e => by simp at e; subst e; exact ⟨_, rfl, r⟩
  | _, _, i + 1, d, .cons _ t, e => by
    obtain ⟨u, h1, h2⟩ := RpAll.get (i := i) (d := d) t (by simpa using e)
    exact ⟨u, by simpa using h1, h2⟩
theorem RpAll.get' : ∀ {vs : List V} {ds : List D} {i : Nat} {v : V}, RpAll K H ad vs ds → vs[i]? = some v → ∃ d, ds[i]? = some d ∧ Rp K H ad v d
  | _, _, _, _, .nil, e => by simp at e
  | _, _, 0, _, .cons r _, e => by simp at e; subst e; exact ⟨_, rfl, r⟩
  | _, _, i + 1, d, .cons _ t, e => by
    obtain ⟨u, h1, h2⟩ := RpAll.get' (i := i) (v := d) t (by simpa using e)
    exact ⟨u, by simpa using h1, h2⟩
theorem RpAll.append : ∀ {vs us : List V} {ds es : List D}, RpAll K H ad vs ds → RpAll K H ad us es → RpAll K H ad (vs ++ us) (ds ++ es)
  | _, _, _, _, .nil, s => s
  | _, _, _, _, .cons r t, s => .cons r (RpAll.append t s)
theorem RpAll.set {v : V} {d : D} (r : Rp K H ad v d) : ∀ {vs : List V} {ds : List D} (i : Nat), RpAll K H ad vs ds → RpAll K H ad (vs.set i v) (ds.set i d)
  | _, _, _, .nil => .nil
  | _, _, 0, .cons _ t => .cons r t
  | _, _, i + 1, .cons q t => .cons q (RpAll.set r i t)
theorem RpAll.drop : ∀ {vs : List V} {ds : List D} (i : Nat), RpAll K H ad vs ds → RpAll K H ad (vs.drop i) (ds.drop i)
  | _, _, 0, r => r
  | _, _, _ + 1, .nil => .nil
  | _, _, n + 1, .cons _ t => RpAll.drop n t
theorem RpAll.take : ∀ {vs : List V} {ds : List D} (i : Nat), RpAll K H ad vs ds → RpAll K H ad (vs.take i) (ds.take i)
  | _, _, 0, _ => .nil
  | _, _, _ + 1, .nil => .nil
  | _, _, n + 1, .cons q t => .cons q (RpAll.take n t)
theorem RpAll.reverse : ∀ {vs : List V} {ds : List D}, RpAll K H ad vs ds → RpAll K H ad vs.reverse ds.reverse
  | _, _, .nil => .nil
  | _, _, .cons q t => by
    rw [List.reverse_cons, List.reverse_cons]
    exact RpAll.append (RpAll.reverse t) (.cons q .nil)
theorem RpAll.ints : ∀ {vs : List V} {ns : List Int}, RpAll K H ad vs (ns.map D.int) → vs = ns.map V.int
  | [], [], _ => rfl
  | _ :: _, _ :: _, .cons (.int i) t => congrArg (V.int i :: ·) (RpAll.ints t)
theorem RpAll.strs : ∀ {vs : List V} {ns : List Str}, RpAll K H ad vs (ns.map D.str) → vs = ns.map V.str
  | [], [], _ => rfl
  | _ :: _, _ :: _, .cons (.str i) t => congrArg (V.str i :: ·) (RpAll.strs t)
theorem RpAll.of_ints : ∀ (ns : List Int), RpAll K H ad (ns.map V.int) (ns.map D.int)
  | [] => .nil
  | _ :: r => .cons (.int _) (RpAll.of_ints r)
theorem RpAll.of_strs : ∀ (ns : List Str), RpAll K H ad (ns.map V.str) (ns.map D.str)
  | [] => .nil
  | _ :: r => .cons (.str _) (RpAll.of_strs r)
end

/-- an entry of a dict -/
def ERel (K : PySem.W.Frag) (E : Hp) (ad : List Addr) (p : DE) (q : D × D) : Prop := Rp K E ad (.ref p.2.1) q.1 ∧ nkD 8 q.1 = some p.1 ∧ Rp K E ad p.2.2 q.2
/-- an entry of a dict whose keys are whole numbers and texts -/
def KRel (K : PySem.W.Frag) (E : Hp) (ad : List Addr) (p : Key × V) (q : D × D) : Prop := q.1 = keyD p.1 ∧ Rp K E ad p.2 q.2
/-- what a thing that may change is -/
def MR (K : PySem.W.Frag) (E : Hp) (ad : List Addr) (H : Hp) (a : Addr) : M → Prop
  | .ls xs => ∃ vs, H a = some (.lst vs) ∧ RpAll K E ad vs xs
  | .dc kvs => (∃ xs : List DE, H a = some (DicO a xs) ∧ xs ≠ [] ∧ Paired (ERel K E ad) xs kvs) ∨ ∃ xs : List (Key × V), H a = some (.dK xs) ∧ Paired (KRel K E ad) xs kvs
theorem MR.mono {K : PySem.W.Frag} {E E' : Hp} {ad ad' : List Addr} {H H' : Hp} {a : Addr} (e : Ex E E') (p : Pre ad ad') (h : H' a = H a) : ∀ {m : M}, MR K E ad H a m → MR K E' ad' H' a m
  | .ls xs, ⟨vs, h1, h2⟩ => ⟨vs, h.trans h1, RpAll.mono e p _ _ h2⟩
  | .dc kvs, .inl ⟨xs, h1, h0, h2⟩ => .inl ⟨xs, h.trans h1, h0, Paired.mapP h2 fun _ _ q => ⟨Rp.mono e p _ _ q.1, q.2.1, Rp.mono e p _ _ q.2.2⟩⟩
  | .dc kvs, .inr ⟨xs, h1, h2⟩ => .inr ⟨xs, h.trans h1, Paired.mapP h2 fun _ _ q => ⟨q.1, Rp.mono e p _ _ q.2⟩⟩
theorem MR.there {K : PySem.W.Frag} {E : Hp} {ad : List Addr} {H : Hp} {a : Addr} : ∀ {m : M}, MR K E ad H a m → ∃ o, H a = some o
  | .ls _, ⟨_, h, _⟩ => ⟨_, h⟩
  | .dc _, .inl ⟨_, h, _⟩ => ⟨_, h⟩
  | .dc _, .inr ⟨_, h, _⟩ => ⟨_, h⟩
/-- the store lies in the heap; hd: things that somebody else is at, hidden -/
structure SR (K : PySem.W.Frag) (hd ad : List Addr) (S : Store) (H : Hp) : Prop where
  len : ad.length = S.length
  nd : ad.Nodup
  th : ∀ a ∈ ad, ∃ o, H a = some o
  ht : ∀ a ∈ hd, ∃ o, H a = some o
  dj : ∀ a ∈ hd, a ∉ ad
  ms : ∀ (n : Nat) (a : Addr) (m : M), ad[n]? = some a → S[n]? = some (some m) → MR K (era hd ad S H) ad H a m
theorem SR.ls {K : PySem.W.Frag} {hd ad : List Addr} {S : Store} {H : Hp} (s : SR K hd ad S H) (n : Nat) (a : Addr) (xs : List D) (h1 : ad[n]? = some a) (h2 : S[n]? = some (some (M.ls xs))) : ∃ vs, H a = some (.lst vs) ∧ RpAll K (era hd ad S H) ad vs xs := s.ms n a _ h1 h2
/-- from one state to a later one -/
structure Good (K : PySem.W.Frag) (hd ad : List Addr) (S : Store) (H : Hp) (ad' : List Addr) (S' : Store) (H' : Hp) : Prop where
  pre : Pre ad ad'
  ex : Ex (era hd ad S H) (era hd ad' S' H')
  sr : SR K hd ad' S' H'
  hid : ∀ a ∈ hd, H' a = H a
section
variable {K : PySem.W.Frag} {H H' H1 H2 : Hp} {hd ad ad' ad1 ad2 : List Addr} {S S' S1 S2 : Store}
theorem Good.refl (s : SR K hd ad S H) : Good K hd ad S H ad S H := ⟨Pre.refl _, Ex.refl _, s, fun _ _ => rfl⟩
theorem Good.trans (a : Good K hd ad S H ad1 S1 H1) (b : Good K hd ad1 S1 H1 ad2 S2 H2) : Good K hd ad S H ad2 S2 H2 := ⟨a.pre.trans b.pre, a.ex.trans b.ex, b.sr, fun x hx => (b.hid x hx).trans (a.hid x hx)⟩
theorem era_of {a : Addr} {o : HO} (h : era hd ad S H a = some o) : H a = some o := by
  unfold era at h
  split at h
  · cases h
  · exact h
theorem era_not {a : Addr} (h0 : a ∉ hd) (h : ¬ Lv ad S a) : era hd ad S H a = H a := by
  unfold era
  rw [if_neg (by rintro (q | q); exact h0 q; exact h q)]
theorem era_lv {a : Addr} (h : Lv ad S a) : era hd ad S H a = none := by
  unfold era
  rw [if_pos (.inr h)]
theorem era_hd {a : Addr} (h : a ∈ hd) : era hd ad S H a = none := by
  unfold era
  rw [if_pos (.inl h)]
theorem era_nl {a : Addr} {o : HO} (h : era hd ad S H a = some o) : ¬ Lv ad S a := fun l => by
  rw [era_lv l] at h
  cases h
theorem era_nh {a : Addr} {o : HO} (h : era hd ad S H a = some o) : a ∉ hd := fun l => by
  rw [era_hd l] at h
  cases h
theorem era_none {a : Addr} (h : H a = none) : era hd ad S H a = none := by
  unfold era
  split
  · rfl
  · exact h
theorem SR.live (s : SR K hd ad S H) {a : Addr} (h : Lv ad S a) : ∃ o, H a = some o := by
  obtain ⟨n, m, h1, h2⟩ := h
  exact (s.ms n a m h1 h2).there
theorem SR.new_nl (s : SR K hd ad S H) {p : Addr} (h : H p = none) : ¬ Lv ad S p := fun l => by
  obtain ⟨vs, e⟩ := s.live l
  rw [h] at e
  cases e
theorem SR.notin (s : SR K hd ad S H) {p : Addr} (h : H p = none) : p ∉ ad := fun l => by
  obtain ⟨o, e⟩ := s.th p l
  rw [h] at e
  cases e
theorem SR.nothd (s : SR K hd ad S H) {p : Addr} (h : H p = none) : p ∉ hd := fun l => by
  obtain ⟨o, e⟩ := s.ht p l
  rw [h] at e
  cases e
theorem era_upd_new {p : Addr} {o : HO} (h0 : p ∉ hd) (h : ¬ Lv ad S p) : era hd ad S (upd H p o) = upd (era hd ad S H) p o := by
  funext b
  by_cases hb : b = p
  · subst hb
    rw [era_not h0 h, upd_same, upd_same]
  · rw [upd_ne hb]
    by_cases hl : b ∈ hd ∨ Lv ad S b
    · unfold era
      rw [if_pos hl, if_pos hl]
    · unfold era
      rw [if_neg hl, if_neg hl, upd_ne hb]
/-- extensions of the whole heap -/
theorem SR.keep (s : SR K hd ad S H) (e : Ex H H') : Good K hd ad S H ad S H' := by
  have e2 : Ex (era hd ad S H) (era hd ad S H') := fun a o h => by
    rw [era_not (era_nh h) (era_nl h)]
    exact e a o (era_of h)
  refine ⟨Pre.refl _, e2, ⟨s.len, s.nd, fun a ha => ?_, fun a ha => ?_, s.dj, fun n a xs h1 h2 => ?_⟩, fun a ha => ?_⟩
  · obtain ⟨o, h⟩ := s.th a ha
    exact ⟨o, e a o h⟩
  · obtain ⟨o, h⟩ := s.ht a ha
    exact ⟨o, e a o h⟩
  · have q := s.ms n a xs h1 h2
    obtain ⟨o, h3⟩ := q.there
    exact q.mono e2 (Pre.refl _) ((e a _ h3).trans h3.symm)
  · obtain ⟨o, h⟩ := s.ht a ha
    rw [h]
    exact e a o h
/-- a new object that never changes -/
theorem SR.new (s : SR K hd ad S H) {p : Addr} {o : HO} (h : H p = none) : Good K hd ad S H ad S (upd H p o) := s.keep (Ex.new h)
theorem SR.new_at (s : SR K hd ad S H) {p : Addr} {o : HO} (h : H p = none) : era hd ad S (upd H p o) p = some o := by
  rw [era_upd_new (s.nothd h) (s.new_nl h), upd_same]
theorem lv_app {xs : M} (hl : ad.length = S.length) {p b : Addr} (hb : b ≠ p) : Lv (ad ++ [p]) (S ++ [some xs]) b ↔ Lv ad S b := by
  constructor
  · rintro ⟨n, m, h1, h2⟩
    by_cases hn : n < ad.length
    · rw [List.getElem?_append_left hn] at h1
      rw [List.getElem?_append_left (by rw [← hl]; exact hn)] at h2
      exact ⟨n, m, h1, h2⟩
    · rw [List.getElem?_append_right (by omega)] at h1
      have h1' := List.mem_of_getElem? h1
      simp at h1'
      exact absurd h1' hb
  · rintro ⟨n, m, h1, h2⟩
    have hn : n < ad.length := (List.getElem?_eq_some_iff.mp h1).1
    exact ⟨n, m, by rw [List.getElem?_append_left hn]; exact h1, by rw [List.getElem?_append_left (by rw [← hl]; exact hn)]; exact h2⟩
theorem era_eq {ad' : List Addr} {S' : Store} {p : Addr} (hp : p ∉ hd) (lp : Lv ad' S' p) (l : ∀ b, b ≠ p → (Lv ad' S' b ↔ Lv ad S b)) (h0 : era hd ad S H p = none) (hk : ∀ b, b ≠ p → H' b = H b) : era hd ad' S' H' = era hd ad S H := by
  funext b
  by_cases hb : b = p
  · subst hb
    rw [h0, era_lv lp]
  · unfold era
    by_cases hl : b ∈ hd ∨ Lv ad S b
    · rw [if_pos hl, if_pos (hl.imp id (l b hb).mpr)]
    · rw [if_neg hl, if_neg (fun q => hl (q.imp id (l b hb).mp)), hk b hb]
/-- a new list that may change -/
theorem SR.allocM (s : SR K hd ad S H) {p : Addr} {o : HO} {m : M} (h : H p = none) (r : MR K (era hd ad S H) ad (upd H p o) p m) :
    Good K hd ad S H (ad ++ [p]) (S ++ [some m]) (upd H p o) ∧ (ad ++ [p])[S.length]? = some p := by
  have hp : (ad ++ [p])[S.length]? = some p := by
    rw [← s.len, List.getElem?_append_right (Nat.le_refl _)]
    simp
  have nl := s.new_nl h
  have e : era hd (ad ++ [p]) (S ++ [some m]) (upd H p o) = era hd ad S H :=
    era_eq (s.nothd h) ⟨S.length, m, hp, by simp⟩ (fun b hb => lv_app s.len hb) (era_none h) (fun b hb => upd_ne hb)
  refine ⟨⟨Pre.app _ _, by rw [e]; exact Ex.refl _, ⟨by simp [s.len], ?_, fun a ha => ?_, fun a ha => ?_, fun a ha hb => ?_, fun n a ys h1 h2 => ?_⟩, fun a ha => upd_ne fun q => s.nothd h (q ▸ ha)⟩, hp⟩
  · rw [List.nodup_append]
    refine ⟨s.nd, by simp, fun x hx y hy => ?_⟩
    simp at hy
    subst hy
    rintro rfl
    exact s.notin h hx
  · by_cases hb : a = p
    · subst hb
      exact ⟨_, upd_same⟩
    · obtain ⟨o, ho⟩ := s.th a (by simpa [hb] using ha)
      exact ⟨o, by rw [upd_ne hb]; exact ho⟩
  · obtain ⟨o, ho⟩ := s.ht a ha
    exact ⟨o, by rw [upd_ne (ne_of_none ho h)]; exact ho⟩
  · rcases List.mem_append.mp hb with q | q
    · exact s.dj a ha q
    · simp at q
      exact s.nothd h (q ▸ ha)
  · rw [e]
    by_cases hn : n < ad.length
    · rw [List.getElem?_append_left hn] at h1
      rw [List.getElem?_append_left (by rw [← s.len]; exact hn)] at h2
      have q := s.ms n a ys h1 h2
      obtain ⟨u, h3⟩ := q.there
      exact q.mono (Ex.refl _) (Pre.app _ _) (upd_ne (ne_of_none h3 h))
    · rw [List.getElem?_append_right (by omega)] at h1
      rw [List.getElem?_append_right (by have := s.len; omega), ← s.len] at h2
      have hz : n - ad.length = 0 := by
        have q := (List.getElem?_eq_some_iff.mp h1).1
        simp at q
        omega
      rw [hz] at h1 h2
      simp at h1 h2
      subst h1 h2
      exact r.mono (Ex.refl _) (Pre.app _ _) rfl
theorem SR.alloc (s : SR K hd ad S H) {p : Addr} {vs : List V} {xs : List D} (h : H p = none) (r : RpAll K (era hd ad S H) ad vs xs) :
    Good K hd ad S H (ad ++ [p]) (S ++ [some (.ls xs)]) (upd H p (.lst vs)) ∧ (ad ++ [p])[S.length]? = some p := s.allocM h ⟨vs, upd_same, r⟩
theorem nd_at (h : ad.Nodup) {i j : Nat} {x : Addr} (a : ad[i]? = some x) (b : ad[j]? = some x) : i = j := by
  obtain ⟨h1, e1⟩ := List.getElem?_eq_some_iff.mp a
  obtain ⟨h2, e2⟩ := List.getElem?_eq_some_iff.mp b
  exact (List.getElem_inj h).mp (e1.trans e2.symm)
theorem lv_set {n : Nat} {m m' : M} (h : S[n]? = some (some m)) {b : Addr} : Lv ad (S.set n (some m')) b ↔ Lv ad S b := by
  have hn : n < S.length := (List.getElem?_eq_some_iff.mp h).1
  constructor
  · rintro ⟨i, x, h1, h2⟩
    by_cases e : n = i
    · subst e
      exact ⟨n, m, h1, h⟩
    · rw [List.getElem?_set_ne e] at h2
      exact ⟨i, x, h1, h2⟩
  · rintro ⟨i, x, h1, h2⟩
    by_cases e : n = i
    · subst e
      exact ⟨n, m', h1, by rw [List.getElem?_set_self hn]⟩
    · exact ⟨i, x, h1, by rw [List.getElem?_set_ne e]; exact h2⟩
/-- a list that may change changes -/
theorem SR.writeM (s : SR K hd ad S H) {p : Addr} {n : Nat} {o : HO} {m m' : M} (hp : ad[n]? = some p) (hS : S[n]? = some (some m)) (r : MR K (era hd ad S H) ad (upd H p o) p m') :
    Good K hd ad S H ad (S.set n (some m')) (upd H p o) := by
  have hn : n < S.length := (List.getElem?_eq_some_iff.mp hS).1
  have lp : Lv ad S p := ⟨n, _, hp, hS⟩
  have nh : p ∉ hd := fun q => s.dj p q (List.mem_of_getElem? hp)
  have e : era hd ad (S.set n (some m')) (upd H p o) = era hd ad S H :=
    era_eq nh ((lv_set hS).mpr lp) (fun b _ => lv_set hS) (era_lv lp) (fun b hb => upd_ne hb)
  refine ⟨Pre.refl _, by rw [e]; exact Ex.refl _, ⟨by simp [s.len], s.nd, fun a ha => ?_, fun a ha => ?_, s.dj, fun i a zs h1 h2 => ?_⟩, fun a ha => upd_ne fun q => nh (q ▸ ha)⟩
  · by_cases hb : a = p
    · subst hb
      exact ⟨_, upd_same⟩
    · obtain ⟨o, ho⟩ := s.th a ha
      exact ⟨o, by rw [upd_ne hb]; exact ho⟩
  · obtain ⟨o, ho⟩ := s.ht a ha
    exact ⟨o, by rw [upd_ne (fun q => nh (by rw [← q]; exact ha))]; exact ho⟩
  · rw [e]
    by_cases q : n = i
    · subst q
      rw [hp] at h1
      cases h1
      rw [List.getElem?_set_self hn] at h2
      cases h2
      exact r
    · rw [List.getElem?_set_ne q] at h2
      have hb : a ≠ p := fun z => q (nd_at s.nd hp (by rw [h1, z]))
      exact (s.ms i a zs h1 h2).mono (Ex.refl _) (Pre.refl _) (upd_ne hb)
theorem SR.write (s : SR K hd ad S H) {p : Addr} {n : Nat} {vs : List V} {xs ys : List D} (hp : ad[n]? = some p) (hS : S[n]? = some (some (.ls xs))) (r : RpAll K (era hd ad S H) ad vs ys) :
    Good K hd ad S H ad (S.set n (some (.ls ys))) (upd H p (.lst vs)) := s.writeM hp hS ⟨vs, upd_same, r⟩
/-- a list that may change stays as it is from now on -/
theorem SR.freeze (s : SR K hd ad S H) {p : Addr} {n : Nat} {xs : List D} (hp : ad[n]? = some p) (hS : S[n]? = some (some (.ls xs))) :
    Good K hd ad S H ad (S.set n none) H ∧ Rp K (era hd ad (S.set n none) H) ad (.ref p) (.lst xs) := by
  have hn : n < S.length := (List.getElem?_eq_some_iff.mp hS).1
  have nh : p ∉ hd := fun q => s.dj p q (List.mem_of_getElem? hp)
  have l : ∀ b, Lv ad (S.set n none) b → Lv ad S b := fun b ⟨i, x, h1, h2⟩ => by
    by_cases e : n = i
    · subst e
      rw [List.getElem?_set_self hn] at h2
      cases h2
    · rw [List.getElem?_set_ne e] at h2
      exact ⟨i, x, h1, h2⟩
  have np : ¬ Lv ad (S.set n none) p := fun ⟨i, x, h1, h2⟩ => by
    have e := nd_at s.nd hp h1
    subst e
    rw [List.getElem?_set_self hn] at h2
    cases h2
  have e : Ex (era hd ad S H) (era hd ad (S.set n none) H) := fun a o h => by
    rw [era_not (era_nh h) (fun q => era_nl h (l a q))]
    exact era_of h
  obtain ⟨vs, h3, h4⟩ := s.ls n p xs hp hS
  refine ⟨⟨Pre.refl _, e, ⟨by simp [s.len], s.nd, s.th, s.ht, s.dj, fun i a zs h1 h2 => ?_⟩, fun _ _ => rfl⟩, .lst (by rw [era_not nh np]; exact h3) (RpAll.mono e (Pre.refl _) _ _ h4)⟩
  by_cases q : n = i
  · subst q
    rw [List.getElem?_set_self hn] at h2
    cases h2
  · rw [List.getElem?_set_ne q] at h2
    exact (s.ms i a zs h1 h2).mono e (Pre.refl _) rfl
/-- a new list that is hidden for a while -/
theorem SR.hide (s : SR K hd ad S H) {p : Addr} {o : HO} (h : H p = none) : SR K (p :: hd) ad S (upd H p o) ∧ era (p :: hd) ad S (upd H p o) = era hd ad S H := by
  have e : era (p :: hd) ad S (upd H p o) = era hd ad S H := by
    funext b
    by_cases hb : b = p
    · subst hb
      rw [era_none h, era_hd (List.mem_cons_self)]
    · unfold era
      by_cases hl : b ∈ hd ∨ Lv ad S b
      · rw [if_pos hl, if_pos (hl.imp (fun q => List.mem_cons_of_mem _ q) id)]
      · rw [if_neg hl, if_neg (fun q => hl (q.imp (fun q => (List.mem_cons.mp q).resolve_left hb) id)), upd_ne hb]
  have k : ∀ a, (∃ o, H a = some o) → ∃ o', (upd H p o) a = some o' := fun a ⟨u, hu⟩ => ⟨u, by rw [upd_ne (ne_of_none hu h)]; exact hu⟩
  refine ⟨⟨s.len, s.nd, fun a ha => k a (s.th a ha), fun a ha => ?_, fun a ha => ?_, fun n a xs h1 h2 => ?_⟩, e⟩
  · rcases List.mem_cons.mp ha with rfl | ha
    · exact ⟨_, upd_same⟩
    · exact k a (s.ht a ha)
  · rcases List.mem_cons.mp ha with rfl | ha
    · exact s.notin h
    · exact s.dj a ha
  · rw [e]
    have q := s.ms n a xs h1 h2
    obtain ⟨u, h3⟩ := q.there
    exact q.mono (Ex.refl _) (Pre.refl _) (upd_ne (ne_of_none h3 h))
/-- a hidden thing changes -/
theorem SR.rehide {p : Addr} {o : HO} (s : SR K (p :: hd) ad S H) : SR K (p :: hd) ad S (upd H p o) ∧ era (p :: hd) ad S (upd H p o) = era (p :: hd) ad S H := by
  have e : era (p :: hd) ad S (upd H p o) = era (p :: hd) ad S H := by
    funext b
    by_cases hb : b = p
    · subst hb
      rw [era_hd (List.mem_cons_self), era_hd (List.mem_cons_self)]
    · unfold era
      rw [upd_ne hb]
  have k : ∀ a, (∃ o, H a = some o) → ∃ o', (upd H p o) a = some o' := fun a ⟨u, hu⟩ => by
    by_cases hb : a = p
    · subst hb
      exact ⟨_, upd_same⟩
    · exact ⟨u, by rw [upd_ne hb]; exact hu⟩
  refine ⟨⟨s.len, s.nd, fun a ha => k a (s.th a ha), fun a ha => k a (s.ht a ha), s.dj, fun n a xs h1 h2 => ?_⟩, e⟩
  rw [e]
  have hb : a ≠ p := fun q => s.dj p List.mem_cons_self (q ▸ List.mem_of_getElem? h1)
  exact (s.ms n a xs h1 h2).mono (Ex.refl _) (Pre.refl _) (upd_ne hb)
/-- a hidden list stays as it is from now on -/
theorem SR.show {p : Addr} (s : SR K (p :: hd) ad S H) (np : p ∉ hd) : SR K hd ad S H ∧ Ex (era (p :: hd) ad S H) (era hd ad S H) ∧ ∀ o, H p = some o → era hd ad S H p = some o := by
  have e : Ex (era (p :: hd) ad S H) (era hd ad S H) := fun a o h => by
    rw [era_not (fun q => era_nh h (List.mem_cons_of_mem _ q)) (era_nl h)]
    exact era_of h
  refine ⟨⟨s.len, s.nd, s.th, fun a ha => s.ht a (List.mem_cons_of_mem _ ha), fun a ha => s.dj a (List.mem_cons_of_mem _ ha), fun n a xs h1 h2 => ?_⟩, e, fun o h => ?_⟩
  · exact (s.ms n a xs h1 h2).mono e (Pre.refl _) rfl
  · rw [era_not np fun ⟨n, m, h1, _⟩ => s.dj p List.mem_cons_self (List.mem_of_getElem? h1)]
    exact h
end

/-! ### what a call leaves behind: lists that nobody has any more are forgotten -/
mutual
def D.low (n : Nat) : D → Bool
  | .lst xs => D.lowAll n xs
  | .tup xs => D.lowAll n xs
  | .loc k => decide (k < n)
  | .dic ks vs => D.lowAll n ks && D.lowAll n vs
  | _ => true
def D.lowAll (n : Nat) : List D → Bool
  | [] => true
  | d :: ds => D.low n d && D.lowAll n ds
end
def M.low (n : Nat) : Option M → Bool
  | some (.ls xs) => D.lowAll n xs
  | some (.dc kvs) => kvs.all fun p => D.low n p.1 && D.low n p.2
  | none => true
section
variable {K : PySem.W.Frag} {H H' : Hp} {ad ad' : List Addr}
mutual
theorem Rp.cut {n : Nat} (e : Ex H H') : ∀ (d : D) (v : V), D.low n d = true → Rp K H ad v d → Rp K H' (ad.take n) v d
  | .non, _, _, .non => .non
  | .bl b, _, _, .bl _ => .bl b
  | .int b, _, _, .int _ => .int b
  | .str b, _, _, .str _ => .str b
  | .lst ds, _, q, .lst h r => .lst (e _ _ h) (RpAll.cut e ds _ (by simpa [D.low] using q) r)
  | .tup ds, _, q, .tup h r => .tup (ex_t e h) (RpAll.cut e ds _ (by simpa [D.low] using q) r)
  | .scr ns, _, _, .scr h => .scr (ex_l e h)
  | .loc k, _, q, .loc h => .loc (by
      have hk : k < n := by simpa [D.low] using q
      rw [List.getElem?_take_of_lt hk]
      exact h)
  | .dic ks ds, _, q, .dcN h q0 q2 r1 r2 => by
    have q' : D.lowAll n ks = true ∧ D.lowAll n ds = true := by simpa [D.low] using q
    exact .dcN (e _ _ h) q0 q2 (RpAll.cut e ks _ q'.1 r1) (RpAll.cut e ds _ q'.2 r2)
  | .dic ks ds, _, q, .dcK h q2 r2 => by
    have q' : D.lowAll n ks = true ∧ D.lowAll n ds = true := by simpa [D.low] using q
    exact .dcK (e _ _ h) q2 (RpAll.cut e ds _ q'.2 r2)
theorem RpAll.cut {n : Nat} (e : Ex H H') : ∀ (ds : List D) (vs : List V), D.lowAll n ds = true → RpAll K H ad vs ds → RpAll K H' (ad.take n) vs ds
  | [], _, _, .nil => .nil
  | d :: ds, _, q, .cons h r => by
    have q' : D.low n d = true ∧ D.lowAll n ds = true := by simpa [D.lowAll] using q
    exact .cons (Rp.cut e d _ q'.1 h) (RpAll.cut e ds _ q'.2 r)
end
end
section
variable {K : PySem.W.Frag} {H H' H1 H2 : Hp} {hd ad ad' ad1 ad2 : List Addr} {S S' S1 S2 : Store}
theorem MR.cut {E E' : Hp} {n : Nat} (e : Ex E E') {a : Addr} : ∀ {m : M}, M.low n (some m) = true → MR K E ad H a m → MR K E' (ad.take n) H a m
  | .ls xs, q, ⟨vs, h1, h2⟩ => ⟨vs, h1, RpAll.cut e _ _ q h2⟩
  | .dc kvs, q, .inl ⟨xs, h1, h0, h2⟩ => by
    refine .inl ⟨xs, h1, h0, ?_⟩
    have q' : (kvs.all fun p => D.low n p.1 && D.low n p.2) = true := q
    clear q h1 h0
    induction h2 with
    | nil => exact .nil
    | @cons p r ps rs hq t ih =>
      simp only [List.all_cons, Bool.and_eq_true] at q'
      exact .cons ⟨Rp.cut e _ _ q'.1.1 hq.1, hq.2.1, Rp.cut e _ _ q'.1.2 hq.2.2⟩ (ih (by simpa using q'.2))
  | .dc kvs, q, .inr ⟨xs, h1, h2⟩ => by
    refine .inr ⟨xs, h1, ?_⟩
    have q' : (kvs.all fun p => D.low n p.1 && D.low n p.2) = true := q
    clear q h1
    induction h2 with
    | nil => exact .nil
    | @cons p r ps rs hq t ih =>
      simp only [List.all_cons, Bool.and_eq_true] at q'
      exact .cons ⟨hq.1, Rp.cut e _ _ q'.1.2 hq.2⟩ (ih (by simpa using q'.2))
theorem Good.cut (g : Good K hd ad S H ad' S' H') (hb : ∀ m ∈ S'.take S.length, M.low S.length m = true) (s : SR K hd ad S H) : Good K hd ad S H ad (S'.take S.length) H' ∧ Ex (era hd ad' S' H') (era hd ad (S'.take S.length) H') ∧ ad = ad'.take S.length := by
  have ea : ad = ad'.take S.length := by
    apply List.ext_getElem?
    intro i
    by_cases hi : i < S.length
    · rw [List.getElem?_take_of_lt hi]
      have h1 : i < ad.length := by rw [s.len]; exact hi
      rw [List.getElem?_eq_getElem h1]
      exact (g.pre i _ (List.getElem?_eq_getElem h1)).symm
    · rw [List.getElem?_eq_none (by rw [s.len]; omega), List.getElem?_eq_none (by simp; omega)]
  have l : ∀ b, Lv ad (S'.take S.length) b → Lv ad' S' b := fun b ⟨i, x, h1, h2⟩ => by
    have hi : i < ad.length := (List.getElem?_eq_some_iff.mp h1).1
    rw [List.getElem?_take_of_lt (by rw [← s.len]; exact hi)] at h2
    exact ⟨i, x, g.pre _ _ h1, h2⟩
  have e : Ex (era hd ad' S' H') (era hd ad (S'.take S.length) H') := fun a o h => by
    rw [era_not (era_nh h) (fun q => era_nl h (l a q))]
    exact era_of h
  have hle : S.length ≤ S'.length := by
    have h1 := congrArg List.length ea
    rw [List.length_take] at h1
    have h2 := g.sr.len
    have h3 := s.len
    omega
  refine ⟨⟨Pre.refl _, g.ex.trans e, ⟨by rw [List.length_take, s.len]; omega, s.nd, fun a ha => ?_, g.sr.ht, s.dj, fun i a xs h1 h2 => ?_⟩, g.hid⟩, e, ea⟩
  · obtain ⟨i, hi⟩ := List.mem_iff_getElem?.mp ha
    exact g.sr.th a (List.mem_of_getElem? (g.pre i a hi))
  · have hi : i < ad.length := (List.getElem?_eq_some_iff.mp h1).1
    have hb' : M.low S.length (some xs) = true := hb _ (List.mem_of_getElem? h2)
    rw [List.getElem?_take_of_lt (by rw [← s.len]; exact hi)] at h2
    have q := MR.cut (n := S.length) e hb' (g.sr.ms i a xs (g.pre _ _ h1) h2)
    rw [← ea] at q
    exact q
end
end Wt
set_option maxRecDepth 100000
set_option maxHeartbeats 1000000
/-! Things that may change, from now on as they are. -/
namespace Wt
open PySem L2
/-- what a thing is that is as it is from now on -/
def frD : M → D
  | .ls xs => .lst xs
  | .dc kvs => .dic (kvs.map (·.1)) (kvs.map (·.2))
/- the places put in -/
mutual
def resW (f : Nat → D) : D → D
  | .lst xs => .lst (resWs f xs)
  | .tup xs => .tup (resWs f xs)
  | .loc i => f i
  | .dic ks vs => .dic ks (resWs f vs)
  | .non => .non
  | .bl b => .bl b
  | .int i => .int i
  | .str x => .str x
  | .scr ns => .scr ns
def resWs (f : Nat → D) : List D → List D
  | [] => []
  | d :: ds => resW f d :: resWs f ds
end
def resN (S : Store) (n : Nat) : Nat → Nat → D
  | 0, i => .loc i
  | k + 1, i => if i < n then .loc i else match S[i]? with
    | some (some m) => resW (resN S n k) (frD m)
    | _ => .loc i
def killAb (n : Nat) (S : Store) : Store := S.take n ++ List.replicate (S.length - n) none
variable [Wd]
def FR (K : PySem.W.Frag) (E : Hp) (ad : List Addr) (a : Addr) : M → Prop
  | .ls xs => ∃ vs, E a = some (.lst vs) ∧ RpAll K E ad vs xs
  | .dc kvs => (∃ o xs, E a = some (.frz o (DicO a xs)) ∧ xs ≠ [] ∧ Paired (ERel K E ad) xs kvs) ∨ ∃ o xs, E a = some (.frz o (.dK xs)) ∧ Paired (KRel K E ad) xs kvs
section
variable {K : PySem.W.Frag} {E E' : Hp} {ad : List Addr} {a : Addr}
theorem erel_keys {xs : List DE} {kvs : List (D × D)} (h : Paired (ERel K E ad) xs kvs) : (kvs.map (·.1)).map (nkD 8) = xs.map (fun p => some p.1) ∧ RpAll K E ad (xs.map fun p => V.ref p.2.1) (kvs.map (·.1)) ∧ RpAll K E ad (xs.map fun p => p.2.2) (kvs.map (·.2)) := by
  induction h with
  | nil => exact ⟨rfl, .nil, .nil⟩
  | @cons p r ps rs hq t ih =>
    refine ⟨?_, .cons hq.1 ih.2.1, .cons hq.2.2 ih.2.2⟩
    simp only [List.map_cons] at ih ⊢
    rw [ih.1, hq.2.1]
theorem krel_keys {xs : List (Key × V)} {kvs : List (D × D)} (h : Paired (KRel K E ad) xs kvs) : kvs.map (·.1) = xs.map (fun p => keyD p.1) ∧ RpAll K E ad (xs.map fun p => p.2) (kvs.map (·.2)) := by
  induction h with
  | nil => exact ⟨rfl, .nil⟩
  | @cons p r ps rs hq t ih =>
    refine ⟨?_, .cons hq.2 ih.2⟩
    simp only [List.map_cons]
    rw [ih.1, hq.1]
theorem FR.rp : ∀ {m : M}, FR K E ad a m → Rp K E ad (.ref a) (frD m)
  | .ls _, ⟨_, h, r⟩ => .lst h r
  | .dc _, .inl ⟨_, _, h, h0, r⟩ => let ⟨q, r1, r2⟩ := erel_keys r; .dcN h h0 q r1 r2
  | .dc _, .inr ⟨_, _, h, r⟩ => let ⟨q, r2⟩ := krel_keys r; .dcK h q r2
mutual
theorem Rp.res {f : Nat → D} (hf : ∀ i a, ad[i]? = some a → Rp K E ad (.ref a) (f i)) : ∀ (d : D) (v : V), Rp K E ad v d → Rp K E ad v (resW f d)
  | .non, _, h => by simp only [resW]; exact h
  | .bl b, _, h => by simp only [resW]; exact h
  | .int b, _, h => by simp only [resW]; exact h
  | .str b, _, h => by simp only [resW]; exact h
  | .scr b, _, h => by simp only [resW]; exact h
  | .loc n, _, .loc h => by simp only [resW]; exact hf _ _ h
  | .lst ds, _, .lst h r => by simp only [resW]; exact .lst h (RpAll.res hf ds _ r)
  | .tup ds, _, .tup h r => by simp only [resW]; exact .tup h (RpAll.res hf ds _ r)
  | .dic ks ds, _, .dcN h q0 q r1 r2 => by simp only [resW]; exact .dcN h q0 q r1 (RpAll.res hf ds _ r2)
  | .dic ks ds, _, .dcK h q r2 => by simp only [resW]; exact .dcK h q (RpAll.res hf ds _ r2)
theorem RpAll.res {f : Nat → D} (hf : ∀ i a, ad[i]? = some a → Rp K E ad (.ref a) (f i)) : ∀ (ds : List D) (vs : List V), RpAll K E ad vs ds → RpAll K E ad vs (resWs f ds)
  | [], _, .nil => by simp only [resWs]; exact .nil
  | d :: ds, _, .cons h r => by simp only [resWs]; exact .cons (Rp.res hf d _ h) (RpAll.res hf ds _ r)
end
theorem resN_ok {S : Store} {n : Nat} (h : ∀ i a m, n ≤ i → ad[i]? = some a → S[i]? = some (some m) → FR K E ad a m) : ∀ (k i : Nat) (a : Addr), ad[i]? = some a → Rp K E ad (.ref a) (resN S n k i)
  | 0, i, a, e => .loc e
  | k + 1, i, a, e => by
    unfold resN
    split
    · exact .loc e
    · rename_i hn
      split
      · rename_i m hm
        exact Rp.res (resN_ok h k) _ _ (h i a m (by omega) e hm).rp
      · exact .loc e
end
/-- entries of the store end; dicts among them are locked -/
structure Kill (ad : List Addr) (S S' : Store) (H H' : Hp) : Prop where
  len : S'.length = S.length
  pt : ∀ i : Nat, S'[i]? = S[i]? ∨ S'[i]? = some none
  keep : ∀ a, (∀ (i : Nat) (kvs : List (D × D)), ad[i]? = some a → S[i]? = some (some (.dc kvs)) → S'[i]? ≠ some none) → H' a = H a
  lock : ∀ (i : Nat) (a : Addr) (kvs : List (D × D)), ad[i]? = some a → S[i]? = some (some (.dc kvs)) → S'[i]? = some none → ∃ o u, H a = some u ∧ H' a = some (.frz o u)
section
variable {K : PySem.W.Frag} {H H' H1 H2 : Hp} {hd ad : List Addr} {S S' S1 S2 : Store}
theorem Kill.refl : Kill ad S S H H := ⟨rfl, fun _ => .inl rfl, fun _ _ => rfl, fun i a kvs h1 h2 h3 => by rw [h2] at h3; cases h3⟩
theorem Kill.lv (k : Kill ad S S' H H') {b : Addr} : Lv ad S' b → Lv ad S b := fun ⟨n, m, h1, h2⟩ => ⟨n, m, h1, by
  rcases k.pt n with e | e
  · rw [← e]; exact h2
  · rw [e] at h2; cases h2⟩
theorem Kill.good (s : SR K hd ad S H) (k : Kill ad S S' H H') : Good K hd ad S H ad S' H' := by
  have ex : Ex (era hd ad S H) (era hd ad S' H') := fun a o h => by
    rw [era_not (era_nh h) (fun q => era_nl h (k.lv q)), k.keep a fun i kvs h1 h2 _ => era_nl h ⟨i, _, h1, h2⟩]
    exact era_of h
  have hid : ∀ a ∈ hd, H' a = H a := fun a ha => k.keep a fun i kvs h1 _ _ => s.dj a ha (List.mem_of_getElem? h1)
  have th : ∀ a, (∃ o, H a = some o) → ∃ o, H' a = some o := fun a ⟨o, h⟩ => by
    by_cases q : ∀ (i : Nat) (kvs : List (D × D)), ad[i]? = some a → S[i]? = some (some (.dc kvs)) → S'[i]? ≠ some none
    · exact ⟨o, (k.keep a q).trans h⟩
    · simp only [Classical.not_forall, Classical.not_not] at q
      obtain ⟨i, kvs, h1, h2, h3⟩ := q
      obtain ⟨o', u, _, h4⟩ := k.lock i a kvs h1 h2 h3
      exact ⟨_, h4⟩
  refine ⟨Pre.refl _, ex, ⟨s.len.trans k.len.symm, s.nd, fun a ha => th a (s.th a ha), fun a ha => th a (s.ht a ha), s.dj, fun i a m h1 h2 => ?_⟩, hid⟩
  have h3 : S[i]? = some (some m) := by
    rcases k.pt i with e | e
    · rw [← e]; exact h2
    · rw [e] at h2; cases h2
  refine (s.ms i a m h1 h3).mono ex (Pre.refl _) (k.keep a fun j kvs h4 _ h5 => ?_)
  rw [nd_at s.nd h4 h1, h2] at h5
  cases h5
theorem Kill.fr (s : SR K hd ad S H) (k : Kill ad S S' H H') {i : Nat} {a : Addr} {m : M} (h1 : ad[i]? = some a) (h2 : S[i]? = some (some m)) (h3 : S'[i]? = some none) : FR K (era hd ad S' H') ad a m := by
  have g := k.good s
  have nh : a ∉ hd := fun q => s.dj a q (List.mem_of_getElem? h1)
  have nl : ¬ Lv ad S' a := fun ⟨j, x, h4, h5⟩ => by
    rw [nd_at s.nd h4 h1, h3] at h5
    cases h5
  have e : era hd ad S' H' a = H' a := era_not nh nl
  have q := s.ms i a m h1 h2
  cases m with
  | ls xs =>
    obtain ⟨vs, h4, h5⟩ := q
    refine ⟨vs, ?_, RpAll.mono g.ex (Pre.refl _) _ _ h5⟩
    rw [e, k.keep a fun j kvs h6 h7 _ => ?_]
    · exact h4
    · rw [nd_at s.nd h6 h1, h2] at h7
      cases h7
  | dc kvs =>
    obtain ⟨o, u, h4, h5⟩ := k.lock i a kvs h1 h2 h3
    rcases q with ⟨xs, h6, h0, h7⟩ | ⟨xs, h6, h7⟩
    · rw [h6] at h4
      cases h4
      exact .inl ⟨o, xs, e.trans h5, h0, Paired.mapP h7 fun _ _ q => ⟨Rp.mono g.ex (Pre.refl _) _ _ q.1, q.2.1, Rp.mono g.ex (Pre.refl _) _ _ q.2.2⟩⟩
    · rw [h6] at h4
      cases h4
      exact .inr ⟨o, xs, e.trans h5, Paired.mapP h7 fun _ _ q => ⟨q.1, Rp.mono g.ex (Pre.refl _) _ _ q.2⟩⟩
/-- one more entry ends -/
theorem Kill.step {j : Nat} {a : Addr} (k : Kill ad S S1 H H1) (nd : ad.Nodup) (ha : ad[j]? = some a) (hj : j < S.length) (n1 : S1[j]? = S[j]?)
    (h : (∀ kvs, S[j]? ≠ some (some (.dc kvs))) ∧ H2 = H1 ∨ (∃ kvs, S[j]? = some (some (.dc kvs))) ∧ ∃ o u, H a = some u ∧ H2 = upd H1 a (.frz o u)) : Kill ad S (S1.set j none) H H2 := by
  have hj1 : j < S1.length := by rw [k.len]; exact hj
  refine ⟨by simp [k.len], fun i => ?_, fun b hb => ?_, fun i b kvs h1 h2 h3 => ?_⟩
  · by_cases e : j = i
    · subst e
      exact .inr (by rw [List.getElem?_set_self hj1])
    · rw [List.getElem?_set_ne e]
      exact k.pt i
  · have kb : H1 b = H b := k.keep b fun i kvs h1 h2 h3 => hb i kvs h1 h2 (by
      by_cases e : j = i
      · subst e; rw [List.getElem?_set_self hj1]
      · rw [List.getElem?_set_ne e]; exact h3)
    rcases h with ⟨_, rfl⟩ | ⟨⟨kvs, q⟩, o, u, h4, rfl⟩
    · exact kb
    · by_cases e : b = a
      · subst e
        exact absurd (by rw [List.getElem?_set_self hj1]) (hb j kvs ha q)
      · rw [upd_ne e]
        exact kb
  · by_cases e : j = i
    · subst e
      rw [ha] at h1
      cases h1
      rcases h with ⟨h4, _⟩ | ⟨_, o, u, h4, rfl⟩
      · exact absurd h2 (h4 kvs)
      · exact ⟨o, u, h4, upd_same⟩
    · rw [List.getElem?_set_ne e] at h3
      obtain ⟨o, u, h4, h5⟩ := k.lock i b kvs h1 h2 h3
      have ne : b ≠ a := fun z => e (nd_at nd ha (by rw [← z]; exact h1))
      rcases h with ⟨_, rfl⟩ | ⟨_, o', u', _, rfl⟩
      · exact ⟨o, u, h4, h5⟩
      · exact ⟨o, u, h4, by rw [upd_ne ne]; exact h5⟩
end
/-! ### at the machine: things are locked behind an expression -/
def Upd (X : Cx) (H : Hp) (P : Hp → Prop) : Prop := ∀ pins σ s, Inv X pins σ H s → ∃ H2, Inv X pins σ H2 s ∧ P H2
section
variable {X : Cx}
theorem Upd.pure {H : Hp} {P : Hp → Prop} (h : P H) : Upd X H P := fun _ _ _ I => ⟨H, I, h⟩
theorem pe_upd {e : Expr} {t : TE} (h : PE X e t) : PE X e (fun σ H Q => t σ H fun v H1 => Upd X H1 (Q v)) := ⟨fun pins s σ H Q I q =>
  thn (h.run pins s σ H _ I q) fun v s1 ⟨x, H1, I1, r1, u⟩ => let ⟨H2, I2, q2⟩ := u pins σ s1 I1; ⟨x, H2, I2, r1, q2⟩⟩
theorem pss_upd {b : List Stmt} {t : TS} (h : PSs X b t) : PSs X b (fun D σ H => t ⟨D.nx, fun v H1 => Upd X H1 (D.rt v), D.bk, D.ct⟩ σ H) := ⟨fun pins s σ H D I q =>
  thn (h.run pins s σ H _ I q) fun f s1 z => by
    cases f with
    | next => exact z
    | brk => exact z
    | cont => exact z
    | ret v =>
      obtain ⟨x, σ', H1, I1, r1, u⟩ := z
      obtain ⟨H2, I2, q2⟩ := u pins σ' s1 I1
      exact ⟨x, σ', H2, I2, r1, q2⟩⟩
theorem dc_mut {K : PySem.W.Frag} {E : Hp} {ad : List Addr} {H : Hp} {a : Addr} {kvs : List (D × D)} (h : MR K E ad H a (.dc kvs)) : ∃ u, H a = some u ∧ Mut (some u) := by
  rcases h with ⟨xs, h, _⟩ | ⟨xs, h, _⟩
  · exact ⟨_, h, True.intro⟩
  · exact ⟨_, h, True.intro⟩
theorem upd_one {hd ad : List Addr} {S S1 : Store} {H H1 : Hp} {j : Nat} (s : SR X.K hd ad S H) (hj : j < S.length) (n1 : S1[j]? = S[j]?) (k : Kill ad S S1 H H1) : Upd X H1 fun H2 => Kill ad S (S1.set j none) H H2 := by
  intro pins σ st I
  obtain ⟨a, ha⟩ : ∃ a, ad[j]? = some a := ⟨_, List.getElem?_eq_getElem (by rw [s.len]; exact hj)⟩
  by_cases q : ∃ kvs, S[j]? = some (some (.dc kvs))
  · obtain ⟨kvs, q⟩ := q
    obtain ⟨u, h1, h2⟩ := dc_mut (s.ms j a _ ha q)
    have h3 : H1 a = some u := by
      rw [k.keep a fun i kvs' h4 h5 h6 => ?_]
      · exact h1
      · rw [nd_at s.nd h4 ha, n1, q] at h6
        cases h6
    obtain ⟨od, I2⟩ := I.lock h3 h2
    exact ⟨_, I2, k.step s.nd ha hj n1 (.inr ⟨⟨kvs, q⟩, od, u, h1, rfl⟩)⟩
  · exact ⟨H1, I, k.step s.nd ha hj n1 (.inl ⟨fun kvs z => q ⟨kvs, z⟩, rfl⟩)⟩
theorem killAb_at {n : Nat} {S : Store} {i : Nat} : (killAb n S)[i]? = if i < n then S[i]? else if i < S.length then some none else none := by
  unfold killAb
  by_cases h : i < n
  · rw [if_pos h]
    by_cases h2 : i < S.length
    · rw [List.getElem?_append_left (by simp; omega), List.getElem?_take_of_lt h]
    · rw [List.getElem?_eq_none (by simp; omega), List.getElem?_eq_none (by omega)]
  · rw [if_neg h]
    by_cases h2 : i < S.length
    · rw [if_pos h2, List.getElem?_append_right (by simp; omega), List.getElem?_replicate, if_pos (by simp; omega)]
    · rw [if_neg h2, List.getElem?_eq_none (by simp; omega)]
theorem upd_all {hd ad : List Addr} {S : Store} {H : Hp} (s : SR X.K hd ad S H) (n : Nat) : ∀ d : Nat, d ≤ S.length - n → n ≤ S.length → Upd X H fun H2 => Kill ad S (killAb (S.length - d) S) H H2
  | 0, _, _ => Upd.pure (by
    have e : killAb (S.length - 0) S = S := by unfold killAb; simp
    rw [e]
    exact Kill.refl)
  | d + 1, hd1, hn => by
    intro pins σ st I
    obtain ⟨H1, I1, k1⟩ := upd_all s n d (by omega) hn pins σ st I
    have hj : S.length - (d + 1) < S.length := by omega
    obtain ⟨H2, I2, k2⟩ := upd_one s hj (by rw [killAb_at, if_pos (by omega)]) k1 pins σ st I1
    refine ⟨H2, I2, ?_⟩
    have e : (killAb (S.length - d) S).set (S.length - (d + 1)) none = killAb (S.length - (d + 1)) S := by
      apply List.ext_getElem?
      intro i
      have hl : (killAb (S.length - d) S).length = S.length := by unfold killAb; simp
      by_cases h : S.length - (d + 1) = i
      · subst h
        rw [List.getElem?_set_self (by rw [hl]; exact hj), killAb_at, if_neg (Nat.lt_irrefl _), if_pos hj]
      · rw [List.getElem?_set_ne h, killAb_at, killAb_at]
        by_cases h2 : i < S.length - (d + 1)
        · rw [if_pos h2, if_pos (by omega)]
        · rw [if_neg h2, if_neg (by omega)]
    rw [← e]
    exact k2
theorem upd_above {hd ad : List Addr} {S : Store} {H : Hp} (s : SR X.K hd ad S H) (n : Nat) : Upd X H fun H2 => Kill ad S (killAb n S) H H2 := by
  by_cases h : n ≤ S.length
  · have q := upd_all s n (S.length - n) (Nat.le_refl _) h
    rw [show S.length - (S.length - n) = n by omega] at q
    exact q
  · have e : killAb n S = S := by unfold killAb; rw [List.take_of_length_le (by omega), show S.length - n = 0 by omega]; simp
    rw [e]
    exact Upd.pure Kill.refl
end
end Wt
set_option maxRecDepth 100000
set_option maxHeartbeats 1000000
/-! Dicts as data: keys found, values stored. -/
namespace Wt
open PySem L2
/-- what stands at a key -/
def dGetD (kvs : List (D × D)) (k : D) : Option D := match nkD 8 k with
  | some q => (kvs.find? fun p => decide (nkD 8 p.1 = some q)).map (·.2)
  | none => none
def dPutD (kvs : List (D × D)) (k v : D) : List (D × D) := if (dGetD kvs k).isSome then kvs.map (fun p => if nkD 8 p.1 = nkD 8 k then (p.1, v) else p) else kvs ++ [(k, v)]
def kindT : D → Bool
  | .tup _ => true
  | _ => false
/-- may that be asked for in there? Keys are all tuples, or none is -/
def keyOk (kvs : List (D × D)) (k : D) : Bool := (nkD 8 k).isSome && (match k with
  | .tup _ => true
  | .int _ => true
  | .str _ => true
  | _ => false) && (match kvs with
  | [] => true
  | p :: _ => kindT p.1 == kindT k)
def lookD (kvs : List (D × D)) (k : D) : Option (Option D) := if keyOk kvs k then some (dGetD kvs k) else none
/-- a dict, whether it may change or not -/
def viewD (S : Store) : D → Option (List (D × D))
  | .loc n => match S[n]? with
    | some (some (.dc kvs)) => some kvs
    | _ => none
  | .dic ks vs => some (ks.zip vs)
  | _ => none
theorem nk_all {n : Nat} {K : PySem.W.Frag} {H : Hp} {r : V → D → Prop} (f : ∀ {v : V} {d : D} {k : NestedKey}, r v d → nkD n d = some k → KIs K H v k ∧ k.depth ≤ n) {R : List V → List D → Prop}
    (nl : ∀ {vs}, R vs [] → vs = []) (cn : ∀ {vs d ds}, R vs (d :: ds) → ∃ v ws, vs = v :: ws ∧ r v d ∧ R ws ds) :
    ∀ {ds : List D} {vs : List V} {ks : List NestedKey}, R vs ds → ds.mapM (nkD n) = some ks → KAll K H vs ks ∧ NestedKey.depthAll ks ≤ n
  | [], _, _, q, h => by
    cases h
    rw [nl q]
    exact ⟨.nil, Nat.zero_le _⟩
  | d :: ds, _, _, q, h => by
    obtain ⟨v, ws, rfl, q1, q2⟩ := cn q
    rw [List.mapM_cons] at h
    cases h1 : nkD n d with
    | none =>
      rw [h1] at h
      cases h
    | some k =>
      cases h2 : ds.mapM (nkD n) with
      | none =>
        rw [h1, h2] at h
        cases h
      | some ks =>
        rw [h1, h2] at h
        cases h
        obtain ⟨a1, a2⟩ := f q1 h1
        obtain ⟨b1, b2⟩ := nk_all f nl cn q2 h2
        refine ⟨.cons a1 b1, ?_⟩
        show max (NestedKey.depth k) (NestedKey.depthAll ks) ≤ n
        omega
variable [Wd]
theorem nk_is {K : PySem.W.Frag} {E H : Hp} {ad : List Addr} (e : Ex E H) : ∀ (n : Nat) {v : V} {d : D} {k : NestedKey}, Rp K E ad v d → nkD n d = some k → KIs K H v k ∧ k.depth ≤ n
  | 0, _, _, _, _, h => by cases h
  | n + 1, _, _, _, .non, h => by
    cases h
    exact ⟨.non, Nat.zero_le _⟩
  | n + 1, _, _, _, .bl b, h => by
    cases h
    exact ⟨.bl b, Nat.zero_le _⟩
  | n + 1, _, _, _, .int i, h => by
    cases h
    exact ⟨.int i, Nat.zero_le _⟩
  | n + 1, _, _, _, .str i, h => by
    cases h
    exact ⟨.str i, Nat.zero_le _⟩
  | n + 1, _, _, _, .tup (ds := ds) hs ra, h => by
    simp only [nkD] at h
    cases h2 : ds.mapM (nkD n) with
    | none =>
      rw [h2] at h
      cases h
    | some ks =>
      rw [h2] at h
      cases h
      obtain ⟨b1, b2⟩ := nk_all (R := RpAll K E ad) (fun r h => nk_is e n r h) (fun q => by cases q; rfl) (fun q => by cases q with | cons a b => exact ⟨_, _, rfl, a, b⟩) ra h2
      refine ⟨.tup (ex_t e hs) b1, ?_⟩
      show NestedKey.depthAll ks + 1 ≤ n + 1
      omega
  | n + 1, _, _, _, .lst _ _, h => by cases h
  | n + 1, _, _, _, .scr _, h => by cases h
  | n + 1, _, _, _, .loc _, h => by cases h
  | n + 1, _, _, _, .dcN _ _ _ _ _, h => by cases h
  | n + 1, _, _, _, .dcK _ _ _, h => by cases h
section
variable {K : PySem.W.Frag} {E H : Hp} {ad : List Addr} {xs : List DE} {kvs : List (D × D)} {q : NestedKey}
theorem dkeys_of (e : Ex E H) (h : Paired (ERel K E ad) xs kvs) : DKeys K H xs := by
  induction h with
  | nil => exact fun _ z => nomatch z
  | @cons p r ps rs hq t ih =>
    intro x hx
    rcases List.mem_cons.mp hx with rfl | hx
    · exact nk_is e 8 hq.1 hq.2.1
    · exact ih x hx
theorem erel_T {p : DE} {r : D × D} (h : ERel K E ad p r) : kindT r.1 = true := by
  obtain ⟨h1, h2, _⟩ := h
  revert h1 h2
  generalize r.1 = d
  intro h1 h2
  cases h1 with
  | tup _ _ => rfl
  | _ => cases h2
/-- both or none -/
def ORel (K : PySem.W.Frag) (E : Hp) (ad : List Addr) : Option V → Option D → Prop
  | some v, some d => Rp K E ad v d
  | none, none => True
  | _, _ => False
theorem ORel.isSome : ∀ {o : Option V} {r : Option D}, ORel K E ad o r → o.isSome = r.isSome
  | some _, some _, _ => rfl
  | none, none, _ => rfl
/-- found there, found here -/
theorem dAt_rel (h : Paired (ERel K E ad) xs kvs) : ORel K E ad (dAt xs q) ((kvs.find? fun p => decide (nkD 8 p.1 = some q)).map (·.2)) := by
  induction h with
  | nil => exact True.intro
  | @cons p r ps rs hq t ih =>
    unfold dAt at ih ⊢
    by_cases hk : p.1 = q
    · have hk2 : nkD 8 r.1 = some q := hq.2.1.trans (congrArg some hk)
      simp only [List.find?_cons, hk, hk2, decide_true, Option.map_some]
      exact hq.2.2
    · have hk2 : ¬ nkD 8 r.1 = some q := fun z => hk (Option.some.inj (hq.2.1.symm.trans z))
      simp only [List.find?_cons, hk, hk2, decide_false]
      exact ih
theorem dGet_rel {kd : D} (h : Paired (ERel K E ad) xs kvs) (hk : nkD 8 kd = some q) : ORel K E ad (dAt xs q) (dGetD kvs kd) := by
  unfold dGetD
  rw [hk]
  exact dAt_rel h
theorem nk_keyD : ∀ k : Key, nkD 8 (keyD k) = some (match k with | .inl i => .num i | .inr x => .text x)
  | .inl _ => rfl
  | .inr _ => rfl
theorem nk_keyD_inj {k j : Key} (h : nkD 8 (keyD k) = nkD 8 (keyD j)) : k = j := by
  cases k <;> cases j <;> simp [keyD, nkD] at h ⊢ <;> exact h
theorem kGet_rel {ks : List (Key × V)} {k : Key} (h : Paired (KRel K E ad) ks kvs) : ORel K E ad (valV ks k) (dGetD kvs (keyD k)) := by
  have e := nk_keyD k
  unfold dGetD
  rw [e]
  simp only
  rw [← e]
  induction h with
  | nil => exact True.intro
  | @cons p r ps rs hq t ih =>
    by_cases hk : p.1 = k
    · rw [valV_pos hk]
      have hk2 : nkD 8 r.1 = nkD 8 (keyD k) := by rw [hq.1, hk]
      simp only [List.find?_cons, hk2, decide_true, Option.map_some]
      exact hq.2
    · rw [valV_neg hk]
      have hk2 : ¬ nkD 8 r.1 = nkD 8 (keyD k) := fun z => hk (nk_keyD_inj (by rw [← hq.1]; exact z))
      simp only [List.find?_cons, hk2, decide_false]
      exact ih
theorem dPut_rel {b : Addr} {v : V} {kd vd : D} (h : Paired (ERel K E ad) xs kvs) (hk : nkD 8 kd = some q) (rk : Rp K E ad (.ref b) kd) (rv : Rp K E ad v vd) : Paired (ERel K E ad) (dPut xs q b v) (dPutD kvs kd vd) := by
  have e := (dGet_rel h hk).isSome
  unfold dPut dPutD
  rw [← e]
  split
  · rename_i hc
    clear hc e
    induction h with
    | nil => exact .nil
    | @cons p r ps rs hq t ih =>
      refine .cons ?_ ih
      show ERel K E ad (dSet q v p) (if nkD 8 r.1 = nkD 8 kd then (r.1, vd) else r)
      unfold dSet
      rw [hk, hq.2.1]
      by_cases hp : p.1 = q
      · rw [if_pos hp, if_pos (congrArg some hp)]
        exact ⟨hq.1, hq.2.1, rv⟩
      · rw [if_neg hp, if_neg (fun z => hp (Option.some.inj z))]
        exact hq
  · rename_i hc
    clear hc e
    induction h with
    | nil => exact .cons ⟨rk, hk, rv⟩ .nil
    | @cons p r ps rs hq t ih => exact .cons hq ih
theorem kPut_rel {ks : List (Key × V)} {k : Key} {v : V} {vd : D} (h : Paired (KRel K E ad) ks kvs) (rv : Rp K E ad v vd) : Paired (KRel K E ad) (putK ks k v) (dPutD kvs (keyD k) vd) := by
  have e := (kGet_rel (k := k) h).isSome
  unfold putK dPutD
  rw [valV_any, ← e]
  split
  · rename_i hc
    clear hc e
    induction h with
    | nil => exact .nil
    | @cons p r ps rs hq t ih =>
      refine .cons ?_ ih
      show KRel K E ad (if p.1 = k then (p.1, v) else p) (if nkD 8 r.1 = nkD 8 (keyD k) then (r.1, vd) else r)
      by_cases hp : p.1 = k
      · rw [if_pos hp, if_pos (by rw [hq.1, hp])]
        exact ⟨hq.1, rv⟩
      · rw [if_neg hp, if_neg (fun z => hp (nk_keyD_inj (by rw [← hq.1]; exact z)))]
        exact hq
  · rename_i hc
    clear hc e
    induction h with
    | nil => exact .cons ⟨rfl, rv⟩ .nil
    | @cons p r ps rs hq t ih => exact .cons hq ih
theorem dPut_ne {b : Addr} {v : V} : dPut xs q b v ≠ [] := by
  unfold dPut
  split
  · rename_i h
    cases xs with
    | nil => cases h
    | cons _ _ => simp
  · simp
/-- at a stands a dict with these entries -/
def DV (K : PySem.W.Frag) (E : Hp) (ad : List Addr) (H : Hp) (a : Addr) (kvs : List (D × D)) : Prop :=
  (∃ xs : List DE, Rd H a (DicO a xs) ∧ xs ≠ [] ∧ Paired (ERel K E ad) xs kvs) ∨ ∃ xs : List (Key × V), Rd H a (.dK xs) ∧ Paired (KRel K E ad) xs kvs
theorem zip_E : ∀ {xs : List DE} {ks ds : List D}, ks.map (nkD 8) = xs.map (fun p => some p.1) → RpAll K E ad (xs.map fun p => V.ref p.2.1) ks → RpAll K E ad (xs.map fun p => p.2.2) ds → Paired (ERel K E ad) xs (ks.zip ds)
  | [], [], _, _, _, _ => .nil
  | [], _ :: _, _, h, _, _ => by simp at h
  | _ :: _, [], _, h, _, _ => by simp at h
  | _ :: _, _ :: _, [], _, _, r => by
    rw [List.map_cons] at r
    cases r
  | x :: xs, k :: ks, d :: ds, h, r1, r2 => by
    simp only [List.map_cons, List.cons.injEq] at h r1 r2
    cases r1 with | cons a b =>
    cases r2 with | cons a' b' =>
    exact .cons ⟨a, h.1, a'⟩ (zip_E h.2 b b')
theorem zip_K : ∀ {xs : List (Key × V)} {ks ds : List D}, ks = xs.map (fun p => keyD p.1) → RpAll K E ad (xs.map fun p => p.2) ds → Paired (KRel K E ad) xs (ks.zip ds)
  | [], _, _, h, _ => by subst h; exact .nil
  | _ :: _, _, [], _, r => by
    rw [List.map_cons] at r
    cases r
  | x :: xs, _, d :: ds, h, r2 => by
    subst h
    simp only [List.map_cons] at r2 ⊢
    cases r2 with | cons a b =>
    exact .cons ⟨rfl, a⟩ (zip_K rfl b)
theorem dv_of {hd : List Addr} {S : Store} {v : V} {d : D} (s : SR K hd ad S H) (r : Rp K (era hd ad S H) ad v d) (h : viewD S d = some kvs) : ∃ a, v = .ref a ∧ DV K (era hd ad S H) ad H a kvs := by
  unfold viewD at h
  split at h
  · split at h
    · rename_i e
      cases h
      cases r with | loc h1 =>
      refine ⟨_, rfl, ?_⟩
      rcases s.ms _ _ _ h1 e with ⟨xs, h2, h0, h3⟩ | ⟨xs, h2, h3⟩
      · exact .inl ⟨xs, .of h2, h0, h3⟩
      · exact .inr ⟨xs, .of h2, h3⟩
    · cases h
  · cases h
    cases r with
    | dcN h1 h0 h2 r1 r2 => exact ⟨_, rfl, .inl ⟨_, .inr ⟨_, era_of h1⟩, h0, zip_E h2 r1 r2⟩⟩
    | dcK h1 h2 r2 => exact ⟨_, rfl, .inr ⟨_, .inr ⟨_, era_of h1⟩, zip_K h2 r2⟩⟩
  · cases h
/-- a live one -/
theorem dv_live {hd : List Addr} {S : Store} {a : Addr} {n : Nat} (s : SR K hd ad S H) (h1 : ad[n]? = some a) (e : S[n]? = some (some (.dc kvs))) :
    (∃ xs : List DE, H a = some (DicO a xs) ∧ xs ≠ [] ∧ Paired (ERel K (era hd ad S H) ad) xs kvs) ∨ ∃ xs : List (Key × V), H a = some (.dK xs) ∧ Paired (KRel K (era hd ad S H) ad) xs kvs := s.ms _ _ _ h1 e
end
section
variable {X : Cx} {pins : List (Addr × Obj)} {σ : L2.St} {H E : Hp} {s : Shared} {a : Addr} {ad : List Addr} {kvs : List (D × D)} {y : V} {u : Value} {kd : D} {r : Option D}
/-- what a look-up finds, whatever the keys are -/
theorem DV.look (hw : X.w = Wd.w) (I : Inv X pins σ H s) (e : Ex E H) (dv : DV X.K E ad H a kvs) (rk : Rp X.K E ad y kd) (ry : RelV y u) (h : lookD kvs kd = some r) :
    (∃ b xs q, y = .ref b ∧ u = .ref b ∧ AtN X s a xs ∧ KIs X.K H (.ref b) q ∧ q.depth ≤ 8 ∧ ORel X.K E ad (dAt xs q) r) ∨ ∃ xs k, Rd H a (.dK xs) ∧ y = kV k ∧ ORel X.K E ad (valV xs k) r := by
  unfold lookD at h
  split at h
  · rename_i hk
    cases h
    unfold keyOk at hk
    simp only [Bool.and_eq_true] at hk
    obtain ⟨⟨h1, h2⟩, h3⟩ := hk
    obtain ⟨q, hq⟩ := Option.isSome_iff_exists.mp h1
    split at h2
    · -- a tuple
      obtain ⟨kb, kdp⟩ := nk_is e 8 rk hq
      cases rk with | tup ht hr =>
      cases ry
      rcases dv with ⟨xs, hx, h0, p⟩ | ⟨xs, hx, p⟩
      · exact .inl ⟨_, xs, q, rfl, rfl, atN hw I hx (dkeys_of e p), kb, kdp, dGet_rel p hq⟩
      · cases p with
        | nil => exact .inl ⟨_, [], q, rfl, rfl, atN0 I hx, kb, kdp, by unfold dGetD; rw [hq]; exact True.intro⟩
        | @cons p r ps rs hp t =>
          simp only [hp.1] at h3
          cases p with
          | mk k v => cases k <;> cases h3
    · cases rk
      rcases dv with ⟨xs, hx, h0, p⟩ | ⟨xs, hx, p⟩
      · cases p with
        | nil => exact absurd rfl h0
        | @cons p r ps rs hp t =>
          simp only [erel_T hp] at h3
          cases h3
      · exact .inr ⟨xs, .inl _, hx, rfl, kGet_rel (k := .inl _) p⟩
    · cases rk
      rcases dv with ⟨xs, hx, h0, p⟩ | ⟨xs, hx, p⟩
      · cases p with
        | nil => exact absurd rfl h0
        | @cons p r ps rs hp t =>
          simp only [erel_T hp] at h3
          cases h3
      · exact .inr ⟨xs, .inr _, hx, rfl, kGet_rel (k := .inr _) p⟩
    · cases h2
  · cases h
end
end Wt
set_option maxRecDepth 100000
set_option maxHeartbeats 4000000
/-! A small syntax over slots and numbers of defs, and what it yields. -/
namespace Wt
open PySem L2

/-! ### outcomes -/
/-- an error: the number of its class, what it bears -/
structure Xn where
  c : Nat
  by_ : Option D := none
inductive Out (α : Type) where
  | ok (a : α) (S : Store)
  | ex (x : Xn) (S : Store)
  | no
def Out.bind {α β : Type} (o : Out α) (f : α → Store → Out β) : Out β := match o with
  | .ok a S => f a S
  | .ex x S => .ex x S
  | .no => .no
@[simp] theorem Out.bind_ok {α β : Type} (a : α) (S : Store) (f : α → Store → Out β) : (Out.ok a S).bind f = f a S := rfl
@[simp] theorem Out.bind_ex {α β : Type} (x : Xn) (S : Store) (f : α → Store → Out β) : (Out.ex x S).bind f = Out.ex x S := rfl
@[simp] theorem Out.bind_no {α β : Type} (f : α → Store → Out β) : (Out.no : Out α).bind f = Out.no := rfl
def lift {α : Type} (o : Option α) (S : Store) : Out α := match o with
  | some a => .ok a S
  | none => .no
@[simp] theorem lift_some {α : Type} (a : α) (S : Store) : lift (some a) S = .ok a S := rfl
@[simp] theorem lift_none {α : Type} (S : Store) : lift (none : Option α) S = .no := rfl

/-! ### equality of data -/
mutual
def D.eqv : D → D → Bool
  | .non, .non => true
  | .bl a, .bl b => a == b
  | .bl a, .int j => (if a then 1 else 0) == j
  | .int i, .bl b => i == (if b then 1 else 0)
  | .int i, .int j => i == j
  | .str x, .str y => x == y
  | .lst xs, .lst ys => D.eqvAll xs ys
  | .tup xs, .tup ys => D.eqvAll xs ys
  | _, _ => false
def D.eqvAll : List D → List D → Bool
  | [], [] => true
  | x :: xs, y :: ys => D.eqv x y && D.eqvAll xs ys
  | _, _ => false
end
/- data that == may be asked of: no lists that change, no script, no dict; not too deep; sound texts -/
mutual
def D.flat (n : Nat) : D → Bool
  | .non => true
  | .bl _ => true
  | .int _ => true
  | .str x => PyData.strOk x
  | .lst xs => match n with
    | 0 => false
    | n + 1 => D.flatAll n xs
  | .tup xs => match n with
    | 0 => false
    | n + 1 => D.flatAll n xs
  | _ => false
def D.flatAll (n : Nat) : List D → Bool
  | [] => true
  | d :: ds => D.flat n d && D.flatAll n ds
end

/-! ### operations on data -/
def small (i : Int) : Bool := decide (-(2 ^ 64) < i) && decide (i < 2 ^ 64)
def roomy (n : Nat) : Bool := decide (n ≤ 1000000)
def rep {α : Type} (xs : List α) (k : Int) : List α := (List.replicate k.toNat xs).flatten
def opD : Operator → D → D → Option D
  | .Add, .int i, .int j => some (.int (i + j))
  | .Add, .lst xs, .lst ys => if roomy (xs.length + ys.length) then some (.lst (xs ++ ys)) else none
  | .Add, .tup xs, .tup ys => if roomy (xs.length + ys.length) then some (.tup (xs ++ ys)) else none
  | .Add, .str x, .str y => if roomy (x.length + y.length) then some (.str (x ++ y)) else none
  | .Sub, .int i, .int j => some (.int (i - j))
  | .Mult, .int i, .int j => if small i || small j then some (.int (i * j)) else none
  | .Mult, .lst xs, .int k => if small k && decide (-(2 ^ 63) ≤ k) && decide (k < 2 ^ 63) && roomy (xs.length * k.toNat) then some (.lst (rep xs k)) else none
  | .FloorDiv, .int i, .int j => if decide (0 < j) && decide (j < 1073741824) then some (.int (i / j)) else none
  | .Mod, .int i, .int j => if decide (0 < j) then some (.int (i % j)) else none
  | .Pow, .int i, .int j => if small i && decide (0 ≤ j) && decide (j ≤ 1000) then some (.int (i ^ j.toNat)) else none
  | _, _, _ => none
def ltS (x y : Str) : Bool := decide (x.cps.toList < y.cps.toList)
def cmpD : CmpOp → D → D → Option Bool
  | .Lt, .int i, .int j => some (decide (i < j))
  | .LtE, .int i, .int j => some (decide (i ≤ j))
  | .Gt, .int i, .int j => some (decide (j < i))
  | .GtE, .int i, .int j => some (decide (j ≤ i))
  | .Eq, a, b => if a.flat 60 && b.flat 60 then some (D.eqv a b) else none
  | .NotEq, a, b => if a.flat 60 && b.flat 60 then some (!D.eqv a b) else none
  | .In, a, .lst xs => if a.flat 60 && D.flatAll 60 xs then some (xs.any fun z => D.eqv z a) else none
  | .NotIn, a, .lst xs => if a.flat 60 && D.flatAll 60 xs then some (!xs.any fun z => D.eqv z a) else none
  | .NotIn, .str a, .tup xs => if xs.all (fun | .str _ => true | _ => false) then some (!xs.any fun z => D.eqv z (.str a)) else none
  | .In, .str a, .tup xs => if xs.all (fun | .str _ => true | _ => false) then some (xs.any fun z => D.eqv z (.str a)) else none
  | .Is, a, .non => some (match a with | .non => true | _ => false)
  | .IsNot, a, .non => some (match a with | .non => false | _ => true)
  | _, _, _ => none
def ixD : D → D → Store → Option D
  | .lst xs, .int i, _ => atI xs i
  | .tup xs, .int i, _ => atI xs i
  | .scr ns, .int i, _ => (atI ns i).map D.int
  | .loc n, k, S => match S[n]? with
    | some (some (.ls xs)) => match k with
      | .int i => atI xs i
      | _ => none
    | some (some (.dc kvs)) => (lookD kvs k).bind id
    | _ => none
  | .dic ks vs, k, _ => (lookD (ks.zip vs) k).bind id
  | _, _, _ => none
/-- d.get(k), d.get(k, x) -/
def getD (d k x : D) (S : Store) : Option D := match viewD S d with
  | some kvs => (lookD kvs k).map fun o => o.getD x
  | none => none
def cutD {α : Type} (xs : List α) (lo hi : Option Int) : List α := (xs.drop (HT.sIx xs.length 0 lo)).take (HT.sIx xs.length xs.length hi - HT.sIx xs.length 0 lo)
def slD : D → Option Int → Option Int → Option D
  | .lst xs, lo, hi => some (.lst (cutD xs lo hi))
  | .tup xs, lo, hi => some (.tup (cutD xs lo hi))
  | _, _, _ => none
def revD : D → Option D
  | .lst xs => some (.lst xs.reverse)
  | .tup xs => some (.tup xs.reverse)
  | _ => none
inductive Ty where
  | int | bool | str | tuple | list
  deriving DecidableEq, Repr
def Ty.name : Ty → String
  | .int => "int" | .bool => "bool" | .str => "str" | .tuple => "tuple" | .list => "list"
def tyD : Ty → D → Option Bool
  | .int, .int _ => some true
  | .int, .bl _ => some true
  | .bool, .bl _ => some true
  | .str, .str _ => some true
  | .tuple, .tup _ => some true
  | .list, .lst _ => some true
  | _, .non => some false
  | _, .bl _ => some false
  | _, .int _ => some false
  | _, .str _ => some false
  | _, .lst _ => some false
  | _, .tup _ => some false
  | _, _ => none
def tysD : List Ty → D → Option Bool
  | [], _ => some false
  | t :: ts, d => match tyD t d, tysD ts d with
    | some a, some b => some (a || b)
    | _, _ => none
inductive Pr where
  | len | int | max | min | sorted | sum | list | tuple | abs | any
  deriving DecidableEq, Repr
/-- texts in order, by insertion -/
def insS (x : Str) : List Str → List Str
  | [] => [x]
  | y :: r => if ltS y x then y :: insS x r else x :: y :: r
def sortS : List Str → List Str
  | [] => []
  | x :: r => insS x (sortS r)
def strsD : List D → Option (List Str)
  | [] => some []
  | .str x :: r => (strsD r).map (x :: ·)
  | _ => none
def intsD : List D → Option (List Int)
  | [] => some []
  | .int x :: r => (intsD r).map (x :: ·)
  | _ => none
def bolsD : List D → Option (List Bool)
  | [] => some []
  | .bl x :: r => (bolsD r).map (x :: ·)
  | _ => none
def prD : Pr → List D → Store → Option D
  | .len, [.lst xs], _ => some (.int xs.length)
  | .len, [.tup xs], _ => some (.int xs.length)
  | .len, [.scr xs], _ => some (.int xs.length)
  | .len, [.str x], _ => if roomy x.length then some (.int x.length) else none
  | .len, [.loc n], S => match S[n]? with
    | some (some (.ls xs)) => some (.int xs.length)
    | some (some (.dc kvs)) => some (.int kvs.length)
    | _ => none
  | .int, [.int i], _ => some (.int i)
  | .int, [.bl b], _ => some (.int (if b then 1 else 0))
  | .max, [.int i, .int j], _ => some (.int (if j > i then j else i))
  | .min, [.int i, .int j], _ => some (.int (if j < i then j else i))
  | .abs, [.int i], _ => some (.int (if i < 0 then -i else i))
  | .sorted, [.lst xs], _ => (strsD xs).bind fun ss => if decide (ss.length < 64) then some (.lst ((sortS ss).map D.str)) else none
  | .sum, [.lst xs], _ => (intsD xs).map fun ns => .int ns.sum
  | .any, [.lst xs], _ => (bolsD xs).map fun bs => .bl (bs.any id)
  | .len, [.dic ks _], _ => some (.int ks.length)
  | .list, [.dic ks _], _ => if roomy ks.length then some (.lst ks) else none
  | .list, [.lst xs], _ => some (.lst xs)
  | .list, [.tup xs], _ => some (.lst xs)
  | .tuple, [.lst xs], _ => some (.tup xs)
  | .tuple, [.tup xs], _ => some (.tup xs)
  | _, _, _ => none
inductive Mt where
  | append | pop
  deriving DecidableEq, Repr
/-- may the method be asked of that? -/
def rcv : Mt → D → Store → Bool
  | _, .loc n, S => match S[n]? with
    | some (some (.ls _)) => true
    | _ => false
  | _, _, _ => false
def mtD : Mt → D → List D → Store → Option (D × Store)
  | .append, .loc n, [d], S => match S[n]? with
    | some (some (.ls xs)) => if roomy xs.length then some (.non, S.set n (some (.ls (xs ++ [d])))) else none
    | _ => none
  | .pop, .loc n, [], S => match S[n]? with
    | some (some (.ls xs)) => match xs[xs.length - 1]? with
      | some d => some (d, S.set n (some (.ls xs.dropLast)))
      | none => none
    | _ => none
  | _, _, _, _ => none
/-- what is walked -/
inductive It where
  | dat | rng | zip | vals | items
  deriving DecidableEq, Repr
def bnd (i : Int) : Bool := decide (-(2 ^ 62) ≤ i) && decide (i < 2 ^ 62)
def rngD (lo : Int) (n : Nat) : List D := (List.range n).map fun (i : Nat) => D.int (lo + (i : Int))
def itD : It → List D → Option (List D)
  | .dat, [.lst xs] => some xs
  | .dat, [.tup xs] => some xs
  | .dat, [.scr xs] => some (xs.map D.int)
  | .dat, [.dic ks _] => some ks
  | .vals, [.dic _ vs] => some vs
  | .items, [.dic ks vs] => some ((ks.zip vs).map fun p => .tup [p.1, p.2])
  | .rng, [.int j] => if bnd j then some (rngD 0 j.toNat) else none
  | .rng, [.int i, .int j] => if bnd i && bnd j then some (rngD i (j - i).toNat) else none
  | .zip, [.lst xs, .lst ys] => some ((xs.zip ys).map fun p => .tup [p.1, p.2])
  | .zip, [.tup xs, .tup ys] => some ((xs.zip ys).map fun p => .tup [p.1, p.2])
  | _, _ => none

/-- o[k] = v -/
def setD (o k v : D) (S : Store) : Option Store := match o with
  | .loc n => match S[n]? with
    | some (some (.ls xs)) => match k with
      | .int z => (ixN xs.length z).map fun m => S.set n (some (.ls (xs.set m v)))
      | _ => none
    | some (some (.dc kvs)) => if keyOk kvs k && roomy kvs.length then some (S.set n (some (.dc (dPutD kvs k v)))) else none
    | _ => none
  | _ => none
/-- all keys are tuples without texts -/
def plainK (kvs : List (D × D)) : Bool := !kvs.isEmpty && kvs.all fun p => kindT p.1 && (match nkD 8 p.1 with
  | some q => noText q
  | none => false)
def hashD (k : D) : Int := match nkD 8 k with
  | some q => hash0 q
  | none => 0
/-- may that dict be copied at once? -/
def copyOk (kvs : List (D × D)) : Bool := plainK kvs && decide (kvs.map fun p => hashD p.1).Nodup
def pairsD : List D → Option (List (D × D))
  | [] => some []
  | .tup [k, v] :: r => (pairsD r).map ((k, v) :: ·)
  | _ => none
def putsD (kvs : List (D × D)) (ps : List (D × D)) : List (D × D) := ps.foldl (fun a p => dPutD a p.1 p.2) kvs
def maxL : Int → List Int → Int
  | m, [] => m
  | m, x :: r => maxL (if m < x then x else m) r
def maxD (kvs : List (D × D)) : Option D := match intsD (kvs.map (·.2)) with
  | some (x :: r) => some (.int (maxL x r))
  | _ => none
/-- a set of texts, one more -/
def addT (L : List Str) (x : Str) : List Str := if x ∈ L then L else x :: L
/-! ### targets, slots -/
abbrev Slots := List (Option D)
inductive Tg where
  | nm (i : Nat) | tup (ts : List Tg)
mutual
def bindT : Tg → D → Slots → Option Slots
  | .nm i, d, ρ => some (ρ.set i (some d))
  | .tup ts, .tup ds, ρ => bindTs ts ds ρ
  | .tup _, _, _ => none
def bindTs : List Tg → List D → Slots → Option Slots
  | [], [], ρ => some ρ
  | t :: ts, d :: ds, ρ => match bindT t d ρ with
    | some ρ' => bindTs ts ds ρ'
    | none => none
  | _, _, _ => none
end
def wipeE (ρ : Slots) : List Nat → Slots
  | [] => ρ
  | v :: vs => (wipeE ρ vs).set v none

/-- {"cheap": 1, "dear": 2}.get(y, 0) -/
def tollS (y : Str) : Int := if y = "cheap" then 1 else if y = "dear" then 2 else 0
/-- is a key in a dict (or not)? -/
def dinD (neg : Bool) (k d : D) (S : Store) : Option Bool := match viewD S d with
  | some kvs => (lookD kvs k).map fun o => neg != o.isSome
  | none => none
/-! ### the syntax -/
inductive E where
  | var (i : Nat) | k (d : D) | tup (es : List E) | lst (es : List E) | new (es : List E)
  | op (o : Operator) (a b : E) | neg (a : E) | cmp (o : CmpOp) (a b : E) | chain (o p : CmpOp) (a b c : E)
  | and (a b : E) | or (a b : E) | not (a : E) | ite (c a b : E)
  | ix (a b : E) | sl (a lo hi : E) | rev (a : E)
  | call (f : Nat) (es : List E) | prim (p : Pr) (es : List E) | isi (ts : List Ty) (a : E) | meth (m : Mt) (a : E) (es : List E)
  | lc (elt : E) (g : Tg) (it : It) (es : List E) (c : E) (own : List Nat)
  | fz (a : E) | toll (a : E) | din (neg : Bool) (a b : E)
  | dic0 | dic1 (k v : E) | nemp (a : E) | dcopy (a : E) | dpairs (a : E) | dzero (i : Nat) (a : E) | maxv (a : E) | sset (a : E) | get1 (a k : E) | get2 (a k x : E)
/-- a target among several -/
inductive Tt where
  | nm (i : Nat) | sub (a i : E)
inductive S where
  | mul (ts : List Tt) (e : E) | fzs (i : Nat) | retz (e : E) | asg (g : Tg) (e : E) | par (is : List Nat) (es : List E) | set (a i e : E) | ite (c : E) (a b : List S) | for_ (g : Tg) (it : It) (es : List E) (b : List S)
  | whl (c : E) (b : List S) | ret (e : E) | raise (c : Nat) | exp (e : E) | brk | cnt

/-! ### what it yields -/
def asB (o : Out D) : Out Bool := o.bind fun d S => match d with
  | .bl b => .ok b S
  | _ => .no
/-- a part of a slice -/
def asI (o : Out D) : Out (Option Int) := o.bind fun d S => match d with
  | .int i => .ok (some i) S
  | _ => .no
@[simp] theorem asI_int (i : Int) (S : Store) : asI (.ok (.int i) S) = .ok (some i) S := rfl
/-- the constant None, which stands for no part -/
def isNon : E → Bool
  | .k .non => true
  | _ => false
@[simp] theorem asB_bl (b : Bool) (S : Store) : asB (.ok (.bl b) S) = .ok b S := rfl
def lcL (tst elt : Slots → Store → Out D) (g : Tg) (ρ : Slots) : List D → Store → Out (List D)
  | [], S => .ok [] S
  | d :: ds, S => match bindT g d ρ with
    | none => .no
    | some ρ1 => match asB (tst ρ1 S) with
      | .ok true S1 => match elt ρ1 S1 with
        | .ok y S2 => (lcL tst elt g ρ ds S2).bind fun ys S3 => .ok (y :: ys) S3
        | _ => .no
      | .ok false S1 => lcL tst elt g ρ ds S1
      | _ => .no
mutual
def ev (F : Nat → List D → Store → Out D) : E → Slots → Store → Out D
  | .var i, ρ, S => match ρ[i]? with
    | some (some d) => .ok d S
    | _ => .no
  | .k d, _, S => .ok d S
  | .tup es, ρ, S => (evs F es ρ S).bind fun ds S1 => .ok (.tup ds) S1
  | .lst es, ρ, S => (evs F es ρ S).bind fun ds S1 => .ok (.lst ds) S1
  | .new es, ρ, S => (evs F es ρ S).bind fun ds S1 => .ok (.loc S1.length) (S1 ++ [some (.ls ds)])
  | .op o a b, ρ, S => (ev F a ρ S).bind fun x S1 => (ev F b ρ S1).bind fun y S2 => lift (opD o x y) S2
  | .neg a, ρ, S => (ev F a ρ S).bind fun x S1 => match x with
    | .int i => .ok (.int (-i)) S1
    | _ => .no
  | .cmp o a b, ρ, S => (ev F a ρ S).bind fun x S1 => (ev F b ρ S1).bind fun y S2 => lift ((cmpD o x y).map D.bl) S2
  | .chain o p a b c, ρ, S => (ev F a ρ S).bind fun x S1 => (ev F b ρ S1).bind fun y S2 => match cmpD o x y with
    | some true => (ev F c ρ S2).bind fun z S3 => lift ((cmpD p y z).map D.bl) S3
    | some false => .ok (.bl false) S2
    | none => .no
  | .and a b, ρ, S => (asB (ev F a ρ S)).bind fun x S1 => if x then asB (ev F b ρ S1) |>.bind fun y S2 => .ok (.bl y) S2 else .ok (.bl false) S1
  | .or a b, ρ, S => (asB (ev F a ρ S)).bind fun x S1 => if x then .ok (.bl true) S1 else asB (ev F b ρ S1) |>.bind fun y S2 => .ok (.bl y) S2
  | .not a, ρ, S => (asB (ev F a ρ S)).bind fun x S1 => .ok (.bl !x) S1
  | .ite c a b, ρ, S => (asB (ev F c ρ S)).bind fun x S1 => if x then ev F a ρ S1 else ev F b ρ S1
  | .ix a b, ρ, S => (ev F a ρ S).bind fun x S1 => (ev F b ρ S1).bind fun y S2 => lift (ixD x y S2) S2
  | .sl a lo hi, ρ, S => (ev F a ρ S).bind fun x S1 => (if isNon lo then Out.ok none S1 else asI (ev F lo ρ S1)).bind fun l S2 => (if isNon hi then Out.ok none S2 else asI (ev F hi ρ S2)).bind fun h S3 => lift (slD x l h) S3
  | .rev a, ρ, S => (ev F a ρ S).bind fun x S1 => lift (revD x) S1
  | .call f es, ρ, S => (evs F es ρ S).bind fun ds S1 => F f ds S1
  | .prim p es, ρ, S => (evs F es ρ S).bind fun ds S1 => lift (prD p ds S1) S1
  | .isi ts a, ρ, S => (ev F a ρ S).bind fun x S1 => lift ((tysD ts x).map D.bl) S1
  | .meth m a es, ρ, S => (ev F a ρ S).bind fun x S1 => if rcv m x S1 then (evs F es ρ S1).bind fun ds S2 => match mtD m x ds S2 with
    | some (d, S3) => .ok d S3
    | none => .no
    else .no
  | .lc elt g it es c own, ρ, S => (evs F es ρ S).bind fun ds S1 => match itD it ds with
    | some items => if roomy items.length then (lcL (ev F c) (ev F elt) g (wipeE ρ own) items S1).bind fun ys S2 => .ok (.lst ys) S2 else .no
    | none => .no
  | .fz a, ρ, S => (ev F a ρ S).bind fun x S1 => match x with
    | .loc n => match S1[n]? with
      | some (some m) => .ok (frD m) (S1.set n none)
      | _ => .no
    | _ => .no
  | .nemp a, ρ, S => (ev F a ρ S).bind fun x S1 => match x with
    | .loc n => match S1[n]? with
      | some (some (.ls xs)) => if D.flatAll 59 xs then .ok (.bl (!xs.isEmpty)) S1 else .no
      | _ => .no
    | _ => .no
  | .dcopy a, ρ, S => (ev F a ρ S).bind fun x S1 => match viewD S1 x with
    | some kvs => if copyOk kvs then .ok (.loc S1.length) (S1 ++ [some (.dc kvs)]) else .no
    | none => .no
  | .dpairs a, ρ, S => (ev F a ρ S).bind fun x S1 => match x with
    | .lst xs => match pairsD xs with
      | some kvs => if plainK kvs && roomy kvs.length then .ok (.loc S1.length) (S1 ++ [some (.dc (putsD [] kvs))]) else .no
      | none => .no
    | _ => .no
  | .dzero i a, ρ, S => (ev F a ρ S).bind fun x S1 => match x with
    | .dic ks _ => if decide (i < ρ.length) && plainK (ks.map fun k => (k, .int 0)) && roomy ks.length then .ok (.loc S1.length) (S1 ++ [some (.dc (putsD [] (ks.map fun k => (k, .int 0))))]) else .no
    | _ => .no
  | .maxv a, ρ, S => (ev F a ρ S).bind fun x S1 => match viewD S1 x with
    | some kvs => lift (maxD kvs) S1
    | none => .no
  | .sset a, ρ, S => (ev F a ρ S).bind fun x S1 => match x with
    | .tup xs => match strsD xs with
      | some ss => if decide (ss.length < 60) then .ok (.lst ((sortS (ss.foldl addT [])).map D.str)) S1 else .no
      | none => .no
    | _ => .no
  | .dic0, _, S => .ok (.loc S.length) (S ++ [some (.dc [])])
  | .dic1 a b, ρ, S => (ev F a ρ S).bind fun x S1 => (ev F b ρ S1).bind fun y S2 => match x, nkD 8 x with
    | .tup _, some _ => .ok (.loc S2.length) (S2 ++ [some (.dc [(x, y)])])
    | _, _ => .no
  | .get1 a b, ρ, S => (ev F a ρ S).bind fun x S1 => (if (viewD S1 x).isSome then ev F b ρ S1 else .no).bind fun y S2 => lift (getD x y .non S2) S2
  | .get2 a b c, ρ, S => (ev F a ρ S).bind fun x S1 => (if (viewD S1 x).isSome then ev F b ρ S1 else .no).bind fun y S2 => (ev F c ρ S2).bind fun z S3 => lift (getD x y z S3) S3
  | .toll a, ρ, S => (ev F a ρ S).bind fun x S1 => match x with
    | .str y => .ok (.int (tollS y)) S1
    | _ => .no
  | .din neg a b, ρ, S => (ev F a ρ S).bind fun x S1 => (ev F b ρ S1).bind fun y S2 => lift ((dinD neg x y S2).map D.bl) S2
def evs (F : Nat → List D → Store → Out D) : List E → Slots → Store → Out (List D)
  | [], _, S => .ok [] S
  | e :: es, ρ, S => (ev F e ρ S).bind fun d S1 => (evs F es ρ S1).bind fun ds S2 => .ok (d :: ds) S2
end
inductive OutS where
  | nx (ρ : Slots) (S : Store) | rt (d : D) (S : Store) | rz (d : D) (S : Store) | bk (ρ : Slots) (S : Store) | ct (ρ : Slots) (S : Store) | ex (x : Xn) (S : Store) | no
def Out.thenS {α : Type} (o : Out α) (f : α → Store → OutS) : OutS := match o with
  | .ok a S => f a S
  | .ex x S => .ex x S
  | .no => .no
@[simp] theorem Out.thenS_ok {α : Type} (a : α) (S : Store) (f : α → Store → OutS) : (Out.ok a S).thenS f = f a S := rfl
@[simp] theorem Out.thenS_ex {α : Type} (x : Xn) (S : Store) (f : α → Store → OutS) : (Out.ex x S : Out α).thenS f = OutS.ex x S := rfl
@[simp] theorem Out.thenS_no {α : Type} (f : α → Store → OutS) : (Out.no : Out α).thenS f = OutS.no := rfl
def forL (body : Slots → Store → OutS) (g : Tg) : List D → Slots → Store → OutS
  | [], ρ, S => .nx ρ S
  | d :: ds, ρ, S => match bindT g d ρ with
    | none => .no
    | some ρ1 => match body ρ1 S with
      | .nx ρ2 S2 => forL body g ds ρ2 S2
      | .ct ρ2 S2 => forL body g ds ρ2 S2
      | .bk ρ2 S2 => .nx ρ2 S2
      | o => o
def whlL (c : Slots → Store → Out D) (body : Slots → Store → OutS) : Nat → Slots → Store → OutS
  | 0, _, _ => .no
  | n + 1, ρ, S => (asB (c ρ S)).thenS fun b S1 => if b then match body ρ S1 with
      | .nx ρ2 S2 => whlL c body n ρ2 S2
      | .ct ρ2 S2 => whlL c body n ρ2 S2
      | .bk ρ2 S2 => .nx ρ2 S2
      | o => o
    else .nx ρ S1
def setPar : List Nat → List D → Slots → Option Slots
  | [], [], ρ => some ρ
  | i :: is, d :: ds, ρ => setPar is ds (ρ.set i (some d))
  | _, _, _ => none
def mul1 (F : Nat → List D → Store → Out D) : Tt → D → Slots → Store → OutS
  | .nm i, d, ρ, S => .nx (ρ.set i (some d)) S
  | .sub a i, d, ρ, S => (ev F a ρ S).thenS fun o S1 => (ev F i ρ S1).thenS fun j S2 => match setD o j d S2 with
    | some T => .nx ρ T
    | none => .no
def mulL (F : Nat → List D → Store → Out D) : List Tt → List D → Slots → Store → OutS
  | [], [], ρ, S => .nx ρ S
  | t :: ts, d :: ds, ρ, S => match mul1 F t d ρ S with
    | .nx ρ1 S1 => mulL F ts ds ρ1 S1
    | o => o
  | _, _, _, _ => .no
/-- turns that a while may have -/
def fuel : Nat := 1000000000
mutual
def exS (F : Nat → List D → Store → Out D) : S → Slots → Store → OutS
  | .asg g e, ρ, S => (ev F e ρ S).thenS fun d S1 => match bindT g d ρ with
    | some ρ1 => .nx ρ1 S1
    | none => .no
  | .par is es, ρ, S => (evs F es ρ S).thenS fun ds S1 => match setPar is ds ρ with
    | some ρ1 => .nx ρ1 S1
    | none => .no
  | .set a i e, ρ, S => (ev F e ρ S).thenS fun v S1 => (ev F a ρ S1).thenS fun o S2 => (ev F i ρ S2).thenS fun j S3 => match setD o j v S3 with
    | some T => .nx ρ T
    | none => .no
  | .mul ts e, ρ, S => (ev F e ρ S).thenS fun d S1 => match d with
    | .tup ds => if ts.length = ds.length then mulL F ts ds ρ S1 else .no
    | _ => .no
  | .ite c a b, ρ, S => (asB (ev F c ρ S)).thenS fun x S1 => if x then exL F a ρ S1 else exL F b ρ S1
  | .for_ g it es b, ρ, S => (evs F es ρ S).thenS fun ds S1 => match itD it ds with
    | some items => forL (exL F b) g items ρ S1
    | none => .no
  | .whl c b, ρ, S => whlL (ev F c) (exL F b) fuel ρ S
  | .ret e, ρ, S => (ev F e ρ S).thenS fun d S1 => .rt d S1
  | .retz e, ρ, S => (ev F e ρ S).thenS fun d S1 => .rz d S1
  | .fzs i, ρ, S => match ρ[i]? with
    | some (some (.loc n)) => match S[n]? with
      | some (some m) => .nx (ρ.set i (some (frD m))) (S.set n none)
      | _ => .no
    | some (some _) => .nx ρ S
    | _ => .no
  | .raise c, _, S => .ex ⟨c, none⟩ S
  | .exp e, ρ, S => (ev F e ρ S).thenS fun _ S1 => .nx ρ S1
  | .brk, ρ, S => .bk ρ S
  | .cnt, ρ, S => .ct ρ S
def exL (F : Nat → List D → Store → Out D) : List S → Slots → Store → OutS
  | [], ρ, S => .nx ρ S
  | s :: ss, ρ, S => match exS F s ρ S with
    | .nx ρ1 S1 => exL F ss ρ1 S1
    | o => o
end
/-- a def: parameters, slots, body -/
structure Df where
  ps : Nat
  ns : Nat
  body : List S
/-- lists that nobody has any more are forgotten -/
def trim (n : Nat) (S : Store) : Option Store := if S.length ≤ n then some S else if (S.take n).all (M.low n) then some (S.take n) else none
def Xn.low (n : Nat) (x : Xn) : Bool := match x.by_ with
  | none => true
  | some d => d.low n
def leave (n : Nat) : OutS → Out D
  | .nx _ S => lift ((trim n S).map fun T => (D.non, T)) S |>.bind fun p _ => .ok p.1 p.2
  | .rt d S => match (if S.length ≤ n || d.low n then trim n S else none) with
    | some T => .ok d T
    | none => .ok d S
  | .rz d S => match (if (killAb n S).length ≤ n || (resW (resN S n 8) d).low n then trim n (killAb n S) else none) with
    | some T => .ok (resW (resN S n 8) d) T
    | none => .ok (resW (resN S n 8) d) (killAb n S)
  | .ex x S => match (if S.length ≤ n || x.low n then trim n S else none) with
    | some T => .ex x T
    | none => .no
  | _ => .no
def callF (T : Nat → Option Df) : Nat → Nat → List D → Store → Out D
  | 0, _, _, _ => .no
  | k + 1, f, ds, S => match T f with
    | some d => if ds.length = d.ps then leave S.length (exL (callF T k) d.body (ds.map some ++ List.replicate (d.ns - d.ps) none) S) else .no
    | none => .no
end Wt
set_option maxRecDepth 100000
set_option maxHeartbeats 4000000
/-! The operations on data are those of the machine. -/
namespace Wt
open PySem L2

theorem sz_of {n : Nat} (h : roomy n = true) : n ≤ sizeLine := Nat.le_trans (of_decide_eq_true h) (by decide)
theorem sz_lt {n : Nat} (h : roomy n = true) : n < sizeLine := Nat.lt_of_le_of_lt (of_decide_eq_true h) (by decide)
theorem small_iff {i : Int} (h : small i = true) : -(2 ^ 64) < i ∧ i < 2 ^ 64 := by
  unfold small at h
  rw [Bool.and_eq_true] at h
  exact ⟨of_decide_eq_true h.1, of_decide_eq_true h.2⟩

/-! ### data and the library's data -/
mutual
def D.toP : D → PyData
  | .non => .none
  | .bl b => .bool b
  | .int i => .int i
  | .str x => .str x
  | .lst xs => .list (D.toPs xs)
  | .tup xs => .tuple (D.toPs xs)
  | _ => .none
def D.toPs : List D → List PyData
  | [] => []
  | d :: ds => D.toP d :: D.toPs ds
end
theorem toPs_map : ∀ ds : List D, D.toPs ds = ds.map D.toP
  | [] => by simp [D.toPs]
  | d :: ds => by simp [D.toPs, toPs_map ds]
mutual
theorem flat_lay : ∀ (d : D) (n : Nat), D.flat n d = true → (D.toP d).canLay0 = true ∧ (D.toP d).depth ≤ n
  | .non, n, _ => by simp [D.toP, PyData.canLay0, PyData.depth]
  | .bl _, n, _ => by simp [D.toP, PyData.canLay0, PyData.depth]
  | .int _, n, _ => by simp [D.toP, PyData.canLay0, PyData.depth]
  | .str x, n, h => by
    simp only [D.flat] at h
    simp [D.toP, PyData.canLay0, PyData.depth, h]
  | .lst xs, 0, h => by simp [D.flat] at h
  | .tup xs, 0, h => by simp [D.flat] at h
  | .lst xs, n + 1, h => by
    simp only [D.flat] at h
    obtain ⟨a, b⟩ := flat_lays xs n h
    simp only [D.toP, PyData.canLay0, PyData.depth]
    exact ⟨a, by omega⟩
  | .tup xs, n + 1, h => by
    simp only [D.flat] at h
    obtain ⟨a, b⟩ := flat_lays xs n h
    simp only [D.toP, PyData.canLay0, PyData.depth]
    exact ⟨a, by omega⟩
  | .scr _, n, h => by simp [D.flat] at h
  | .loc _, n, h => by simp [D.flat] at h
  | .dic _ _, n, h => by simp [D.flat] at h
theorem flat_lays : ∀ (ds : List D) (n : Nat), D.flatAll n ds = true → PyData.canLayAll0 (D.toPs ds) = true ∧ PyData.depthAll (D.toPs ds) ≤ n
  | [], n, _ => by simp [D.toPs, PyData.canLayAll0, PyData.depthAll]
  | d :: ds, n, h => by
    simp only [D.flatAll, Bool.and_eq_true] at h
    obtain ⟨a, b⟩ := flat_lay d n h.1
    obtain ⟨a', b'⟩ := flat_lays ds n h.2
    simp only [D.toPs, PyData.canLayAll0, PyData.depthAll, Bool.and_eq_true]
    exact ⟨⟨a, a'⟩, by omega⟩
end
theorem flat_shaped {d : D} {n : Nat} (h : D.flat n d = true) (hn : n ≤ 64) : SeqAt.shaped d.toP = true := by
  obtain ⟨a, b⟩ := flat_lay d n h
  show (d.toP.canLay0 && decide (d.toP.depth ≤ 64)) = true
  rw [Bool.and_eq_true]
  exact ⟨a, decide_eq_true (by omega)⟩
theorem flats_shaped {ds : List D} {n : Nat} (h : D.flatAll n ds = true) (hn : n < 64) : SeqAt.shaped (.list (D.toPs ds)) = true := by
  obtain ⟨a, b⟩ := flat_lays ds n h
  show (PyData.canLay0 (.list (D.toPs ds)) && decide (PyData.depth (.list (D.toPs ds)) ≤ 64)) = true
  rw [Bool.and_eq_true]
  simp only [PyData.canLay0, PyData.depth]
  exact ⟨a, decide_eq_true (by omega)⟩
mutual
theorem eqv_toP : ∀ (a b : D) (n m : Nat), D.flat n a = true → D.flat m b = true → PyData.eqv a.toP b.toP = D.eqv a b
  | .non, b, n, m, h, h' => by cases b <;> simp [D.toP, PyData.eqv, D.eqv, D.flat] at h' ⊢
  | .bl _, b, n, m, h, h' => by cases b <;> simp [D.toP, PyData.eqv, D.eqv, D.flat] at h' ⊢
  | .int _, b, n, m, h, h' => by cases b <;> simp [D.toP, PyData.eqv, D.eqv, D.flat] at h' ⊢
  | .str _, b, n, m, h, h' => by cases b <;> simp [D.toP, PyData.eqv, D.eqv, D.flat] at h' ⊢
  | .lst xs, b, 0, m, h, h' => by simp [D.flat] at h
  | .tup xs, b, 0, m, h, h' => by simp [D.flat] at h
  | .lst xs, .lst ys, n + 1, 0, h, h' => by simp [D.flat] at h'
  | .tup xs, .tup ys, n + 1, 0, h, h' => by simp [D.flat] at h'
  | .lst xs, .lst ys, n + 1, m + 1, h, h' => by
    simp only [D.flat] at h h'
    simp only [D.toP, PyData.eqv, D.eqv]
    exact eqvs_toP xs ys n m h h'
  | .tup xs, .tup ys, n + 1, m + 1, h, h' => by
    simp only [D.flat] at h h'
    simp only [D.toP, PyData.eqv, D.eqv]
    exact eqvs_toP xs ys n m h h'
  | .lst xs, .non, n + 1, m, h, h' => by simp [D.toP, PyData.eqv, D.eqv]
  | .lst xs, .bl _, n + 1, m, h, h' => by simp [D.toP, PyData.eqv, D.eqv]
  | .lst xs, .int _, n + 1, m, h, h' => by simp [D.toP, PyData.eqv, D.eqv]
  | .lst xs, .str _, n + 1, m, h, h' => by simp [D.toP, PyData.eqv, D.eqv]
  | .lst xs, .tup _, n + 1, m, h, h' => by simp [D.toP, PyData.eqv, D.eqv]
  | .lst xs, .scr _, n + 1, m, h, h' => by simp [D.flat] at h'
  | .lst xs, .loc _, n + 1, m, h, h' => by simp [D.flat] at h'
  | .lst xs, .dic _ _, n + 1, m, h, h' => by simp [D.flat] at h'
  | .tup xs, .non, n + 1, m, h, h' => by simp [D.toP, PyData.eqv, D.eqv]
  | .tup xs, .bl _, n + 1, m, h, h' => by simp [D.toP, PyData.eqv, D.eqv]
  | .tup xs, .int _, n + 1, m, h, h' => by simp [D.toP, PyData.eqv, D.eqv]
  | .tup xs, .str _, n + 1, m, h, h' => by simp [D.toP, PyData.eqv, D.eqv]
  | .tup xs, .lst _, n + 1, m, h, h' => by simp [D.toP, PyData.eqv, D.eqv]
  | .tup xs, .scr _, n + 1, m, h, h' => by simp [D.flat] at h'
  | .tup xs, .loc _, n + 1, m, h, h' => by simp [D.flat] at h'
  | .tup xs, .dic _ _, n + 1, m, h, h' => by simp [D.flat] at h'
  | .scr _, _, n, _, h, _ => by simp [D.flat] at h
  | .loc _, _, n, _, h, _ => by simp [D.flat] at h
  | .dic _ _, _, n, _, h, _ => by simp [D.flat] at h
theorem eqvs_toP : ∀ (xs ys : List D) (n m : Nat), D.flatAll n xs = true → D.flatAll m ys = true → PyData.eqvAll (D.toPs xs) (D.toPs ys) = D.eqvAll xs ys
  | [], [], n, m, _, _ => by simp [D.toPs, PyData.eqvAll, D.eqvAll]
  | [], _ :: _, n, m, _, _ => by simp [D.toPs, PyData.eqvAll, D.eqvAll]
  | _ :: _, [], n, m, _, _ => by simp [D.toPs, PyData.eqvAll, D.eqvAll]
  | x :: xs, y :: ys, n, m, h, h' => by
    simp only [D.flatAll, Bool.and_eq_true] at h h'
    simp only [D.toPs, PyData.eqvAll, D.eqvAll]
    rw [eqv_toP x y n m h.1 h'.1, eqvs_toP xs ys n m h.2 h'.2]
end
variable [Wd]
section
variable {K : PySem.W.Frag} {H : Hp} {ad : List Addr}
mutual
theorem Rp.dp : ∀ (d : D) (v : V) (n : Nat), D.flat n d = true → Rp K H ad v d → Dp K H v d.toP
  | .non, _, n, _, .non => by simp only [D.toP]; exact .non
  | .bl _, _, n, _, .bl _ => by simp only [D.toP]; exact .bl _
  | .int _, _, n, _, .int _ => by simp only [D.toP]; exact .int _
  | .str _, _, n, _, .str _ => by simp only [D.toP]; exact .str _
  | .lst _, _, 0, h, .lst _ _ => by simp [D.flat] at h
  | .tup _, _, 0, h, .tup _ _ => by simp [D.flat] at h
  | .lst ds, _, n + 1, h, .lst e r => by
    simp only [D.flat] at h
    simp only [D.toP]
    exact .lst (SqL.of e) (RpAll.dp ds _ n h r)
  | .tup ds, _, n + 1, h, .tup e r => by
    simp only [D.flat] at h
    simp only [D.toP]
    exact .tup e (RpAll.dp ds _ n h r)
  | .scr _, _, n, h, _ => by simp [D.flat] at h
  | .loc _, _, n, h, _ => by simp [D.flat] at h
  | .dic _ _, _, n, h, _ => by simp [D.flat] at h
theorem RpAll.dp : ∀ (ds : List D) (vs : List V) (n : Nat), D.flatAll n ds = true → RpAll K H ad vs ds → DpAll K H vs (D.toPs ds)
  | [], _, n, _, .nil => by simp only [D.toPs]; exact .nil
  | d :: ds, _, n, h, .cons q r => by
    simp only [D.flatAll, Bool.and_eq_true] at h
    simp only [D.toPs]
    exact .cons (Rp.dp d _ n h.1 q) (RpAll.dp ds _ n h.2 r)
end
end
theorem era_ex {hd ad : List Addr} {S : Store} {H : Hp} : Ex (era hd ad S H) H := fun _ _ h => era_of h
theorem Rp.up {K : PySem.W.Frag} {hd ad : List Addr} {S : Store} {H : Hp} {v : V} {d : D} (r : Rp K (era hd ad S H) ad v d) : Rp K H ad v d := r.mono era_ex (Pre.refl _)
theorem RpAll.up {K : PySem.W.Frag} {hd ad : List Addr} {S : Store} {H : Hp} {v : List V} {d : List D} (r : RpAll K (era hd ad S H) ad v d) : RpAll K H ad v d := r.mono era_ex (Pre.refl _)

/-! ### what a rule by values asks, for data -/
section
variable {K : PySem.W.Frag} {hd ad : List Addr} {S : Store} {H : Hp}
/-- a new list, a new tuple -/
theorem mk_lst (s : SR K hd ad S H) {p : Addr} {vs : List V} {ds : List D} (hp : H p = none) (r : RpAll K (era hd ad S H) ad vs ds) :
    Good K hd ad S H ad S (upd H p (.lst vs)) ∧ Rp K (era hd ad S (upd H p (.lst vs))) ad (.ref p) (.lst ds) :=
  ⟨s.new hp, .lst (s.new_at hp) (r.mono (s.new hp).ex (Pre.refl _))⟩
theorem mk_tup (s : SR K hd ad S H) {p : Addr} {vs : List V} {ds : List D} (hp : H p = none) (r : RpAll K (era hd ad S H) ad vs ds) :
    Good K hd ad S H ad S (upd H p (.tup vs)) ∧ Rp K (era hd ad S (upd H p (.tup vs))) ad (.ref p) (.tup ds) :=
  ⟨s.new hp, .tup (SqT.of (s.new_at hp)) (r.mono (s.new hp).ex (Pre.refl _))⟩
end
/-- two data in, one out -/
def rD2 (K : PySem.W.Frag) (f : D → D → Option D) : R2 := fun x y H Q => ∃ hd ad S d1 d2 d, SR K hd ad S H ∧ Rp K (era hd ad S H) ad x d1 ∧ Rp K (era hd ad S H) ad y d2 ∧ f d1 d2 = some d ∧
  ∀ v H', Good K hd ad S H ad S H' → Rp K (era hd ad S H') ad v d → Q v H'
theorem flat_rep {K : PySem.W.Frag} {H : Hp} {ad : List Addr} {vs : List V} {ds : List D} (r : RpAll K H ad vs ds) : ∀ n : Nat, RpAll K H ad (List.replicate n vs).flatten (List.replicate n ds).flatten
  | 0 => .nil
  | n + 1 => by
    rw [List.replicate_succ, List.replicate_succ, List.flatten_cons, List.flatten_cons]
    exact r.append (flat_rep r n)
section
variable {X : Cx}
theorem op_D (o : Operator) : OpR X (binaryOp o) (rD2 X.K (opD o)) := by
  intro pins s σ H x y v u Q I rx ry h
  obtain ⟨hd, ad, S, d1, d2, d, sr, r1, r2, e, q⟩ := h
  unfold opD at e
  split at e
  · -- + ints
    cases r1; cases r2; cases e
    exact op_add pins s σ H _ _ v u Q I rx ry ⟨_, _, rfl, rfl, q _ _ (Good.refl sr) (.int _)⟩
  · -- + lists
    split at e
    · rename_i hr
      cases r1 with | lst h1 a1 => cases r2 with | lst h2 a2 =>
      cases e
      refine op_cat pins s σ H _ _ v u Q I rx ry ⟨_, _, _, _, rfl, rfl, era_of h1, era_of h2, ?_, fun p hp => ?_⟩
      · rw [a1.length, a2.length]; exact sz_of hr
      · obtain ⟨g, r⟩ := mk_lst sr hp (a1.append a2)
        exact q _ _ g r
    · cases e
  · split at e
    · rename_i hr
      cases r1 with | tup h1 a1 => cases r2 with | tup h2 a2 =>
      cases e
      refine op_catA pins s σ H _ _ v u Q I rx ry ⟨_, _, _, _, rfl, rfl, ex_t era_ex h1, ex_t era_ex h2, ?_, fun e1 => ?_, fun e1 e2 => ?_, fun e1 e2 p hp => ?_⟩
      · rw [a1.length, a2.length]; exact sz_of hr
      · subst e1
        cases a1
        exact q _ _ (Good.refl sr) (.tup h2 a2)
      · subst e2
        cases a2
        rw [List.append_nil] at q
        exact q _ _ (Good.refl sr) (.tup h1 a1)
      · obtain ⟨g, r⟩ := mk_tup sr hp (a1.append a2)
        exact q _ _ g r
    · cases e
  · split at e
    · rename_i hr
      cases r1; cases r2; cases e
      exact op_add_str pins s σ H _ _ v u Q I rx ry ⟨_, _, rfl, rfl, sz_of hr, q _ _ (Good.refl sr) (.str _)⟩
    · cases e
  · cases r1; cases r2; cases e
    exact op_sub pins s σ H _ _ v u Q I rx ry ⟨_, _, rfl, rfl, q _ _ (Good.refl sr) (.int _)⟩
  · split at e
    · rename_i hr
      cases r1; cases r2; cases e
      rw [Bool.or_eq_true] at hr
      refine op_mul pins s σ H _ _ v u Q I rx ry ⟨_, _, rfl, rfl, ?_, q _ _ (Good.refl sr) (.int _)⟩
      rcases hr with hr | hr
      · exact .inl (small_iff hr)
      · exact .inr (small_iff hr)
    · cases e
  · split at e
    · rename_i hr
      simp only [Bool.and_eq_true, decide_eq_true_eq] at hr
      obtain ⟨⟨⟨_, h3⟩, h4⟩, h5⟩ := hr
      cases r1 with | lst h1 a1 =>
      cases r2; cases e
      refine op_rep pins s σ H _ _ v u Q I rx ry ⟨_, _, _, rfl, rfl, era_of h1, h3, h4, ?_, fun p hp => ?_⟩
      · rw [a1.length]; exact sz_of h5
      · obtain ⟨g, r⟩ := mk_lst sr hp (flat_rep a1 _)
        exact q _ _ g r
    · cases e
  · split at e
    · rename_i hr
      simp only [Bool.and_eq_true, decide_eq_true_eq] at hr
      cases r1; cases r2; cases e
      exact op_fdiv pins s σ H _ _ v u Q I rx ry ⟨_, _, rfl, rfl, hr, q _ _ (Good.refl sr) (.int _)⟩
    · cases e
  · split at e
    · rename_i hr
      simp only [decide_eq_true_eq] at hr
      cases r1; cases r2; cases e
      exact op_mod pins s σ H _ _ v u Q I rx ry ⟨_, _, rfl, rfl, hr, q _ _ (Good.refl sr) (.int _)⟩
    · cases e
  · split at e
    · rename_i hr
      simp only [Bool.and_eq_true, decide_eq_true_eq] at hr
      cases r1; cases r2; cases e
      have h1 := small_iff hr.1.1
      exact op_pow pins s σ H _ _ v u Q I rx ry ⟨_, _, rfl, rfl, ⟨hr.1.2, by omega, by omega⟩, q _ _ (Good.refl sr) (.int _)⟩
    · cases e
  · cases e
theorem any_toP {d : D} {n : Nat} (hd : D.flat n d = true) : ∀ (xs : List D) (m : Nat), D.flatAll m xs = true → ((D.toPs xs).any fun z => PyData.eqv z d.toP) = xs.any fun z => D.eqv z d
  | [], m, _ => by simp [D.toPs]
  | x :: xs, m, h => by
    simp only [D.flatAll, Bool.and_eq_true] at h
    simp only [D.toPs, List.any_cons]
    rw [eqv_toP x d m n h.1 hd, any_toP hd xs m h.2]
theorem strs_flat {K : PySem.W.Frag} {H : Hp} {ad : List Addr} {x : Str} : ∀ {vs : List V} {ds : List D}, RpAll K H ad vs ds → (ds.all fun | .str _ => true | _ => false) = true →
    vs.all flatV = true ∧ inV (.str x) vs = ds.any fun z => D.eqv z (.str x)
  | _, _, .nil, _ => ⟨rfl, rfl⟩
  | _, _, .cons q r, h => by
    rename_i v vs d ds
    rw [List.all_cons, Bool.and_eq_true] at h
    obtain ⟨h1, h2⟩ := h
    obtain ⟨a, b⟩ := strs_flat (x := x) r h2
    cases q with
    | str y =>
      refine ⟨by rw [List.all_cons, a]; rfl, ?_⟩
      unfold inV at b ⊢
      rw [List.any_cons, List.any_cons, b]
      simp only [eqV, D.eqv]
    | _ => cases h1
theorem cmp_D (hu : X.A.units + 65 < cLine) (o : CmpOp) : OpR X (compareOp o) (rD2 X.K fun a b => (cmpD o a b).map D.bl) := by
  intro pins s σ H x y v u Q I rx ry h
  obtain ⟨hd, ad, S, d1, d2, d, sr, r1, r2, e, q⟩ := h
  have hu' : X.A.units + 64 < cLine := by omega
  have fin : ∀ b : Bool, (some b).map D.bl = some d → Q (.bl b) H := fun b eb => by
    cases eb
    exact q _ _ (Good.refl sr) (.bl _)
  change Option.map D.bl (cmpD o d1 d2) = some d at e
  unfold cmpD at e
  split at e
  · cases r1; cases r2
    exact op_lt pins s σ H _ _ v u Q I rx ry ⟨_, _, rfl, rfl, fin _ e⟩
  · cases r1; cases r2
    exact op_le pins s σ H _ _ v u Q I rx ry ⟨_, _, rfl, rfl, fin _ e⟩
  · cases r1; cases r2
    exact op_gt pins s σ H _ _ v u Q I rx ry ⟨_, _, rfl, rfl, fin _ e⟩
  · cases r1; cases r2
    exact op_ge pins s σ H _ _ v u Q I rx ry ⟨_, _, rfl, rfl, fin _ e⟩
  · split at e
    · rename_i hr
      rw [Bool.and_eq_true] at hr
      refine op_eqD hu' pins s σ H _ _ v u Q I rx ry ⟨_, _, r1.up.dp _ _ _ hr.1, r2.up.dp _ _ _ hr.2, flat_shaped hr.1 (by decide), flat_shaped hr.2 (by decide), ?_⟩
      rw [eqv_toP _ _ _ _ hr.1 hr.2]
      exact fin _ e
    · cases e
  · split at e
    · rename_i hr
      rw [Bool.and_eq_true] at hr
      refine op_neD hu' pins s σ H _ _ v u Q I rx ry ⟨_, _, r1.up.dp _ _ _ hr.1, r2.up.dp _ _ _ hr.2, flat_shaped hr.1 (by decide), flat_shaped hr.2 (by decide), ?_⟩
      rw [eqv_toP _ _ _ _ hr.1 hr.2]
      exact fin _ e
    · cases e
  · split at e
    · rename_i hr
      rw [Bool.and_eq_true] at hr
      cases r2 with | lst h2 a2 =>
      refine op_inD hu pins s σ H _ _ v u Q I rx ry ⟨_, _, r1.up.dp _ _ _ hr.1, .lst (SqL.of (era_of h2)) (a2.up.dp _ _ _ hr.2), flat_shaped hr.1 (by decide), flats_shaped hr.2 (by decide), ?_⟩
      rw [any_toP hr.1 _ _ hr.2]
      exact fin _ e
    · cases e
  · split at e
    · rename_i hr
      rw [Bool.and_eq_true] at hr
      cases r2 with | lst h2 a2 =>
      refine op_notInD hu pins s σ H _ _ v u Q I rx ry ⟨_, _, r1.up.dp _ _ _ hr.1, .lst (SqL.of (era_of h2)) (a2.up.dp _ _ _ hr.2), flat_shaped hr.1 (by decide), flats_shaped hr.2 (by decide), ?_⟩
      rw [any_toP hr.1 _ _ hr.2]
      exact fin _ e
    · cases e
  · split at e
    · rename_i hr
      cases r1
      cases r2 with | tup h2 a2 =>
      refine op_notIn_seq pins s σ H _ _ v u Q I rx ry ⟨_, _, rfl, .inr (ex_t era_ex h2), rfl, (strs_flat (x := ⟨#[]⟩) a2 hr).1, ?_⟩
      rw [if_pos rfl, (strs_flat a2 hr).2]
      exact fin _ e
    · cases e
  · split at e
    · rename_i hr
      cases r1
      cases r2 with | tup h2 a2 =>
      refine op_in_seq pins s σ H _ _ v u Q I rx ry ⟨_, _, rfl, .inr (ex_t era_ex h2), rfl, (strs_flat (x := ⟨#[]⟩) a2 hr).1, ?_⟩
      rw [if_neg Bool.false_ne_true, (strs_flat a2 hr).2]
      exact fin _ e
    · cases e
  · cases r2
    refine op_isN pins s σ H _ _ v u Q I rx ry ⟨rfl, ?_⟩
    have := fin _ e
    cases r1 <;> simpa using this
  · cases r2
    refine op_notN pins s σ H _ _ v u Q I rx ry ⟨rfl, ?_⟩
    have := fin _ e
    cases r1 <;> simpa using this
  · cases e
end
end Wt
set_option maxRecDepth 100000
set_option maxHeartbeats 4000000
namespace Wt
open PySem L2
variable [Wd]
/-! ### subscripts, slices -/
def rIxD (K : PySem.W.Frag) : R2 := fun x y H Q => ∃ hd ad S d1 d2 d, SR K hd ad S H ∧ Rp K (era hd ad S H) ad x d1 ∧ Rp K (era hd ad S H) ad y d2 ∧ ixD d1 d2 S = some d ∧
  ∀ v, Rp K (era hd ad S H) ad v d → Q v H
section
variable {K : PySem.W.Frag} {H : Hp} {ad : List Addr}
theorem RpAll.atI {vs : List V} {ds : List D} {i : Int} {d : D} (r : RpAll K H ad vs ds) (h : L2.atI ds i = some d) : ∃ v, L2.atI vs i = some v ∧ Rp K H ad v d := by
  unfold L2.atI at h ⊢
  rw [r.length]
  cases e : ixN ds.length i with
  | none => rw [e] at h; cases h
  | some j =>
    rw [e] at h
    exact r.get h
theorem RpAll.cut' {vs : List V} {ds : List D} (r : RpAll K H ad vs ds) (lo hi : Option Int) : RpAll K H ad (cutV vs lo hi) (cutD ds lo hi) := by
  unfold cutV cutD
  rw [r.length]
  exact (r.drop _).take _
theorem atI_map {α β : Type} (f : α → β) (xs : List α) (i : Int) : L2.atI (xs.map f) i = (L2.atI xs i).map f := by
  unfold L2.atI
  rw [List.length_map]
  cases ixN xs.length i with
  | none => rfl
  | some j => simp
end
section
variable {X : Cx}
theorem kd_get' {pins : List (Addr × Obj)} {σ : L2.St} {H : Hp} {s : Shared} {E : Value → Shared → Prop} {A : Around} {a : Addr} {xs : List (Key × V)} {k : Key} {v : V} {u : Value} (I : Inv X pins σ H s) (e : Rd H a (.dK xs)) (ry : RelV (kV k) u) (l : valV xs k = some v) :
    ∃ w', RelV v w' ∧ ∀ {Q : Value → Shared → Prop}, (∀ s', Inv X pins σ H s' → Q w' s') → wpAny (model X.prog X.w) A (getItem (.ref a) u) Q E s := by
  obtain ⟨z, hd, vs, rel, dd⟩ := dk_rd I.hok e
  obtain ⟨w', hw, rw'⟩ := RelO.some_of (v := v) (o := valueAt vs k) (by rw [← l]; exact rel.val k)
  exact ⟨w', rw', fun {Q} h => wpAny_getItem_of (kV_is ry) dd.mapOf hw (h _ (I.tok _))⟩
/-- d[k] -/
theorem dv_get {pins : List (Addr × Obj)} {σ : L2.St} {H E0 : Hp} {s : Shared} {E : Value → Shared → Prop} {A : Around} {a : Addr} {ad : List Addr} {kvs : List (D × D)} {y : V} {u : Value} {kd d : D} (hw : X.w = Wd.w) (hu : A.units + 9 < cLine) (I : Inv X pins σ H s) (e : Ex E0 H) (dv : DV X.K E0 ad H a kvs)
    (rk : Rp X.K E0 ad y kd) (ry : RelV y u) (h : (lookD kvs kd).bind id = some d) : s.TypeIs (.ref a) "dict" ∧ ∃ v w', Rp X.K E0 ad v d ∧ RelV v w' ∧ ∀ {Q : Value → Shared → Prop}, (∀ s', Inv X pins σ H s' → Q w' s') → wpAny (model X.prog X.w) A (getItem (.ref a) u) Q E s := by
  obtain ⟨o, e1, e2⟩ := Option.bind_eq_some_iff.mp h
  have e2 : o = some d := e2
  subst e2
  rcases dv.look hw I e rk ry e1 with ⟨b, xs, q, rfl, rfl, n, kb, kd, r⟩ | ⟨xs, k, hx, rfl, r⟩
  · cases hq : dAt xs q with
    | none => rw [hq] at r; exact False.elim r
    | some v =>
      rw [hq] at r
      obtain ⟨w', rw', go⟩ := nd_get' (E := E) hu I n kb kd hq
      exact ⟨n.type, v, w', r, rw', go⟩
  · cases hq : valV xs k with
    | none => rw [hq] at r; exact False.elim r
    | some v =>
      rw [hq] at r
      obtain ⟨w', rw', go⟩ := kd_get' (E := E) (A := A) I hx ry hq
      obtain ⟨_, _, vs, rel, dd⟩ := dk_rd I.hok hx
      exact ⟨dd.typeIs, v, w', r, rw', go⟩
theorem ix_D (hw : X.w = Wd.w) (hu : X.A.units + 9 < cLine) : IxR X (rIxD X.K) := by
  intro value slice pins s σ H x y v u Q I rx ry h hs
  obtain ⟨hd, ad, S, d1, d2, d, sr, r1, r2, e, q⟩ := h
  have dic : ∀ {kvs : List (D × D)}, viewD S d1 = some kvs → (lookD kvs d2).bind id = some d → wpAny (model X.prog X.w) X.A (PyProof.Rows.subscriptTail value slice v u) (EP X pins σ Q) X.xe s := fun {kvs} hv hl => by
    obtain ⟨a, rfl, dv⟩ := dv_of sr r1 hv
    cases rx
    obtain ⟨ht, v0, w', r, rw', go⟩ := dv_get (E := X.xe) (A := X.A) hw hu I era_ex dv r2 ry hl
    exact PyProof.Rows.subscriptTail_builtinR (x := w') ht PySem.F.slot_dict_getitem.lookup (go fun s' I' => ⟨rfl, _, H, I', rw', q _ r⟩) hs
  unfold ixD at e
  split at e
  · cases r1 with | lst h1 a1 =>
    cases r2
    obtain ⟨w, e1, r⟩ := a1.atI e
    exact ix_list value slice pins s σ H _ _ v u Q I rx ry ⟨_, _, _, _, rfl, rfl, SqL.of (era_of h1), e1, q _ r⟩ hs
  · cases r1 with | tup h1 a1 =>
    cases r2
    obtain ⟨w, e1, r⟩ := a1.atI e
    exact ix_tup value slice pins s σ H _ _ v u Q I rx ry ⟨_, _, _, _, rfl, rfl, ex_t era_ex h1, e1, q _ r⟩ hs
  · cases r1 with | scr h1 =>
    cases r2
    obtain ⟨z, e2, rfl⟩ := Option.map_eq_some_iff.mp e
    exact ix_list value slice pins s σ H _ _ v u Q I rx ry ⟨_, _, _, _, rfl, rfl, ex_l era_ex h1, by rw [atI_map, e2]; rfl, q _ (.int _)⟩ hs
  · split at e
    · rename_i n k S' xs hS
      split at e
      · cases r1 with | loc h1 =>
        cases r2
        obtain ⟨vs, h3, h4⟩ := sr.ls _ _ _ h1 hS
        obtain ⟨w, e1, r⟩ := h4.atI e
        exact ix_list value slice pins s σ H _ _ v u Q I rx ry ⟨_, _, _, _, rfl, rfl, SqL.of h3, e1, q _ r⟩ hs
      · cases e
    · rename_i kvs hS
      exact dic (by simp only [viewD, hS]) e
    · cases e
  · exact dic rfl e
  · cases e
def rSlD (K : PySem.W.Frag) : V → Option Int → Option Int → Hp → VK → Prop := fun x lo hi H Q => ∃ hd ad S d d', SR K hd ad S H ∧ Rp K (era hd ad S H) ad x d ∧ slD d lo hi = some d' ∧
  ∀ v H', Good K hd ad S H ad S H' → Rp K (era hd ad S H') ad v d' → Q v H'
theorem sl_D : SlR X (rSlD X.K) := by
  intro pins s σ H x v vl vu lo hi sl Q I rx hs pl pu h
  obtain ⟨hd, ad, S, d, d', sr, r, e, q⟩ := h
  unfold slD at e
  split at e
  · cases e
    cases r with | lst h1 a1 =>
    refine sl_list pins s σ H _ v vl vu lo hi sl Q I rx hs pl pu ⟨_, _, rfl, SqL.of (era_of h1), fun p hp => ?_⟩
    obtain ⟨g, r⟩ := mk_lst sr hp (a1.cut' lo hi)
    exact q _ _ g r
  · cases e
    cases r with | tup h1 a1 =>
    refine sl_tupA pins s σ H _ v vl vu lo hi sl Q I rx hs pl pu ⟨_, _, rfl, ex_t era_ex h1, fun hw => ?_, fun hw p hp => ?_⟩
    · refine q _ _ (Good.refl sr) (.tup h1 ?_)
      have e1 := a1.length
      unfold cutD
      rw [← e1, hw.1, hw.2, e1]
      simpa using a1
    · obtain ⟨g, r⟩ := mk_tup sr hp (a1.cut' lo hi)
      exact q _ _ g r
  · cases e

/-! ### calls of built-ins -/
def rPrD (K : PySem.W.Frag) (p : Pr) : List V → Hp → VK → Prop := fun vs H Q => ∃ hd ad S ds d, SR K hd ad S H ∧ RpAll K (era hd ad S H) ad vs ds ∧ prD p ds S = some d ∧
  ∀ v H', Good K hd ad S H ad S H' → Rp K (era hd ad S H') ad v d → Q v H'
end
theorem strs_of : ∀ {ds : List D} {ss : List Str}, strsD ds = some ss → ds = ss.map D.str
  | [], ss, h => by
    simp only [strsD, Option.some.injEq] at h
    subst h
    rfl
  | d :: ds, ss, h => by
    cases d with
    | str x =>
      simp only [strsD] at h
      cases e : strsD ds with
      | none => rw [e] at h; cases h
      | some r =>
        rw [e] at h
        have h' : x :: r = ss := by simpa using h
        subst h'
        rw [List.map_cons, strs_of e]
    | _ => simp [strsD] at h
theorem bols_of : ∀ {ds : List D} {ss : List Bool}, bolsD ds = some ss → ds = ss.map D.bl
  | [], ss, h => by
    simp only [bolsD, Option.some.injEq] at h
    subst h
    rfl
  | d :: ds, ss, h => by
    cases d with
    | bl x =>
      simp only [bolsD] at h
      cases e : bolsD ds with
      | none => rw [e] at h; cases h
      | some r =>
        rw [e] at h
        have h' : x :: r = ss := by simpa using h
        subst h'
        rw [List.map_cons, bols_of e]
    | _ => simp [bolsD] at h
theorem RpAll.bols {K : PySem.W.Frag} {H : Hp} {ad : List Addr} : ∀ {vs : List V} {ns : List Bool}, RpAll K H ad vs (ns.map D.bl) → vs = ns.map V.bl
  | [], [], _ => rfl
  | _ :: _, _ :: _, .cons (.bl i) t => congrArg (V.bl i :: ·) (RpAll.bols t)
theorem ints_of : ∀ {ds : List D} {ss : List Int}, intsD ds = some ss → ds = ss.map D.int
  | [], ss, h => by
    simp only [intsD, Option.some.injEq] at h
    subst h
    rfl
  | d :: ds, ss, h => by
    cases d with
    | int x =>
      simp only [intsD] at h
      cases e : intsD ds with
      | none => rw [e] at h; cases h
      | some r =>
        rw [e] at h
        have h' : x :: r = ss := by simpa using h
        subst h'
        rw [List.map_cons, ints_of e]
    | _ => simp [intsD] at h

/-! ### the order of texts -/
theorem insS_perm (x : Str) : ∀ l : List Str, (insS x l).Perm (x :: l)
  | [] => List.Perm.refl _
  | y :: r => by
    unfold insS
    split
    · exact ((insS_perm x r).cons y).trans (List.Perm.swap x y r)
    · exact List.Perm.refl _
theorem sortS_perm : ∀ l : List Str, (sortS l).Perm l
  | [] => List.Perm.refl _
  | x :: r => (insS_perm x (sortS r)).trans ((sortS_perm r).cons x)
abbrev leS (x y : Str) : Prop := x.cps.toList ≤ y.cps.toList
theorem leS_of {x y : Str} (h : PySem.Spec.ltCps y.cps.toList x.cps.toList = false) : leS x y := by
  rw [PyProof.Rows.ltCps_eq] at h
  exact List.not_lt.mp (of_decide_eq_false h)
theorem leS_anti {x y : Str} (h : leS x y) (h' : leS y x) : x = y := by
  have e : x.cps.toList = y.cps.toList := List.le_antisymm h h'
  obtain ⟨a⟩ := x
  obtain ⟨b⟩ := y
  congr 1
  exact Array.ext' e
theorem leS_trans {x y z : Str} (h : leS x y) (h' : leS y z) : leS x z := List.le_trans h h'
theorem rising_all : ∀ (p : Str) (l : List Str), PyProof.Rows.risingS p l = true → (p :: l).Pairwise leS
  | p, [], _ => by simp
  | p, x :: r, h => by
    simp only [PyProof.Rows.risingS, Bool.and_eq_true, Bool.not_eq_true'] at h
    have hx := leS_of h.1
    have hr := rising_all x r h.2
    rw [List.pairwise_cons] at hr ⊢
    refine ⟨fun y hy => ?_, List.pairwise_cons.mpr hr⟩
    rcases List.mem_cons.mp hy with rfl | hy
    · exact hx
    · exact leS_trans hx (hr.1 y hy)
theorem sortedS_pair : ∀ l : List Str, PyProof.Rows.sortedS l = true → l.Pairwise leS
  | [], _ => .nil
  | x :: r, h => rising_all x r h
theorem insS_pair (x : Str) : ∀ l : List Str, l.Pairwise leS → (insS x l).Pairwise leS
  | [], _ => by simp [insS]
  | y :: r, h => by
    have h' := List.pairwise_cons.mp h
    unfold insS
    split
    · rename_i hl
      have hyx : leS y x := List.le_of_lt (of_decide_eq_true hl)
      refine List.pairwise_cons.mpr ⟨fun z hz => ?_, insS_pair x r h'.2⟩
      rcases List.mem_cons.mp ((insS_perm x r).mem_iff.mp hz) with rfl | hz
      · exact hyx
      · exact h'.1 z hz
    · rename_i hl
      have hxy : leS x y := List.not_lt.mp (of_decide_eq_false (by simpa [ltS] using hl))
      refine List.pairwise_cons.mpr ⟨fun z hz => ?_, h⟩
      rcases List.mem_cons.mp hz with rfl | hz
      · exact hxy
      · exact leS_trans hxy (h'.1 z hz)
theorem sortS_pair : ∀ l : List Str, (sortS l).Pairwise leS
  | [] => .nil
  | x :: r => insS_pair x _ (sortS_pair r)
theorem sortS_only {l m : List Str} (p : m.Perm l) (h : PyProof.Rows.sortedS m = true) : m = sortS l :=
  List.Perm.eq_of_pairwise (fun _ _ _ _ => leS_anti) (sortedS_pair m h) (sortS_pair l) (p.trans (sortS_perm l).symm)

/-- a frozen dict: its entries as the walks take them -/
def DE1 (K : PySem.W.Frag) (E : Hp) (ad : List Addr) (v : V) (ks ds : List D) : Prop := ∃ (a : Addr) (o : Obj) (u : HO) (kv : List (V × V)), v = .ref a ∧ E a = some (.frz o u) ∧
  Fz a o u kv ∧
  RpAll K E ad (kv.map (·.1)) ks ∧ RpAll K E ad (kv.map (·.2)) ds
theorem keyD_rp {K : PySem.W.Frag} {E : Hp} {ad : List Addr} : ∀ k : Key, Rp K E ad (kV k) (keyD k)
  | .inl i => .int i
  | .inr x => .str x
theorem dic_ents {K : PySem.W.Frag} {hd ad : List Addr} {S : Store} {H : Hp} {v : V} {ks ds : List D} (_ : SR K hd ad S H) (r : Rp K (era hd ad S H) ad v (.dic ks ds)) : DE1 K (era hd ad S H) ad v ks ds := by
  cases r with
  | @dcN a o xs _ _ h1 h0 h2 s1 s2 =>
    refine ⟨a, o, _, xs.map fun p => (.ref p.2.1, p.2.2), rfl, h1, fun X pins σ H s I h => ents_N I h, ?_, ?_⟩
    · rw [List.map_map]; exact s1
    · rw [List.map_map]; exact s2
  | @dcK a o xs _ _ h1 h2 s2 =>
    refine ⟨a, o, _, xs.map fun p => (kV p.1, p.2), rfl, h1, fun X pins σ H s I h => ents_K I h, ?_, ?_⟩
    · rw [List.map_map, h2]
      clear h1 h2 s2
      induction xs with
      | nil => exact .nil
      | cons p ps ih => exact .cons (keyD_rp p.1) ih
    · rw [List.map_map]; exact s2
theorem vals_by : ∀ {vs : List V} {us : List Value}, us.length = vs.length → (∀ (i : Nat) (v : V) (u : Value), vs[i]? = some v → us[i]? = some u → RelV v u) → Vals vs us
  | [], [], _, _ => .nil
  | v :: vs, u :: us, h, k => .cons (k 0 v u rfl rfl) (vals_by (by simpa using h) fun i v u h1 h2 => k (i + 1) v u (by simpa using h1) (by simpa using h2))
  | [], _ :: _, h, _ => by simp at h
  | _ :: _, [], h, _ => by simp at h
section
variable {X : Cx}
theorem dic_list {pins : List (Addr × Obj)} {σ : L2.St} {H : Hp} {s : Shared} {ad : List Addr} {x : V} {us : List Value} {ks ds : List D} {Q : VK} {hd : List Addr} {S : Store} (hc : X.calm = true) (I : Inv X pins σ H s) (r : Vals [x] us) (h : DE1 X.K (era hd ad S H) ad x ks ds) (hz : roomy ks.length = true)
    (q : ∀ (p : Addr) (vs : List V), H p = none → RpAll X.K (era hd ad S H) ad vs ks → Q (.ref p) (upd H p (.lst vs))) : wpAny (model X.prog X.w) X.A (call (.type "list") us) (EP X pins σ Q) X.xe s := by
  obtain ⟨a, o, u, kv, rfl, h1, h2, h3, h4⟩ := h
  obtain ⟨hs, hg, hx, es, ep, hod, hsz, hr⟩ := h2 X pins σ H s I (era_of h1)
  cases r with | cons r1 r2 =>
  cases r1
  cases r2
  have hl : ks.length = kv.length := by rw [← h3.length, List.length_map]
  refine PySem.W.kdl_call (PySem.KdlSrc.rawDict (ep := ep) hs) (I.ok.hd hc) ⟨o, hg, hx, hod⟩ (by rw [hsz, ← hl]; exact sz_of hz) fun h' tk acc c keep hS items => ?_
  refine ⟨.ref s.heap.objs.size, _, I.laid (t' := tk) (o := .lst (kv.map (·.1))) (fun b ob e => keep b ob e) (Nat.le_refl _) ⟨by rw [List.length_map, ← hl]; exact sz_of hz, acc.toList, c, ?_, by simpa using hS⟩, rfl, q _ _ (I.hok.fresh (Nat.le_refl _)) h3⟩
  refine vals_by (by rw [Array.length_toList, items.1, List.length_map, hsz]) fun i v w e1 e2 => ?_
  rw [List.getElem?_map] at e1
  obtain ⟨p, hp, rfl⟩ := Option.map_eq_some_iff.mp e1
  obtain ⟨hi, rfl⟩ := items.2 i w (by rw [← Array.getElem?_toList]; exact e2)
  exact (hr i hi p.1 p.2 hp).1
def Pr.fn : Pr → Value
  | .len => .builtin "len" | .int => .type "int" | .max => .builtin "max" | .min => .builtin "min" | .sorted => .builtin "sorted" | .sum => .builtin "sum"
  | .list => .type "list" | .tuple => .type "tuple" | .abs => .builtin "abs" | .any => .builtin "any"
theorem pr_D (hw : X.w = Wd.w) (hc : X.calm = true) (p : Pr) : CallR X p.fn (rPrD X.K p) := by
  intro pins s σ H vs us Q I r h
  obtain ⟨hd, ad, S, ds, d, sr, ra, e, q⟩ := h
  unfold prD at e
  split at e
  · cases e
    cases ra with | cons r1 ra => cases ra; cases r1 with | lst h1 a1 =>
    rw [← a1.length] at q
    exact call_len_seq pins s σ H _ us Q I r ⟨_, _, rfl, .inl (SqL.of (era_of h1)), q _ _ (Good.refl sr) (.int _)⟩
  · cases e
    cases ra with | cons r1 ra => cases ra; cases r1 with | tup h1 a1 =>
    rw [← a1.length] at q
    exact call_len_seq pins s σ H _ us Q I r ⟨_, _, rfl, .inr (ex_t era_ex h1), q _ _ (Good.refl sr) (.int _)⟩
  · cases e
    cases ra with | cons r1 ra => cases ra; cases r1 with | scr h1 =>
    refine call_len_seq pins s σ H _ us Q I r ⟨_, _, rfl, .inl (ex_l era_ex h1), ?_⟩
    rw [List.length_map]
    exact q _ _ (Good.refl sr) (.int _)
  · split at e
    · rename_i hr
      cases e
      cases ra with | cons r1 ra =>
      cases ra; cases r1
      exact call_len_str pins s σ H _ us Q I r ⟨_, rfl, sz_of hr, q _ _ (Good.refl sr) (.int _)⟩
    · cases e
  · split at e
    · rename_i hS
      cases e
      cases ra with | cons r1 ra => cases ra; cases r1 with | loc h1 =>
      obtain ⟨ws, h3, h4⟩ := sr.ls _ _ _ h1 hS
      rw [← h4.length] at q
      exact call_len_seq pins s σ H _ us Q I r ⟨_, _, rfl, .inl (SqL.of h3), q _ _ (Good.refl sr) (.int _)⟩
    · rename_i hS
      cases e
      cases ra with | cons r1 ra => cases ra; cases r1 with | loc h1 =>
      cases r with | cons r1 r2 =>
      cases r1
      cases r2
      rcases sr.ms _ _ _ h1 hS with ⟨xs, h3, _, h4⟩ | ⟨xs, h3, h4⟩
      · have hl := Paired.length h4
        exact nd_len I (atN hw I (.of h3) (dkeys_of era_ex h4)) fun t s' I' => ⟨.int (xs.length : Int), H, I', ⟨t, rfl⟩, by
          rw [hl]
          exact q _ _ (Good.refl sr) (.int _)⟩
      · have hl := Paired.length h4
        exact d_len I (.of h3) fun t s' I' => ⟨.int (xs.length : Int), H, I', ⟨t, rfl⟩, by
          rw [hl]
          exact q _ _ (Good.refl sr) (.int _)⟩
    · cases e
  · cases e
    cases ra with | cons r1 ra =>
    cases ra; cases r1
    exact call_int1 pins s σ H _ us Q I r (.inl ⟨_, rfl, q _ _ (Good.refl sr) (.int _)⟩)
  · cases e
    cases ra with | cons r1 ra =>
    cases ra; cases r1
    exact call_int1 pins s σ H _ us Q I r (.inr ⟨_, rfl, q _ _ (Good.refl sr) (.int _)⟩)
  · cases e
    cases ra with | cons r1 ra => cases ra with | cons r2 ra =>
    cases ra; cases r1; cases r2
    exact call_max2 hc pins s σ H _ us Q I r ⟨_, _, rfl, q _ _ (Good.refl sr) (.int _)⟩
  · cases e
    cases ra with | cons r1 ra => cases ra with | cons r2 ra =>
    cases ra; cases r1; cases r2
    exact call_min2 hc pins s σ H _ us Q I r ⟨_, _, rfl, q _ _ (Good.refl sr) (.int _)⟩
  · cases e
    cases ra with | cons r1 ra =>
    cases ra; cases r1
    exact call_abs pins s σ H _ us Q I r ⟨_, rfl, q _ _ (Good.refl sr) (.int _)⟩
  · obtain ⟨ss, es, e⟩ := Option.bind_eq_some_iff.mp e
    · split at e
      · rename_i h64
        cases e
        have h64 := of_decide_eq_true h64
        cases ra with | cons r1 ra => cases ra; cases r1 with | lst h1 a1 =>
        rw [strs_of es] at a1
        rw [a1.strs] at h1
        refine cr_sortedS pins s σ H _ us Q I r ⟨_, ss, rfl, SqL.of (era_of h1), h64, fun ys p hp hs hn => ?_⟩
        rw [sortS_only hp hs]
        obtain ⟨g, r⟩ := mk_lst sr hn (RpAll.of_strs (sortS ss))
        exact q _ _ g r
      · cases e
  · obtain ⟨ss, es, e⟩ := Option.map_eq_some_iff.mp e
    · cases e
      cases ra with | cons r1 ra => cases ra; cases r1 with | lst h1 a1 =>
      rw [ints_of es] at a1
      rw [a1.ints] at h1
      exact cr_sum hc pins s σ H _ us Q I r ⟨_, ss, rfl, SqL.of (era_of h1), q _ _ (Good.refl sr) (.int _)⟩
  · obtain ⟨ss, es, e⟩ := Option.map_eq_some_iff.mp e
    · cases e
      cases ra with | cons r1 ra => cases ra; cases r1 with | lst h1 a1 =>
      rw [bols_of es] at a1
      rw [a1.bols] at h1
      exact cr_any hc pins s σ H _ us Q I r ⟨_, ss, rfl, SqL.of (era_of h1), q _ _ (Good.refl sr) (.bl _)⟩
  · cases e
    cases ra with | cons r1 ra =>
    cases ra
    cases r with | cons r3 r4 =>
    cases r4
    cases r1 with
    | dcN h1 h0 h2 s1 s2 =>
      cases r3
      have hl : _ = _ := congrArg List.length h2
      rw [List.length_map, List.length_map] at hl
      refine nd_len I (atN hw I (.inr ⟨_, era_of h1⟩) (dkeys_of era_ex (zip_E h2 s1 s2))) fun t s' I' => ⟨.int _, H, I', ⟨t, rfl⟩, ?_⟩
      rw [← hl]
      exact q _ _ (Good.refl sr) (.int _)
    | dcK h1 h2 s2 =>
      cases r3
      have hl : _ = _ := congrArg List.length h2
      rw [List.length_map] at hl
      refine d_len I (.inr ⟨_, era_of h1⟩) fun t s' I' => ⟨.int _, H, I', ⟨t, rfl⟩, ?_⟩
      rw [← hl]
      exact q _ _ (Good.refl sr) (.int _)
  · split at e
    · rename_i hz
      cases e
      cases ra with | cons r1 ra =>
      cases ra
      exact dic_list hc I r (dic_ents sr r1) hz fun p vs hp rv => by
        obtain ⟨g, r⟩ := mk_lst sr hp rv
        exact q _ _ g r
    · cases e
  · cases e
    cases ra with | cons r1 ra => cases ra; cases r1 with | lst h1 a1 =>
    refine call_list_of pins s σ H _ us Q I r ⟨_, _, rfl, .inl (SqL.of (era_of h1)), fun p hp => ?_⟩
    obtain ⟨g, r⟩ := mk_lst sr hp a1
    exact q _ _ g r
  · cases e
    cases ra with | cons r1 ra => cases ra; cases r1 with | tup h1 a1 =>
    refine call_list_of pins s σ H _ us Q I r ⟨_, _, rfl, .inr (ex_t era_ex h1), fun p hp => ?_⟩
    obtain ⟨g, r⟩ := mk_lst sr hp a1
    exact q _ _ g r
  · cases e
    cases ra with | cons r1 ra => cases ra; cases r1 with | lst h1 a1 =>
    refine call_tuple_of pins s σ H _ us Q I r ⟨_, _, rfl, .inl ⟨SqL.of (era_of h1), fun p hp => ?_⟩⟩
    obtain ⟨g, r⟩ := mk_tup sr hp a1
    exact q _ _ g r
  · cases e
    cases ra with | cons r1 ra => cases ra; cases r1 with | tup h1 a1 =>
    exact call_tuple_of pins s σ H _ us Q I r ⟨_, _, rfl, .inr ⟨ex_t era_ex h1, q _ _ (Good.refl sr) (.tup h1 a1)⟩⟩
  · cases e
/-! ### isinstance -/
def D.tyN : D → Option String
  | .non => some "NoneType" | .bl _ => some "bool" | .int _ => some "int" | .str _ => some "str" | .lst _ => some "list" | .tup _ => some "tuple" | _ => none
theorem tyX_of {K : PySem.W.Frag} {H : Hp} {ad : List Addr} {v : V} {d : D} {n : String} (r : Rp K H ad v d) (e : d.tyN = some n) : TyX K H v (.type n) := by
  cases r with
  | non => cases e; exact .base .non
  | bl => cases e; exact .base (.bl _)
  | int => cases e; exact .base (.int _)
  | str => cases e; exact .base (.str _)
  | lst h _ => cases e; exact .base (.lst h)
  | tup h _ =>
    cases e
    rcases h with (h | ⟨o, h⟩) | ⟨o, its, n, h, hc, _⟩
    · exact .base (.tup h)
    · exact .fTuple h
    · exact .kTuple h hc
  | scr _ => cases e
  | loc _ => cases e
  | dcN _ _ _ _ _ => cases e
  | dcK _ _ _ => cases e
theorem tyD_kit {K : PySem.W.Frag} {t : Ty} {d : D} {b : Bool} (e : tyD t d = some b) : ∃ n, d.tyN = some n ∧ PySem.W.kitOne K (.type n) (.type t.name) = some b := by
  cases t <;> cases d <;> first
    | (simp only [tyD, Option.some.injEq] at e; subst e; exact ⟨_, rfl, kit_ty (by decide +kernel)⟩)
    | (simp [tyD] at e)
/-- isinstance(x, T) -/
def rIsiD (K : PySem.W.Frag) (t : Ty) : List V → Hp → VK → Prop := fun vs H Q => ∃ hd ad S x d b, vs = [x, .ty t.name] ∧ SR K hd ad S H ∧ Rp K (era hd ad S H) ad x d ∧ tyD t d = some b ∧ Q (.bl b) H
theorem isi_D (t : Ty) : CallR X (.builtin "isinstance") (rIsiD X.K t) := by
  intro pins s σ H vs us Q I r h
  obtain ⟨hd, ad, S, x, d, b, rfl, sr, rx, e, q⟩ := h
  obtain ⟨n, e1, e2⟩ := tyD_kit (K := X.K) e
  exact call_isi pins s σ H _ us Q I r ⟨x, .ty t.name, .type n, .type t.name, b, rfl, .ty _, tyX_of rx.up e1, e2, q⟩
theorem tyV_l (d : D) : ∀ (ts : List Ty) (b : Bool), tysD ts d = some b → ∃ n, (ts ≠ [] → d.tyN = some n) ∧ ∀ K, (ts ≠ [] → PySem.W.kitAny K (.type n) (ts.map fun t => Value.type t.name) = some b)
  | [], b, h => ⟨"", fun z => absurd rfl z, fun _ z => absurd rfl z⟩
  | t :: ts, b, h => by
    simp only [tysD] at h
    cases e1 : tyD t d with
    | none => rw [e1] at h; simp at h
    | some a =>
      cases e2 : tysD ts d with
      | none => rw [e1, e2] at h; simp at h
      | some c =>
        rw [e1, e2] at h
        have hb : (a || c) = b := by simpa using h
        subst hb
        obtain ⟨n', h1, h2⟩ := tyV_l d ts c e2
        cases hn : d.tyN with
        | none =>
          obtain ⟨n, q, _⟩ := tyD_kit (K := default) e1
          rw [hn] at q
          cases q
        | some n =>
          refine ⟨n, fun _ => rfl, fun K _ => ?_⟩
          obtain ⟨n2, q, q2⟩ := tyD_kit (K := K) e1
          rw [hn] at q
          cases q
          rw [List.map_cons]
          refine kitAny_cons q2 (fun ha => ?_) (fun ha => by rw [ha]; rfl)
          subst ha
          by_cases ht : ts = []
          · subst ht
            simp only [tysD, Option.some.injEq] at e2
            subst e2
            exact kitAny_nil
          · have := h1 ht
            rw [hn] at this
            cases this
            simpa using h2 K ht
/-- isinstance(x, (T, ..)) -/
def rIsiTD (K : PySem.W.Frag) (ts : List Ty) : List V → Hp → VK → Prop := fun vs H Q => ∃ hd ad S x d b p, vs = [x, .ref p] ∧ H p = some (.tup (ts.map fun t => V.ty t.name)) ∧ ts ≠ [] ∧ SR K hd ad S H ∧ Rp K (era hd ad S H) ad x d ∧ tysD ts d = some b ∧ Q (.bl b) H
theorem clsv : ∀ ts : List Ty, Paired ClsV (ts.map fun t => V.ty t.name) (ts.map fun t => Value.type t.name)
  | [] => .nil
  | t :: ts => .cons (.ty _) (clsv ts)
theorem isiT_D (ts : List Ty) : CallR X (.builtin "isinstance") (rIsiTD X.K ts) := by
  intro pins s σ H vs us Q I r h
  obtain ⟨hd, ad, S, x, d, b, p, rfl, hp, ht, sr, rx, e, q⟩ := h
  obtain ⟨n, e1, e2⟩ := tyV_l d ts b e
  exact call_isiT pins s σ H _ us Q I r ⟨x, p, _, .type n, _, b, rfl, hp, clsv ts, tyX_of rx.up (e1 ht), e2 X.K ht, q⟩
/-! ### append -/
def rAppD (K : PySem.W.Frag) : V → List V → Hp → VK → Prop := fun x vs H Q => ∃ hd ad S n xs y d, SR K hd ad S H ∧ vs = [y] ∧ Rp K (era hd ad S H) ad x (.loc n) ∧ Rp K (era hd ad S H) ad y d ∧ S[n]? = some (some (M.ls xs)) ∧ roomy xs.length = true ∧
  ∀ H', Good K hd ad S H ad (S.set n (some (.ls (xs ++ [d])))) H' → Q .non H'
theorem app_D : MtM X "list.append" (rAppD X.K) := by
  intro pins s σ H x vs v us Q I rx rv h
  obtain ⟨hd, ad, S, n, xs, y, d, sr, rfl, r1, r2, hS, hr, q⟩ := h
  cases r1 with | loc h1 =>
  obtain ⟨ws, h3, h4⟩ := sr.ls _ _ _ h1 hS
  refine mt_append pins s σ H _ _ v us Q I rx rv ⟨_, ws, y, rfl, rfl, h3, by rw [h4.length]; exact sz_lt hr, ?_⟩
  exact q _ (sr.write h1 hS (h4.append (.cons r2 .nil)))
def rPopD (K : PySem.W.Frag) : V → List V → Hp → VK → Prop := fun x vs H Q => ∃ hd ad S n xs d, SR K hd ad S H ∧ vs = [] ∧ Rp K (era hd ad S H) ad x (.loc n) ∧ S[n]? = some (some (M.ls xs)) ∧ xs[xs.length - 1]? = some d ∧
  ∀ v H', Good K hd ad S H ad (S.set n (some (.ls xs.dropLast))) H' → Rp K (era hd ad (S.set n (some (.ls xs.dropLast))) H') ad v d → Q v H'
theorem RpAll.dropLast {K : PySem.W.Frag} {H : Hp} {ad : List Addr} {vs : List V} {ds : List D} (r : RpAll K H ad vs ds) : RpAll K H ad vs.dropLast ds.dropLast := by
  rw [List.dropLast_eq_take, List.dropLast_eq_take, r.length]
  exact r.take _
theorem pop_D : MtM X "list.pop" (rPopD X.K) := by
  intro pins s σ H x vs v us Q I rx rv h
  obtain ⟨hd, ad, S, n, xs, d, sr, rfl, r1, hS, hl, q⟩ := h
  cases r1 with | loc h1 =>
  obtain ⟨ws, h3, h4⟩ := sr.ls _ _ _ h1 hS
  obtain ⟨w, hw, rw'⟩ := h4.get hl
  refine mt_pop pins s σ H _ _ v us Q I rx rv ⟨_, ws, w, rfl, rfl, h3, by rw [h4.length]; exact hw, ?_⟩
  have g := sr.write h1 hS h4.dropLast
  exact q _ _ g (rw'.mono g.ex g.pre)
def rNempD (K : PySem.W.Frag) : R2 := fun x y H Q => ∃ hd ad S n xs, SR K hd ad S H ∧ Rp K (era hd ad S H) ad x (.loc n) ∧ Rp K (era hd ad S H) ad y (.lst []) ∧ S[n]? = some (some (M.ls xs)) ∧ D.flatAll 59 xs = true ∧ Q (.bl (!xs.isEmpty)) H
theorem nemp_D (hu : X.A.units + 65 < cLine) : OpR X (compareOp .NotEq) (rNempD X.K) := by
  intro pins s σ H x y v u Q I rx ry h
  obtain ⟨hd, ad, S, n, xs, sr, r1, r2, hS, hf, q⟩ := h
  cases r1 with | loc h1 =>
  obtain ⟨ws, h3, h4⟩ := sr.ls _ _ _ h1 hS
  have f2 : D.flat 60 (.lst []) = true := rfl
  refine op_neD (by omega) pins s σ H _ _ v u Q I rx ry ⟨_, _, .lst (SqL.of h3) (h4.up.dp _ _ _ hf), r2.up.dp _ _ _ f2, flats_shaped hf (by decide), flat_shaped f2 (by decide), ?_⟩
  have e : PyData.eqv (.list (D.toPs xs)) (D.toP (.lst [])) = xs.isEmpty := by
    cases xs with
    | nil => simp [D.toPs, D.toP, PyData.eqv, PyData.eqvAll]
    | cons _ _ => simp [D.toPs, D.toP, PyData.eqv, PyData.eqvAll]
  rw [e]
  exact q
end
end Wt
set_option maxRecDepth 100000
set_option maxHeartbeats 1000000
/-! Is a key in a dict? What stands at it, or something else? -/
namespace Wt
open PySem L2
variable [Wd]
def rDin (K : PySem.W.Frag) (neg : Bool) : R2 := fun x y H Q => ∃ (hd ad : List Addr) (S : Store) (d1 d2 : D) (kvs : List (D × D)) (r : Option D), SR K hd ad S H ∧ Rp K (era hd ad S H) ad x d1 ∧ Rp K (era hd ad S H) ad y d2 ∧ viewD S d2 = some kvs ∧ lookD kvs d1 = some r ∧
  Q (.bl (neg != r.isSome)) H
theorem din_D {X : Cx} (hw : X.w = Wd.w) (hu : X.A.units + 9 < cLine) (neg : Bool) : OpR X (compareOp (if neg = true then .NotIn else .In)) (rDin X.K neg) := by
  intro pins s σ H x y v u Q I rx ry h
  obtain ⟨hd, ad, S, d1, d2, kvs, r, sr, r1, r2, hv, hl, fin⟩ := h
  obtain ⟨a, rfl, dv⟩ := dv_of sr r2 hv
  cases ry
  rcases dv.look hw I era_ex r1 rx hl with ⟨b, xs, q, rfl, rfl, n, kb, kd, o⟩ | ⟨xs, k, hx, rfl, o⟩
  · rw [← o.isSome] at fin
    cases neg
    · exact nd_in hu I n kb kd fun s' I' => ⟨.bl (dAt xs q).isSome, H, I', rfl, by simpa using fin⟩
    · exact nd_notIn hu I n kb kd fun s' I' => ⟨.bl (!(dAt xs q).isSome), H, I', rfl, by simpa using fin⟩
  · rw [← o.isSome] at fin
    cases neg
    · exact d_in (by omega) I (.inl ⟨xs, k, hx, rfl, rfl⟩) rx fun s' I' => ⟨.bl (valV xs k).isSome, H, I', rfl, by simpa using fin⟩
    · exact d_notIn (by omega) I (.inl ⟨xs, k, hx, rfl, rfl⟩) rx fun s' I' => ⟨.bl (!(valV xs k).isSome), H, I', rfl, by simpa using fin⟩
theorem ORel.getD {K : PySem.W.Frag} {E : Hp} {ad : List Addr} {v : V} {x : D} (rv : Rp K E ad v x) : ∀ {o : Option V} {r : Option D}, ORel K E ad o r → Rp K E ad (o.getD v) (r.getD x)
  | some _, some _, h => h
  | none, none, _ => rv
/-- d.get(k) and d.get(k, x), behind the look at what d is -/
theorem dv_get1 {X : Cx} {pins : List (Addr × Obj)} {σ : L2.St} {H E0 : Hp} {s : Shared} {E : Value → Shared → Prop} {A : Around} {a : Addr} {ad : List Addr} {kvs : List (D × D)} {y : V} {u : Value} {kd : D} {r : Option D} {Q : Value → Shared → Prop} (hw : X.w = Wd.w) (hu : A.units + 9 < cLine)
    (I : Inv X pins σ H s) (e : Ex E0 H) (dv : DV X.K E0 ad H a kvs) (rk : Rp X.K E0 ad y kd) (ry : RelV y u) (h : lookD kvs kd = some r) (q : ∀ v w' s', Inv X pins σ H s' → RelV v w' → Rp X.K E0 ad v (r.getD .non) → Q w' s') : wpAny (model X.prog X.w) A (call (.builtin "dict.get") [.ref a, u]) Q E s := by
  rcases dv.look hw I e rk ry h with ⟨b, xs, k, rfl, rfl, n, kb, kd, o⟩ | ⟨xs, k, hx, rfl, o⟩
  · exact nd_get1 hu I n kb kd fun w' s' I' rv => q _ w' s' I' rv (o.getD .non)
  · exact d_get1 (by omega) I (.inl ⟨xs, k, hx, rfl, rfl⟩) ry fun w' s' I' rv => q _ w' s' I' rv (o.getD .non)
theorem dv_get2 {X : Cx} {pins : List (Addr × Obj)} {σ : L2.St} {H E0 : Hp} {s : Shared} {E : Value → Shared → Prop} {A : Around} {a : Addr} {ad : List Addr} {kvs : List (D × D)} {y z : V} {u w : Value} {kd x : D} {r : Option D} {Q : Value → Shared → Prop} (hw : X.w = Wd.w) (hu : A.units + 9 < cLine)
    (I : Inv X pins σ H s) (e : Ex E0 H) (dv : DV X.K E0 ad H a kvs) (rk : Rp X.K E0 ad y kd) (ry : RelV y u) (rx : Rp X.K E0 ad z x) (rz : RelV z w) (h : lookD kvs kd = some r) (q : ∀ v w' s', Inv X pins σ H s' → RelV v w' → Rp X.K E0 ad v (r.getD x) → Q w' s') : wpAny (model X.prog X.w) A (call (.builtin "dict.get") [.ref a, u, w]) Q E s := by
  rcases dv.look hw I e rk ry h with ⟨b, xs, k, rfl, rfl, n, kb, kd, o⟩ | ⟨xs, k, hx, rfl, o⟩
  · exact nd_get2 hu I n kb kd rz fun w' s' I' rv => q _ w' s' I' rv (o.getD rx)
  · exact d_get2 (by omega) I (.inl ⟨xs, k, hx, rfl, rfl⟩) ry rz fun w' s' I' rv => q _ w' s' I' rv (o.getD rx)
theorem dv_type {X : Cx} {pins : List (Addr × Obj)} {σ : L2.St} {H E0 : Hp} {s : Shared} {a : Addr} {ad : List Addr} {kvs : List (D × D)} (hw : X.w = Wd.w) (I : Inv X pins σ H s) (e : Ex E0 H) (dv : DV X.K E0 ad H a kvs) : s.TypeIs (.ref a) "dict" ∧ ∀ b, Value.ref a = .ref b → ∃ ob, s.heap.get? b = some ob ∧ ob.dict = none := by
  rcases dv with ⟨xs, hx, h0, p⟩ | ⟨xs, hx, p⟩
  · obtain ⟨_, _, ys, _, dd⟩ := atN hw I hx (dkeys_of e p)
    obtain ⟨o, es, ep, h1, h2, _⟩ := dd
    exact ⟨⟨o, h1, h2.1⟩, fun b z => by cases z; exact ⟨o, h1, h2.2.1⟩⟩
  · obtain ⟨_, _, ys, _, dd⟩ := dk_rd I.hok hx
    obtain ⟨o, es, ep, h1, h2, _⟩ := dd
    exact ⟨⟨o, h1, h2.1⟩, fun b z => by cases z; exact ⟨o, h1, h2.2.1⟩⟩
end Wt
set_option maxRecDepth 100000
set_option maxHeartbeats 4000000
/-! The look at a text: is the small syntax that of the def? -/
namespace Wt
open PySem L2

mutual
def D.same : D → D → Bool
  | .non, .non => true
  | .bl a, .bl b => a == b
  | .int a, .int b => a == b
  | .str a, .str b => decide (a = b)
  | .tup xs, .tup ys => D.sameAll xs ys
  | _, _ => false
def D.sameAll : List D → List D → Bool
  | [], [] => true
  | x :: xs, y :: ys => D.same x y && D.sameAll xs ys
  | _, _ => false
end
mutual
theorem D.same_eq : ∀ a b : D, D.same a b = true → a = b
  | .non, b, h => by cases b <;> simp [D.same] at h ⊢
  | .bl a, b, h => by cases b <;> simp [D.same] at h ⊢; exact h
  | .int a, b, h => by cases b <;> simp [D.same] at h ⊢; exact h
  | .str a, b, h => by cases b <;> simp [D.same] at h ⊢; exact h
  | .tup xs, b, h => by
    cases b with
    | tup ys => simp only [D.same] at h; rw [D.sameAll_eq xs ys h]
    | _ => simp [D.same] at h
  | .lst _, b, h => by cases b <;> simp [D.same] at h
  | .scr _, b, h => by cases b <;> simp [D.same] at h
  | .loc _, b, h => by cases b <;> simp [D.same] at h
  | .dic _ _, b, h => by cases b <;> simp [D.same] at h
theorem D.sameAll_eq : ∀ a b : List D, D.sameAll a b = true → a = b
  | [], b, h => by cases b <;> simp [D.sameAll] at h ⊢
  | x :: xs, b, h => by
    cases b with
    | nil => simp [D.sameAll] at h
    | cons y ys =>
      simp only [D.sameAll, Bool.and_eq_true] at h
      rw [D.same_eq x y h.1, D.sameAll_eq xs ys h.2]
end

/-- a frame: its names by slots, its scope, which names' cells are its own -/
structure Cc where
  N : List Str
  sc : Scope
  fn : Str → Bool
/-- the module: numbers of defs, constants, numbers of classes of errors -/
structure Gc where
  fns : List (Str × Nat)
  gls : List (Str × D)
  exs : List (Str × Nat)

def Cc.vis (C : Cc) (x : Str) : Bool := match C.sc.names.lookup x with
  | some .local => true
  | some .cell => true
  | some .free => true
  | _ => false
def Cc.loc (C : Cc) (x : Str) : Bool := match C.sc.names.lookup x with
  | some .local => true
  | some .cell => C.fn x
  | _ => false
def Cc.lcl (C : Cc) (x : Str) : Bool := match C.sc.names.lookup x with
  | some .local => true
  | _ => false
def Cc.glb (C : Cc) (x : Str) : Bool := match C.sc.names.lookup x with
  | some .globalImplicit => true
  | _ => false
def okN (x : Str) : Bool := !(x == ("__debug__" : Str)) && !(x == ("__classdict__" : Str)) && decide (x ≠ "__name__")
def noStar : Expr → Bool
  | .Starred .. => false
  | _ => true
def noIf : Expr → Bool
  | .IfExp .. => false
  | _ => true
def noComp : Expr → Bool
  | .ListComp .. => false
  | .SetComp .. => false
  | .DictComp .. => false
  | _ => true
def noSlice : Expr → Bool
  | .Slice .. => false
  | _ => true
/-- no call: nothing of super is met -/
def noCall : Expr → Bool
  | .Call (.Name _ _) (_ :: _) _ _ => true
  | .Call .. => false
  | _ => true
def noSet : Expr → Bool
  | .Set .. => false
  | _ => true
def Pr.name : Pr → Str
  | .len => "len" | .int => "int" | .max => "max" | .min => "min" | .sorted => "sorted" | .sum => "sum" | .list => "list" | .tuple => "tuple" | .abs => "abs" | .any => "any"
/-- the built-in names that the module leaves alone -/
def blNames : List Str := ["len", "int", "max", "min", "sorted", "sum", "list", "tuple", "abs", "isinstance", "bool", "str", "range", "zip", "any", "set", "dict"]
def Ty.nm : Ty → Str
  | .int => "int" | .bool => "bool" | .str => "str" | .tuple => "tuple" | .list => "list"

mutual
def chkT (C : Cc) : Expr → Tg → Bool
  | .Name x _, .nm i => decide (C.N[i]? = some x) && C.loc x
  | .Tuple ts _ _, .tup gs => chkTs C ts gs
  | _, _ => false
def chkTs (C : Cc) : List Expr → List Tg → Bool
  | [], [] => true
  | t :: ts, g :: gs => noStar t && chkT C t g && chkTs C ts gs
  | _, _ => false
end
mutual
def Tg.slots : Tg → List Nat
  | .nm i => [i]
  | .tup ts => Tg.slotsAll ts
def Tg.slotsAll : List Tg → List Nat
  | [] => []
  | t :: ts => Tg.slots t ++ Tg.slotsAll ts
end
def ownL (N : List Str) (own : List Nat) : List (Str × Nat) := own.filterMap fun i => (N[i]?).map fun x => (x, i)
def Cc.blk (C : Cc) (scope : Scope) : Cc := ⟨C.N, relS scope C.sc, fun x => scope.names.lookup x == some .cell⟩
/-- a built-in's name, unbound in the module -/
def Cc.bln (C : Cc) (x y : Str) : Bool := decide (x = y) && C.glb y && blNames.contains y

section
variable (G : Gc)
def chkTy (C : Cc) : List Expr → List Ty → Bool
  | [], [] => true
  | .Name x _ :: es, t :: ts => C.bln x t.nm && chkTy C es ts
  | _, _ => false
mutual
def chkE : Nat → Cc → Expr → E → Bool
  | 0, _, _, _ => false
  | n + 1, C, x, e => match e, x with
    | .fz a, x => chkE n C x a
    | .var i, .Name id _ => decide (C.N[i]? = some id) && C.vis id && okN id
    | .k d, .Name id _ => (match G.gls.lookup id with
      | some d' => D.same d' d
      | none => false) && C.glb id && okN id
    | .k (.int z), .Constant (.int w) _ _ => decide (w = z)
    | .k (.bl z), .Constant (.bool w) _ _ => decide (w = z)
    | .k (.str z), .Constant (.str w) _ _ => decide (w = z)
    | .k .non, .Constant .none _ _ => true
    | .tup is, .Tuple es _ _ => chkEs n C es is && roomy es.length
    | .lst is, .List es _ => chkEs n C es is && roomy es.length
    | .new is, .List es _ => chkEs n C es is && roomy es.length
    | .op o i j, .BinOp a p b _ => decide (o = p) && chkE n C a i && chkE n C b j
    | .neg i, .UnaryOp .USub a _ => chkE n C a i
    | .not i, .UnaryOp .Not a _ => chkE n C a i && noIf a
    | .cmp o i j, .Compare a [p] [b] _ => decide (o = p) && chkE n C a i && chkE n C b j && !behindInMarks p b
    | .chain o p i j l, .Compare a [o', p'] [b, c] _ => decide (o = o') && decide (p = p') && chkE n C a i && chkE n C b j && chkE n C c l && !lastMarks [o', p'] [b, c]
    | i, .BoolOp _ [a] _ => chkE n C a i && noIf a
    | .and i j, .BoolOp .And (a :: b :: r) p => chkE n C a i && noIf a && chkE n C (.BoolOp .And (b :: r) p) j
    | .or i j, .BoolOp .Or (a :: b :: r) p => chkE n C a i && noIf a && chkE n C (.BoolOp .Or (b :: r) p) j
    | .ite i j l, .IfExp c a b _ => chkE n C c i && noIf c && chkE n C a j && chkE n C b l
    | .sl i j l, .Subscript a (.Slice lo hi none _) _ => chkE n C a i && chkO n C lo j && chkO n C hi l
    | .rev i, .Subscript a (.Slice none none (some (.UnaryOp .USub (.Constant (.int 1) _ _) _)) _) _ => chkE n C a i
    | .ix i j, .Subscript a b _ => chkE n C a i && chkE n C b j && noSlice b
    | .isi ts i, .Call (.Name f _) [a, t] [] _ => C.bln f "isinstance" && chkE n C a i && noStar a && (match ts, t with
      | [ty], .Name x _ => C.bln x ty.nm
      | ts, .Tuple es _ _ => chkTy C es ts && !ts.isEmpty && roomy ts.length
      | _, _ => false)
    | .prim p is, .Call (.Name f _) (a :: es) [] _ => C.bln f p.name && chkEs n C (a :: es) is
    | .call m is, .Call (.Name f _) es [] _ => decide (G.fns.lookup f = some m) && C.glb f && okN f && chkEs n C es is
    | .meth .append i [j], .Call (.Attribute o id ap) [a] [] cp => decide (id = "append") && chkE n C o i && chkE n C a j && noStar a && noCall o && (ap.endLine == cp.line)
    | .toll i, .Call (.Attribute (.Dict [some (.Constant (.str k1) _ _), some (.Constant (.str k2) _ _)] [.Constant (.int 1) _ _, .Constant (.int 2) _ _] _) id ap) [a, .Constant (.int 0) _ _] [] cp =>
      decide (id = "get") && decide (k1 = "cheap") && decide (k2 = "dear") && chkE n C a i && noStar a && (ap.endLine == cp.line)
    | .lc ie g it is c own, .ListComp elt [⟨tg, iter, ifs, 0⟩] scope _ =>
      chkI n C tg iter it is && noSet iter && blkC C.N C.sc scope (ownL C.N own) && decide ((ownL C.N own).map (·.2) = own) && chkT (C.blk scope) tg g && (g.slots.all fun i => own.contains i)
        && chkE n (C.blk scope) elt ie && (match ifs, c with
        | [], .k (.bl true) => true
        | [t], c => chkE n (C.blk scope) t c && noIf t
        | _, _ => false)
    | .din neg i j, .Compare a [p] [b] _ => decide (p = (if neg = true then .NotIn else .In)) && chkE n C a i && chkE n C b j && !behindInMarks (if neg = true then .NotIn else .In) b
    | .nemp i, .Compare a [.NotEq] [.List [] _] _ => chkE n C a i
    | .meth .pop i [], .Call (.Attribute o id ap) [] [] cp => decide (id = "pop") && chkE n C o i && noCall o && (ap.endLine == cp.line)
    | .dic0, .Dict [] [] _ => true
    | .dcopy i, .Call (.Name f _) [a] [] _ => C.bln f "dict" && chkE n C a i && noStar a
    | .dpairs i, .Call (.Name f _) [a] [] _ => C.bln f "dict" && chkE n C a i && noStar a
    | .maxv i, .Call (.Name f _) [.Call (.Attribute o id ap) [] [] cp] [] _ => C.bln f "max" && decide (id = "values") && chkE n C o i && noCall o && (ap.endLine == cp.line)
    | .sset i, .Call (.Name f _) [.Call (.Name g _) [a] [] _] [] _ => C.bln f "sorted" && C.bln g "set" && chkE n C a i && noStar a
    | .dzero i ia, .DictComp (.Name y _) (.Constant (.int 0) _ _) [⟨.Name x p, iter, [], 0⟩] scope _ =>
      chkE n C iter ia && noSet iter && blkC C.N C.sc scope (ownL C.N [i]) && decide ((ownL C.N [i]).map (·.2) = [i]) && chkT (C.blk scope) (.Name x p) (.nm i) && decide (C.N[i]? = some y) && (C.blk scope).vis y && okN y
    | .dic1 i j, .Dict [some a] [b] _ => chkE n C a i && chkE n C b j
    | .get1 i j, .Call (.Attribute o id ap) [a] [] cp => decide (id = "get") && chkE n C o i && chkE n C a j && noStar a && noCall o && (ap.endLine == cp.line)
    | .get2 i j l, .Call (.Attribute o id ap) [a, b] [] cp => decide (id = "get") && chkE n C o i && chkE n C a j && chkE n C b l && noStar a && noStar b && noCall o && (ap.endLine == cp.line)
    | _, _ => false
def chkEs : Nat → Cc → List Expr → List E → Bool
  | 0, _, _, _ => false
  | _ + 1, _, [], [] => true
  | n + 1, C, x :: xs, e :: es => noStar x && chkE n C x e && chkEs n C xs es
  | _, _, _, _ => false
def chkO : Nat → Cc → Option Expr → E → Bool
  | 0, _, _, _ => false
  | _ + 1, _, none, .k .non => true
  | n + 1, C, some x, e => chkE n C x e && !isNon e
  | _, _, _, _ => false
/-- what is walked: (target, iterable) -/
def chkI : Nat → Cc → Expr → Expr → It → List E → Bool
  | 0, _, _, _, _, _ => false
  | n + 1, C, _, .Call (.Name f _) [a] [] _, .rng, [i] => C.bln f "range" && chkE n C a i && noStar a
  | n + 1, C, _, .Call (.Name f _) [a, b] [] _, .rng, [i, j] => C.bln f "range" && chkE n C a i && chkE n C b j && noStar a && noStar b
  | n + 1, C, .Tuple _ _ _, .Call (.Name f _) [a, b] [] _, .zip, [i, j] => C.bln f "zip" && chkE n C a i && chkE n C b j && noStar a && noStar b
  | n + 1, C, _, .Call (.Attribute o id ap) [] [] cp, .vals, [i] => decide (id = "values") && chkE n C o i && noCall o && (ap.endLine == cp.line)
  | n + 1, C, .Tuple _ _ _, .Call (.Attribute o id ap) [] [] cp, .items, [i] => decide (id = "items") && chkE n C o i && noCall o && (ap.endLine == cp.line)
  | n + 1, C, _, x, .dat, [i] => chkE n C x i
  | _, _, _, _, _, _ => false
end
end
end Wt
set_option maxRecDepth 100000
set_option maxHeartbeats 8000000
/-! What the small syntax yields is what the text yields: expressions. -/
namespace Wt
open PySem L2
variable [Wd]

/-- table of defs, depth of calls, classes of errors, the wish about errors -/
structure Rt where
  T : Nat → Option Df
  k : Nat
  xv : Nat → Value
  W : XK
def PX (K : PySem.W.Frag) (xv : Nat → Value) (W : XK) (hd ad : List Addr) (S : Store) (H : Hp) (x : Xn) : Prop := match x.by_ with
  | none => W (xv x.c) none H
  | some d => ∀ dx v, era hd ad S H dx = some (.xd [("line", v)]) → Rp K (era hd ad S H) ad v d → W (xv x.c) (some dx) H
def Post (K : PySem.W.Frag) (xv : Nat → Value) (W : XK) (hd : List Addr) {α β : Type} (rel : Hp → List Addr → β → α → Prop) (ad : List Addr) (S : Store) (H : Hp) (o : Out α) (Q : β → Hp → Prop) : Prop := match o with
  | .ok a S' => ∀ b ad' H', Good K hd ad S H ad' S' H' → rel (era hd ad' S' H') ad' b a → Q b H'
  | .ex x S' => ∀ ad' H', Good K hd ad S H ad' S' H' → PX K xv W hd ad' S' H' x
  | .no => False
section
variable {K : PySem.W.Frag} {xv : Nat → Value} {W : XK} {hd ad ad1 : List Addr} {S S1 : Store} {H H1 : Hp} {α β γ δ : Type} {rel : Hp → List Addr → β → α → Prop} {rel2 : Hp → List Addr → δ → γ → Prop} {Q : β → Hp → Prop} {Q2 : δ → Hp → Prop}
theorem Post.mono {o : Out α} (h : Post K xv W hd rel ad S H o Q) (g : Good K hd ad S H ad1 S1 H1) : Post K xv W hd rel ad1 S1 H1 o Q := by
  cases o with
  | ok a S' => exact fun b ad' H' g' r => h b ad' H' (g.trans g') r
  | ex x S' => exact fun ad' H' g' => h ad' H' (g.trans g')
  | no => exact h
theorem Post.bind {o : Out α} {f : α → Store → Out γ} (h : Post K xv W hd rel2 ad S H (o.bind f) Q2)
    (k : ∀ a S1 b ad1 H1, Good K hd ad S H ad1 S1 H1 → rel (era hd ad1 S1 H1) ad1 b a → Post K xv W hd rel2 ad1 S1 H1 (f a S1) Q2 → Q b H1) : Post K xv W hd rel ad S H o Q := by
  cases o with
  | ok a S' => exact fun b ad' H' g' r => k a S' b ad' H' g' r (Post.mono (o := f a S') h g')
  | ex x S' => exact h
  | no => exact h
theorem Post.bindE {o : Out α} {f : α → Store → Out γ} (h : Post K xv W hd rel2 ad S H (o.bind f) Q2)
    (k : ∀ a S1 b ad1 H1, o = .ok a S1 → Good K hd ad S H ad1 S1 H1 → rel (era hd ad1 S1 H1) ad1 b a → Post K xv W hd rel2 ad1 S1 H1 (f a S1) Q2 → Q b H1) : Post K xv W hd rel ad S H o Q := by
  cases o with
  | ok a S' => exact fun b ad' H' g' r => k a S' b ad' H' rfl g' r (Post.mono (o := f a S') h g')
  | ex x S' => exact h
  | no => exact h
theorem Post.imp {o : Out α} {Q' : β → Hp → Prop} (h : Post K xv W hd rel ad S H o Q)
    (k : ∀ a S1 b ad1 H1, o = .ok a S1 → Good K hd ad S H ad1 S1 H1 → rel (era hd ad1 S1 H1) ad1 b a → Q b H1 → Q' b H1) : Post K xv W hd rel ad S H o Q' := by
  cases o with
  | ok a S' => exact fun b ad' H' g' r => k a S' b ad' H' rfl g' r (h b ad' H' g' r)
  | ex x S' => exact h
  | no => exact h
end

/-- the slots -/
def ER (K : PySem.W.Frag) (Hb : Hp) (ad : List Addr) (σ : L2.St) (ρ : Slots) : Prop :=
  σ.length = ρ.length ∧ ∀ (i : Nat) (d : D), ρ[i]? = some (some d) → ∃ v, σ[i]? = some (some v) ∧ Rp K Hb ad v d
section
variable {K : PySem.W.Frag} {hd ad ad1 : List Addr} {S S1 : Store} {H H1 : Hp} {σ : L2.St} {ρ : Slots}
theorem ER.mono {Hb Hb' : Hp} (e : ER K Hb ad σ ρ) (x : Ex Hb Hb') (p : Pre ad ad1) : ER K Hb' ad1 σ ρ := ⟨e.1, fun i d h => by
  obtain ⟨v, h1, h2⟩ := e.2 i d h
  exact ⟨v, h1, h2.mono x p⟩⟩
theorem ER.go (e : ER K (era hd ad S H) ad σ ρ) (g : Good K hd ad S H ad1 S1 H1) : ER K (era hd ad1 S1 H1) ad1 σ ρ := e.mono g.ex g.pre
theorem ER.set {Hb : Hp} {v : V} {d : D} (e : ER K Hb ad σ ρ) (i : Nat) (r : Rp K Hb ad v d) : ER K Hb ad (σ.set i (some v)) (ρ.set i (some d)) := by
  refine ⟨by simp [e.1], fun j d' h => ?_⟩
  by_cases q : i = j
  · subst q
    by_cases hi : i < ρ.length
    · rw [List.getElem?_set_self hi] at h
      cases h
      exact ⟨v, by rw [List.getElem?_set_self (by rw [e.1]; exact hi)], r⟩
    · rw [List.getElem?_eq_none (by simpa using hi)] at h
      cases h
  · rw [List.getElem?_set_ne q] at h
    obtain ⟨u, h1, h2⟩ := e.2 j d' h
    exact ⟨u, by rw [List.getElem?_set_ne q]; exact h1, h2⟩
theorem ER.wipe {Hb : Hp} (e : ER K Hb ad σ ρ) : ∀ vs : List Nat, ER K Hb ad (wipe σ vs) (wipeE ρ vs)
  | [] => e
  | v :: vs => by
    have ih := ER.wipe e vs
    refine ⟨by simp [L2.wipe, wipeE, ih.1], fun j d' h => ?_⟩
    unfold wipeE at h
    by_cases q : v = j
    · subst q
      by_cases hi : v < (wipeE ρ vs).length
      · rw [List.getElem?_set_self hi] at h
        cases h
      · rw [List.getElem?_eq_none (by simpa using hi)] at h
        cases h
    · rw [List.getElem?_set_ne q] at h
      obtain ⟨u, h1, h2⟩ := ih.2 j d' h
      exact ⟨u, by unfold L2.wipe; rw [List.getElem?_set_ne q]; exact h1, h2⟩
end

/-! ### the readings -/
def relB : Hp → List Addr → Bool → Bool → Prop := fun _ _ b a => b = a
def tE (K : PySem.W.Frag) (R : Rt) (i : E) : TE := fun σ H Q => ∃ hd ad S ρ, SR K hd ad S H ∧ ER K (era hd ad S H) ad σ ρ ∧ Post K R.xv R.W hd (Rp K) ad S H (ev (callF R.T R.k) i ρ S) Q
def tT (K : PySem.W.Frag) (R : Rt) (i : E) : TT := fun σ H Q => ∃ hd ad S ρ, SR K hd ad S H ∧ ER K (era hd ad S H) ad σ ρ ∧ Post K R.xv R.W hd relB ad S H (asB (ev (callF R.T R.k) i ρ S)) Q
def tA (K : PySem.W.Frag) (R : Rt) (is : List E) : TA := fun σ H Q => ∃ hd ad S ρ, SR K hd ad S H ∧ ER K (era hd ad S H) ad σ ρ ∧ Post K R.xv R.W hd (RpAll K) ad S H (evs (callF R.T R.k) is ρ S) Q
/-- an iterator gives the items -/
def ItOk (K : PySem.W.Frag) (Hb : Hp) (ad : List Addr) (J : L2.It) (items : List D) : Prop := ∃ (G : Hp → Prop) (Y : Nat → Hp → V → Hp → Prop), Walk J items.length G Y ∧
  (∀ H', Ex Hb H' → G H') ∧
  ∀ i H1 x H2, Y i H1 x H2 → Ex Hb H1 → ∃ d, items[i]? = some d ∧
    ∀ hd1 ad1 S1, SR K hd1 ad1 S1 H1 → Ex Hb (era hd1 ad1 S1 H1) → Pre ad ad1 → Good K hd1 ad1 S1 H1 ad1 S1 H2 ∧ Rp K (era hd1 ad1 S1 H2) ad1 x d
def itO (F : Nat → List D → Store → Out D) (it : Wt.It) (is : List E) (ρ : Slots) (S : Store) : Out (List D) := (evs F is ρ S).bind fun ds S1 => lift (itD it ds) S1
def tI (K : PySem.W.Frag) (R : Rt) (it : Wt.It) (is : List E) : TI := fun σ H Q => ∃ hd ad S ρ, SR K hd ad S H ∧ ER K (era hd ad S H) ad σ ρ ∧
  Post K R.xv R.W hd (ItOk K) ad S H (itO (callF R.T R.k) it is ρ S) Q
def tG (K : PySem.W.Frag) (g : Tg) : TG := fun v σ H Q => ∃ hd ad S ρ d ρ', SR K hd ad S H ∧ ER K (era hd ad S H) ad σ ρ ∧ Rp K (era hd ad S H) ad v d ∧ bindT g d ρ = some ρ' ∧
  ∀ σ', ER K (era hd ad S H) ad σ' ρ' → (∀ i, i ∉ g.slots → σ'[i]? = σ[i]?) → Q σ' H
def tGs (K : PySem.W.Frag) (g : List Tg) : TGs := fun vs σ H Q => ∃ hd ad S ρ ds ρ', SR K hd ad S H ∧ ER K (era hd ad S H) ad σ ρ ∧ RpAll K (era hd ad S H) ad vs ds ∧ bindTs g ds ρ = some ρ' ∧
  ∀ σ', ER K (era hd ad S H) ad σ' ρ' → (∀ i, i ∉ Tg.slotsAll g → σ'[i]? = σ[i]?) → Q σ' H

/-- a call's promise -/
def spI (K : PySem.W.Frag) (T : Nat → Option Df) (xv : Nat → Value) (k f : Nat) : Sp := fun vs H Q W => ∃ hd ad S ds, SR K hd ad S H ∧ RpAll K (era hd ad S H) ad vs ds ∧ Post K xv W hd (Rp K) ad S H (callF T k f ds S) Q

/-- a frame as the look takes it -/
structure Cok (X : Cx) (R : Rt) (C : Cc) : Prop where
  sc : X.env.scope = C.sc
  N : X.N = C.N
  nd : C.N.Nodup
  fn : X.fn = C.fn
  calm : X.calm = true
  room : Room R.k X.A
  tk : Takes X (fun c d _ H => R.W c d H)
  own : PassesOwn (model X.prog X.w) X.A X.env X.xe
  wd : X.w = Wd.w
/-- the module as the look takes it -/
structure GOk (K : PySem.W.Frag) (P : Program) (w : World) (mg : Str → Option Value) (base : Heap) (T : Nat → Option Df) (k : Nat) (xv : Nat → Value) (G : Gc) : Prop where
  fns : ∀ x f, G.fns.lookup x = some f → ∃ a fd ps, mg x = some (.ref a) ∧ PySem.W.keepIn K (.ref a) = true ∧ Binds K fd ps [] ∧ FnOk P w K mg base (L2.CX P w) k a fd ps (spI K T xv k f)
  gls : ∀ x d, G.gls.lookup x = some d → ∃ u v, mg x = some u ∧ RelV v u ∧ ∀ H ad, Rp K H ad v d
  bls : ∀ x ∈ blNames, mg x = none
  exs : ∀ x c, G.exs.lookup x = some c → ∃ (B newId initId : String) (bmB : List Value) (C : Addr), PySem.ExcBaseFacts B newId initId bmB ∧ PySem.W.excIn K C bmB newId = true ∧ mg x = some (.ref C) ∧ PySem.W.keepIn K (.ref C) = true ∧
    PySem.W.subIn K (.ref C) (.type "BaseException") = some true ∧ PySem.W.typeIn K (.ref C) = some (.type "type") ∧ xv c = .ref C
abbrev XOk (X : Cx) (R : Rt) (G : Gc) : Prop := GOk X.K X.prog X.w X.mg X.base R.T R.k R.xv G

theorem _root_.L2.PE.imp {X : Cx} {e : Expr} {t t' : TE} (h : PE X e t) (k : ∀ σ H Q, t' σ H Q → t σ H Q) : PE X e t' := ⟨fun pins s σ H Q I q => h.run pins s σ H Q I (k σ H Q q)⟩
theorem _root_.L2.PT.imp {X : Cx} {e : Expr} {t t' : TT} (h : PT X e t) (k : ∀ σ H Q, t' σ H Q → t σ H Q) : PT X e t' := ⟨fun pins s σ H Q I q => h.run pins s σ H Q I (k σ H Q q)⟩
theorem _root_.L2.PW.imp {X : Cx} {e : Expr} {t t' : TT} (h : PW X e t) (k : ∀ σ H Q, t' σ H Q → t σ H Q) : PW X e t' := ⟨fun wh pins s σ H Q I q => h.run wh pins s σ H Q I (k σ H Q q)⟩
theorem _root_.L2.PA.imp {X : Cx} {e : List Expr} {t t' : TA} (h : PA X e t) (k : ∀ σ H Q, t' σ H Q → t σ H Q) : PA X e t' := ⟨fun pos pins s σ H Q I q => h.run pos pins s σ H Q I (k σ H Q q)⟩
theorem _root_.L2.PI.imp {X : Cx} {tg e : Expr} {t t' : TI} (h : PI X tg e t) (k : ∀ σ H Q, t' σ H Q → t σ H Q) : PI X tg e t' := ⟨fun pins s σ H Q I q => h.run pins s σ H Q I (k σ H Q q)⟩

def PTW (X : Cx) (x : Expr) (t : TT) : Prop := match x with
  | .BoolOp _ _ _ => PW X x t
  | .IfExp _ _ _ _ => True
  | _ => PT X x t
theorem PTW.pt {X : Cx} {x : Expr} {t : TT} (h : PTW X x t) (hn : noIf x = true) : PT X x t := by
  cases x <;> first
    | exact h
    | exact PW.pt h
    | cases hn

section
variable {K : PySem.W.Frag} {R : Rt} {σ : L2.St} {H : Hp}
theorem asB_bind {α : Type} (o : Out α) (f : α → Store → Out D) : asB (o.bind f) = o.bind fun a S => asB (f a S) := by
  cases o <;> rfl
theorem Post.ofB {xv : Nat → Value} {W : XK} {hd ad : List Addr} {S : Store} {o : Out D} {Q : Bool → Hp → Prop} (h : Post K xv W hd relB ad S H (asB o) Q) : Post K xv W hd (Rp K) ad S H o fun x H' => ∃ k, x = .bl k ∧ Q k H' := by
  cases o with
  | ok d S' =>
    cases d with
    | bl b =>
      intro v ad' H' g r
      cases r
      exact ⟨b, rfl, h b ad' H' g rfl⟩
    | _ => exact False.elim h
  | ex x S' => exact h
  | no => exact h
theorem tT_tE {i : E} {Q : Bool → Hp → Prop} (h : tT K R i σ H Q) : tE K R i σ H fun x H' => ∃ k, x = .bl k ∧ Q k H' := by
  obtain ⟨hd, ad, S, ρ, sr, er, p⟩ := h
  exact ⟨hd, ad, S, ρ, sr, er, p.ofB⟩
end

/-! ### small facts of the text -/
theorem star_cons {e : Expr} {es : List Expr} {env : PySem.Env} (h : noStar e = true) : starEach (e :: es) env = (false, eval e env) :: starEach es env := by
  cases e <;> first
    | rfl
    | cases h
theorem star_any {env : PySem.Env} {pos : Pos} : ∀ {es : List Expr}, (∀ e ∈ es, noStar e = true) → (backTo pos (starEach es env)).any (·.1) = false
  | [], _ => rfl
  | e :: es, h => by
    rw [star_cons (h e List.mem_cons_self)]
    show (false || (backTo pos (starEach es env)).any (·.1)) = false
    rw [star_any fun e he => h e (List.mem_cons_of_mem _ he)]
    rfl
theorem plainIx {b : Expr} (h : noSlice b = true) : PlainIx b := by
  cases b <;> first
    | exact fun _ _ => rfl
    | cases h
section
variable {X : Cx} {R : Rt} {C : Cc}
theorem Cok.vis (c : Cok X R C) {x : Str} (h : C.vis x = true) : Vis X.env.scope x := by
  rw [c.sc]
  unfold Cc.vis at h
  unfold Vis
  split at h
  · rename_i e; exact .inl e
  · rename_i e; exact .inr (.inl e)
  · rename_i e; exact .inr (.inr e)
  · cases h
theorem Cok.glb (c : Cok X R C) {x : Str} (h : C.glb x = true) : Gl X x := by
  unfold Gl
  show X.env.scope.names.lookup x = some .globalImplicit
  rw [c.sc]
  unfold Cc.glb at h
  split at h
  · assumption
  · cases h
theorem okN_1 {x : Str} (h : okN x = true) : (x == ("__debug__" : Str)) = false := by
  unfold okN at h
  simp only [Bool.and_eq_true, Bool.not_eq_true'] at h
  exact h.1.1
theorem okN_2 {x : Str} (h : okN x = true) : (x == ("__classdict__" : Str)) = false := by
  unfold okN at h
  simp only [Bool.and_eq_true, Bool.not_eq_true'] at h
  exact h.1.2
theorem okN_3 {x : Str} (h : okN x = true) : x ≠ "__name__" := by
  unfold okN at h
  simp only [Bool.and_eq_true] at h
  exact of_decide_eq_true h.2
theorem Cok.bln (c : Cok X R C) {G : Gc} (g : XOk X R G) {x y : Str} (h : C.bln x y = true) : x = y ∧ Gl X y ∧ X.mg y = none := by
  unfold Cc.bln at h
  simp only [Bool.and_eq_true] at h
  exact ⟨of_decide_eq_true h.1.1, c.glb h.1.2, g.bls y (by simpa using h.2)⟩
end
theorem pr_boot (p : Pr) : bootBuiltins p.name = some p.fn := by cases p <;> decide +kernel
theorem pr_ok (p : Pr) : p.name ≠ "__name__" ∧ (p.name == ("__debug__" : Str)) = false := by cases p <;> decide +kernel
theorem ty_boot (p : Ty) : bootBuiltins p.nm = some (.type p.name) := by cases p <;> decide +kernel
theorem ty_ok (p : Ty) : p.nm ≠ "__name__" ∧ (p.nm == ("__debug__" : Str)) = false := by cases p <;> decide +kernel
section
variable {X : Cx} {x : Str} {p pos : Pos} {e : Expr} {es : List Expr} {t : TA} {f : Value} {r : List V → Hp → VK → Prop}
theorem pe_callP {q : Pr} (hc : CallR X q.fn r) (hg : Gl X q.name) (hm : X.mg q.name = none) (ha : PA X (e :: es) t)
    (he : starEach (e :: es) X.env = (false, eval e X.env) :: starEach es X.env) (hpl : (backTo pos (starEach es X.env)).any (·.1) = false) : PE X (.Call (.Name q.name p) (e :: es) [] pos) (tCB r t) := by
  have hb := pr_boot q
  have ho := pr_ok q
  cases q <;> first
    | exact pe_callB hc hg hm hb ha ho.1 ho.2 he hpl
    | exact pe_callTy hc hg hm hb ha ho.1 ho.2 he hpl
end

/-! ### what is walked -/
section
variable {X : Cx} {tg : Expr}
def iSq (K : PySem.W.Frag) (tl : TE) : TI := fun σ H R => tl σ H fun x H1 => ∃ a, x = .ref a ∧ ((∃ xs, SqL K H1 a xs ∧ R (Itl K a) H1) ∨ (∃ xs, SqT K H1 a xs ∧ R (Itt K a) H1) ∨ ∃ o u kv, Fz a o u kv ∧ H1 a = some (.frz o u) ∧ R (WkK a o kv) H1)
theorem pi_sq {l : Expr} {tl : TE} (hl : PE X l tl) : PI X tg l (iSq X.K tl) := by
  refine ⟨fun pins s σ H R I h => ?_⟩
  refine thn (hl.run pins s σ H _ I h) fun v s1 ⟨x, H1, I1, r1, q1⟩ => ?_
  obtain ⟨a, e, q1⟩ := q1
  subst e
  cases r1
  have ff : ∀ b, b = s1.heap.objs.size → FpOk X pins H1 b := fun b hb => by
    subst hb
    exact I1.fpOk (Nat.le_refl _) (I1.hok.fresh (Nat.le_refl _))
  rcases q1 with ⟨xs, hq, q⟩ | ⟨xs, hq, q⟩ | ⟨o, u, kv, fz, hq, q⟩
  · obtain ⟨its, rv, p, hz⟩ := I1.list hq
    refine wpAny_pyIter_list p.isList ?_
    exact ⟨s1.heap.objs.size, [s1.heap.objs.size], _, _, H1, rfl, I1.kept (t' := s1.toks) fun b o e => Heap.get?_push_of_some _ e, turn_list a _, ⟨_, Heap.get?_push_size _ rfl, rfl, rfl⟩, fun b hb => ff b (by simpa using hb), q⟩
  · obtain ⟨its, rv, p, hz⟩ := I1.tuple hq
    refine wpAny_pyIter_tuple (show s1.heap.IsTuple a its.toArray from p) ?_
    exact ⟨s1.heap.objs.size, [s1.heap.objs.size], _, _, H1, rfl, I1.kept (t' := s1.toks) fun b o e => Heap.get?_push_of_some _ e, turn_tuple a _, ⟨_, Heap.get?_push_size _ rfl, rfl, rfl⟩, fun b hb => ff b (by simpa using hb), q⟩
  · obtain ⟨hs, hg, hx, es, ep, hod, hz, hr⟩ := fz X pins σ H1 s1 I1 hq
    exact wpAny_pyIter_dict_raw hs ⟨o, hg, hx, hod⟩ (pi_one (tk := s1.toks) I1 _ (turn_WkK _ hx hod hz hr) ⟨_, Heap.get?_push_size _ rfl, rfl, rfl⟩ q)
end
section
variable {K : PySem.W.Frag} {Hb : Hp} {ad : List Addr}
theorem it_list {a : Addr} {vs : List V} {ds : List D} (h : Hb a = some (.lst vs)) (r : RpAll K Hb ad vs ds) : ItOk K Hb ad (Itl K a) ds := by
  refine ⟨_, _, by rw [← r.length]; exact walk_list (xs := vs), fun H' e => SqL.of (e _ _ h), fun i H1 x H2 y e => ?_⟩
  obtain ⟨rfl, hx⟩ := y
  obtain ⟨d, hdd, rd⟩ := r.get' hx
  exact ⟨d, hdd, fun hd1 ad1 S1 sr ex pre => ⟨Good.refl sr, rd.mono ex pre⟩⟩
theorem it_tup {a : Addr} {vs : List V} {ds : List D} (h : SqT K Hb a vs) (r : RpAll K Hb ad vs ds) : ItOk K Hb ad (Itt K a) ds := by
  refine ⟨_, _, by rw [← r.length]; exact walk_tup (xs := vs), fun H' e => ex_t e h, fun i H1 x H2 y e => ?_⟩
  obtain ⟨rfl, hx⟩ := y
  obtain ⟨d, hdd, rd⟩ := r.get' hx
  exact ⟨d, hdd, fun hd1 ad1 S1 sr ex pre => ⟨Good.refl sr, rd.mono ex pre⟩⟩
theorem it_scr {a : Addr} {ns : List Int} (h : SqL K Hb a (ns.map V.int)) : ItOk K Hb ad (Itl K a) (ns.map D.int) := by
  refine ⟨_, _, by rw [List.length_map, ← List.length_map (f := V.int)]; exact walk_list (xs := ns.map V.int), fun H' e => ex_l e h, fun i H1 x H2 y e => ?_⟩
  obtain ⟨rfl, hx⟩ := y
  rw [List.getElem?_map] at hx
  cases q : ns[i]? with
  | none => rw [q] at hx; cases hx
  | some z =>
    rw [q] at hx
    cases hx
    exact ⟨.int z, by rw [List.getElem?_map, q]; rfl, fun hd1 ad1 S1 sr ex pre => ⟨Good.refl sr, .int z⟩⟩
theorem it_rng {lo : Int} {n : Nat} : ItOk K Hb ad (Itr lo n) (rngD lo n) := by
  refine ⟨_, _, by unfold rngD; rw [List.length_map, List.length_range]; exact (walk_range (lo := lo) (n := n)).mono (G' := fun _ => True) (Y' := fun i H x H' => H' = H ∧ x = .int (lo + i) ∧ i < n) (fun _ _ => True.intro) (fun i H x H' hi _ y => ⟨y.1, y.2, hi⟩), fun H' e => True.intro, fun i H1 x H2 y e => ?_⟩
  obtain ⟨rfl, rfl, hi⟩ := y
  exact ⟨.int (lo + i), by unfold rngD; rw [List.getElem?_map, List.getElem?_range hi]; rfl, fun hd1 ad1 S1 sr ex pre => ⟨Good.refl sr, .int _⟩⟩
theorem it_keys {a : Addr} {o : Obj} {u : HO} {kv : List (V × V)} {ks : List D} (h : Hb a = some (.frz o u)) (r : RpAll K Hb ad (kv.map (·.1)) ks) : ItOk K Hb ad (WkK a o kv) ks := by
  have hl : kv.length = ks.length := by rw [← r.length, List.length_map]
  refine ⟨fun H' => Still H' a o, fun i H x H' => H' = H ∧ ∃ v, kv[i]? = some (x, v), by rw [← hl]; exact ⟨fun i H hi g => ⟨g, hi⟩, fun H g => ⟨g, Nat.le_refl _⟩, fun i H x H' _ _ y => y⟩, fun H' e => ⟨u, e _ _ h⟩, fun i H1 x H2 y e => ?_⟩
  obtain ⟨rfl, v, hx⟩ := y
  obtain ⟨d, hdd, rd⟩ := r.get' (i := i) (v := x) (by rw [List.getElem?_map, hx]; rfl)
  exact ⟨d, hdd, fun hd1 ad1 S1 sr ex pre => ⟨Good.refl sr, rd.mono ex pre⟩⟩
theorem it_vals {a : Addr} {o : Obj} {u : HO} {kv : List (V × V)} {ds : List D} (h : Hb a = some (.frz o u)) (r : RpAll K Hb ad (kv.map (·.2)) ds) : ItOk K Hb ad (WkV a o kv) ds := by
  have hl : kv.length = ds.length := by rw [← r.length, List.length_map]
  refine ⟨fun H' => Still H' a o, fun i H x H' => H' = H ∧ ∃ k, kv[i]? = some (k, x), by rw [← hl]; exact ⟨fun i H hi g => ⟨g, hi⟩, fun H g => ⟨g, Nat.le_refl _⟩, fun i H x H' _ _ y => y⟩, fun H' e => ⟨u, e _ _ h⟩, fun i H1 x H2 y e => ?_⟩
  obtain ⟨rfl, v, hx⟩ := y
  obtain ⟨d, hdd, rd⟩ := r.get' (i := i) (v := x) (by rw [List.getElem?_map, hx]; rfl)
  exact ⟨d, hdd, fun hd1 ad1 S1 sr ex pre => ⟨Good.refl sr, rd.mono ex pre⟩⟩
theorem it_items {a : Addr} {o : Obj} {u : HO} {kv : List (V × V)} {ks ds : List D} (h : Hb a = some (.frz o u)) (r1 : RpAll K Hb ad (kv.map (·.1)) ks) (r2 : RpAll K Hb ad (kv.map (·.2)) ds) : ItOk K Hb ad (WkI a o kv) ((ks.zip ds).map fun p => D.tup [p.1, p.2]) := by
  have h1 : kv.length = ks.length := by rw [← r1.length, List.length_map]
  have h2 : kv.length = ds.length := by rw [← r2.length, List.length_map]
  have hl : kv.length = ((ks.zip ds).map fun p => D.tup [p.1, p.2]).length := by rw [List.length_map, List.length_zip, ← h1, ← h2, Nat.min_self]
  refine ⟨fun H' => Still H' a o, fun i H x H' => ∃ T k v, kv[i]? = some (k, v) ∧ x = .ref T ∧ H T = none ∧ H' = upd H T (.tup [k, v]), by rw [← hl]; exact ⟨fun i H hi g => ⟨g, hi⟩, fun H g => ⟨g, Nat.le_refl _⟩, fun i H x H' _ _ y => y⟩, fun H' e => ⟨u, e _ _ h⟩, fun i H1 x H2 y e => ?_⟩
  obtain ⟨T, k, v, hx, rfl, hT, rfl⟩ := y
  obtain ⟨d1, e1, q1⟩ := r1.get' (i := i) (v := k) (by rw [List.getElem?_map, hx]; rfl)
  obtain ⟨d2, e2, q2⟩ := r2.get' (i := i) (v := v) (by rw [List.getElem?_map, hx]; rfl)
  refine ⟨.tup [d1, d2], ?_, fun hd1 ad1 S1 sr ex pre => ?_⟩
  · rw [List.getElem?_map, (List.getElem?_zip_eq_some (z := (d1, d2))).mpr ⟨e1, e2⟩]
    rfl
  · exact mk_tup sr hT (.cons (q1.mono ex pre) (.cons (q2.mono ex pre) .nil))
theorem it_pair {J : L2.It} {n : Nat} {G : Hp → Prop} {xs ys : List V} {ds es : List D} (hn : n = min xs.length ys.length) (w : Walk J n G (YPair (fun i => xs[i]?) (fun i => ys[i]?))) (hG : ∀ H', Ex Hb H' → G H')
    (r1 : RpAll K Hb ad xs ds) (r2 : RpAll K Hb ad ys es) : ItOk K Hb ad J ((ds.zip es).map fun p => D.tup [p.1, p.2]) := by
  refine ⟨G, _, by rw [List.length_map, List.length_zip, ← r1.length, ← r2.length, ← hn]; exact w, hG, fun i H1 x H2 y e => ?_⟩
  obtain ⟨T, a, b, rfl, hT, rfl, ha, hb⟩ := y
  obtain ⟨d1, e1, q1⟩ := r1.get' ha
  obtain ⟨d2, e2, q2⟩ := r2.get' hb
  refine ⟨.tup [d1, d2], ?_, fun hd1 ad1 S1 sr ex pre => ?_⟩
  · rw [List.getElem?_map, (List.getElem?_zip_eq_some (z := (d1, d2))).mpr ⟨e1, e2⟩]
    rfl
  · exact mk_tup sr hT (.cons (q1.mono ex pre) (.cons (q2.mono ex pre) .nil))
theorem walk_zipT {a b : Addr} {xs ys : List V} {n : Nat} (hn : n = min xs.length ys.length) : Walk (RZ.ItzT K a b) n (fun H => SqT K H a xs ∧ SqT K H b ys) (YPair (fun i => xs[i]?) (fun i => ys[i]?)) := by
  subst hn
  refine ⟨fun i _ hi q => ?_, fun _ q => ⟨xs, ys, q.1, q.2, by omega⟩, fun i H v H' _ q y => ?_⟩
  · have h1 : i < xs.length := by omega
    have h2 : i < ys.length := by omega
    exact ⟨xs, ys, xs[i], ys[i], q.1, q.2, by simp [h1], by simp [h2]⟩
  · obtain ⟨T, x, z, h1, h2, h3, h4, h5⟩ := y
    exact ⟨T, x, z, h1, h2, h3, h4 xs q.1, h5 ys q.2⟩
end
end Wt
set_option maxRecDepth 100000
set_option maxHeartbeats 8000000
namespace Wt
open PySem L2
variable [Wd]
/-! ### targets -/
section
variable {X : Cx} {R : Rt} {C : Cc}
theorem Cok.loc (c : Cok X R C) {x : Str} (h : C.loc x = true) : L2.Loc X.env.scope x ∧ (X.fn x = true ∨ X.env.scope.names.lookup x = some .local) := by
  rw [c.sc, c.fn]
  unfold Cc.loc at h
  unfold L2.Loc
  split at h
  · rename_i e; exact ⟨.inl e, .inr e⟩
  · rename_i e; exact ⟨.inr e, .inl h⟩
  · cases h
theorem each_cons {e : Expr} {es : List Expr} {env : PySem.Env} (h : noStar e = true) : (assignEach (e :: es) env).map (·.2) = assign e env :: (assignEach es env).map (·.2) := by
  cases e <;> first
    | rfl
    | cases h
theorem each_len {env : PySem.Env} : ∀ es : List Expr, (assignEach es env).length = es.length
  | [] => rfl
  | e :: es => by
    have ih := each_len (env := env) es
    cases e <;> simp [assignEach, ih]
theorem each_star {env : PySem.Env} : ∀ {es : List Expr}, (∀ e ∈ es, noStar e = true) → (assignEach es env).findIdx? (·.1) = none
  | [], _ => rfl
  | e :: es, h => by
    have ih := each_star (env := env) (es := es) fun e he => h e (List.mem_cons_of_mem _ he)
    have he := h e List.mem_cons_self
    cases e <;> first
      | (simp only [assignEach, List.findIdx?_cons]; rw [ih]; rfl)
      | cases he
theorem bindTs_len : ∀ (gs : List Tg) (ds : List D) (ρ ρ' : Slots), bindTs gs ds ρ = some ρ' → ds.length = gs.length
  | [], [], _, _, _ => rfl
  | g :: gs, d :: ds, ρ, ρ', e => by
    simp only [bindTs] at e
    split at e
    · simp [bindTs_len gs ds _ _ e]
    · cases e
  | [], _ :: _, _, _, e => by simp [bindTs] at e
  | _ :: _, [], _, _, e => by simp [bindTs] at e
theorem chkTs_len : ∀ (ts : List Expr) (gs : List Tg), chkTs C ts gs = true → ts.length = gs.length
  | [], [], _ => rfl
  | t :: ts, g :: gs, h => by
    simp only [chkTs, Bool.and_eq_true] at h
    simp [chkTs_len ts gs h.2]
  | [], _ :: _, h => by simp [chkTs] at h
  | _ :: _, [], h => by simp [chkTs] at h
theorem chkTs_star : ∀ (ts : List Expr) (gs : List Tg), chkTs C ts gs = true → ∀ e ∈ ts, noStar e = true
  | [], [], _ => fun _ h => nomatch h
  | t :: ts, g :: gs, h => by
    simp only [chkTs, Bool.and_eq_true] at h
    intro e he
    rcases List.mem_cons.mp he with rfl | he
    · exact h.1.1
    · exact chkTs_star ts gs h.2 e he
  | [], _ :: _, h => by simp [chkTs] at h
  | _ :: _, [], h => by simp [chkTs] at h
mutual
theorem snd_T (c : Cok X R C) : ∀ (t : Expr) (g : Tg), chkT C t g = true → PG X t (tG X.K g)
  | .Name x p, .nm i, h => by
    simp only [chkT, Bool.and_eq_true, decide_eq_true_eq] at h
    obtain ⟨l1, l2⟩ := c.loc h.2
    refine ⟨fun pins s σ H v u Q I r q => ?_⟩
    obtain ⟨hd, ad, S, ρ, d, ρ', sr, er, rv, e, q⟩ := q
    simp only [bindT, Option.some.injEq] at e
    subst e
    exact (pg_name (i := i) (by rw [c.N]; exact c.nd) (by rw [c.N]; exact h.1) l1 l2).run pins s σ H v u Q I r (q _ (er.set i rv) fun j hj => List.getElem?_set_ne (fun z => hj (by simp [Tg.slots, z])))
  | .Tuple ts k p, .tup gs, h => by
    simp only [chkT] at h
    have ih := snd_Ts c ts gs h
    have st := chkTs_star ts gs h
    refine ⟨fun pins s σ H v u Q I r q => ?_⟩
    obtain ⟨hd, ad, S, ρ, d, ρ', sr, er, rv, e, q⟩ := q
    cases d with
    | tup ds =>
      simp only [bindT] at e
      cases rv with | tup h1 a1 =>
      refine (pg_tup (n := ts.length) c.calm ih (each_len ts) (each_star st)).run pins s σ H _ u Q I r ⟨_, _, rfl, ex_t era_ex h1, ?_, hd, ad, S, ρ, ds, ρ', sr, er, a1, e, fun σ' e' k => q σ' e' fun i hi => k i (by simpa [Tg.slots] using hi)⟩
      rw [a1.length]
      exact (bindTs_len gs ds ρ ρ' e).trans (chkTs_len ts gs h).symm
    | _ => simp [bindT] at e
  | .Name x p, .tup gs, h => by simp [chkT] at h
  | .Tuple ts k p, .nm i, h => by simp [chkT] at h
  | .BoolOp .., g, h => by cases g <;> simp [chkT] at h
  | .NamedExpr .., g, h => by cases g <;> simp [chkT] at h
  | .BinOp .., g, h => by cases g <;> simp [chkT] at h
  | .UnaryOp .., g, h => by cases g <;> simp [chkT] at h
  | .Lambda .., g, h => by cases g <;> simp [chkT] at h
  | .IfExp .., g, h => by cases g <;> simp [chkT] at h
  | .Dict .., g, h => by cases g <;> simp [chkT] at h
  | .Set .., g, h => by cases g <;> simp [chkT] at h
  | .ListComp .., g, h => by cases g <;> simp [chkT] at h
  | .SetComp .., g, h => by cases g <;> simp [chkT] at h
  | .DictComp .., g, h => by cases g <;> simp [chkT] at h
  | .GeneratorExp .., g, h => by cases g <;> simp [chkT] at h
  | .Await .., g, h => by cases g <;> simp [chkT] at h
  | .Yield .., g, h => by cases g <;> simp [chkT] at h
  | .YieldFrom .., g, h => by cases g <;> simp [chkT] at h
  | .Compare .., g, h => by cases g <;> simp [chkT] at h
  | .Call .., g, h => by cases g <;> simp [chkT] at h
  | .FormattedValue .., g, h => by cases g <;> simp [chkT] at h
  | .JoinedStr .., g, h => by cases g <;> simp [chkT] at h
  | .Constant .., g, h => by cases g <;> simp [chkT] at h
  | .Attribute .., g, h => by cases g <;> simp [chkT] at h
  | .Subscript .., g, h => by cases g <;> simp [chkT] at h
  | .Starred .., g, h => by cases g <;> simp [chkT] at h
  | .List .., g, h => by cases g <;> simp [chkT] at h
  | .Slice .., g, h => by cases g <;> simp [chkT] at h
theorem snd_Ts (c : Cok X R C) : ∀ (ts : List Expr) (gs : List Tg), chkTs C ts gs = true → PGs X ts (tGs X.K gs)
  | [], [], h => by
    refine ⟨fun pins s σ H vs us Q I r q => ?_⟩
    obtain ⟨hd, ad, S, ρ, ds, ρ', sr, er, rv, e, q⟩ := q
    cases ds with
    | nil =>
      cases rv
      simp only [bindTs, Option.some.injEq] at e
      subst e
      exact pgs_nil.run pins s σ H _ us Q I r ⟨rfl, q σ er fun _ _ => rfl⟩
    | cons _ _ => simp [bindTs] at e
  | t :: ts, g :: gs, h => by
    simp only [chkTs, Bool.and_eq_true] at h
    have h1 := snd_T c t g h.1.2
    have h2 := snd_Ts c ts gs h.2
    refine ⟨fun pins s σ H vs us Q I r q => ?_⟩
    obtain ⟨hd, ad, S, ρ, ds, ρ', sr, er, rv, e, q⟩ := q
    cases ds with
    | nil => simp [bindTs] at e
    | cons d ds =>
      cases rv with | cons r1 rr =>
      simp only [bindTs] at e
      split at e
      · rename_i ρ1 e1
        refine (pgs_cons h1 h2 (each_cons h.1.1)).run pins s σ H _ us Q I r ⟨_, _, rfl, hd, ad, S, ρ, d, ρ1, sr, er, r1, e1, fun σ1 er1 k1 => ⟨hd, ad, S, ρ1, ds, ρ', sr, er1, rr, e, fun σ2 er2 k2 => q σ2 er2 fun i hi => ?_⟩⟩
        simp only [Tg.slotsAll, List.mem_append, not_or] at hi
        exact (k2 i hi.2).trans (k1 i hi.1)
      · cases e
  | [], _ :: _, h => by simp [chkTs] at h
  | _ :: _, [], h => by simp [chkTs] at h
end
end
end Wt
set_option maxRecDepth 100000
set_option maxHeartbeats 1000000
namespace Wt
open PySem L2
variable [Wd]

/-! ### expressions, one rule at a time -/
section
variable {X : Cx} {R : Rt} {C : Cc} {G : Gc}
variable {a b c : Expr} {i j l : E} {pos : Pos}
/-- an expression whose test is its value -/
theorem val_pt {e : Expr} {i : E} (h : PE X e (tE X.K R i)) (he : ∀ whole, isTrue e X.env whole = (do let v ← whole; standAt e.pos; holding [v] (truthy v))) : PT X e (tT X.K R i) :=
  (pt_val h he).imp fun σ H Q q => tT_tE q
theorem x_var {x : Str} {k : Nat} (c : Cok X R C) (h1 : C.N[k]? = some x) (h2 : C.vis x = true) (h3 : okN x = true) : PE X (.Name x pos) (tE X.K R (.var k)) :=
  (pe_var (i := k) (by rw [c.N]; exact h1) (c.vis h2) (okN_1 h3) (okN_2 h3)).imp fun σ H Q q => by
    obtain ⟨hd, ad, S, ρ, sr, er, p⟩ := q
    simp only [ev] at p
    split at p
    · rename_i d e
      obtain ⟨v, h4, h5⟩ := er.2 k d e
      exact ⟨v, h4, p v ad H (Good.refl sr) h5⟩
    · exact False.elim p
theorem tC_of {v : V} {d : D} (hr : ∀ H ad, Rp X.K H ad v d) {σ : L2.St} {H : Hp} {Q : VK} (q : tE X.K R (.k d) σ H Q) : tC v σ H Q := by
  obtain ⟨hd, ad, S, ρ, sr, er, p⟩ := q
  simp only [ev] at p
  exact p v ad H (Good.refl sr) (hr _ _)
theorem tE_bin {r : R2} {ia ib : E} {e : E} {f : D → D → Store → Out D} (he : ∀ F ρ S, ev F e ρ S = (ev F ia ρ S).bind fun x S1 => (ev F ib ρ S1).bind fun y S2 => f x y S2)
    (k : ∀ hd ad S d1 d2 x y H Q, SR X.K hd ad S H → Rp X.K (era hd ad S H) ad x d1 → Rp X.K (era hd ad S H) ad y d2 → Post X.K R.xv R.W hd (Rp X.K) ad S H (f d1 d2 S) Q → r x y H Q)
    {σ : L2.St} {H : Hp} {Q : VK} (q : tE X.K R e σ H Q) : tOp r (tE X.K R ia) (tE X.K R ib) σ H Q := by
  obtain ⟨hd, ad, S, ρ, sr, er, p⟩ := q
  rw [he] at p
  refine ⟨hd, ad, S, ρ, sr, er, p.bind fun d1 S1 x ad1 H1 g1 r1 p1 => ?_⟩
  refine ⟨hd, ad1, S1, ρ, g1.sr, er.go g1, p1.bind fun d2 S2 y ad2 H2 g2 r2 p2 => ?_⟩
  exact k hd ad2 S2 d1 d2 x y H2 Q g2.sr (r1.mono g2.ex g2.pre) r2 p2
theorem x_op {o : Operator} (ha : PE X a (tE X.K R i)) (hb : PE X b (tE X.K R j)) : PE X (.BinOp a o b pos) (tE X.K R (.op o i j)) :=
  (pe_op (op_D o) ha hb).imp fun σ H Q q => tE_bin (f := fun x y S2 => lift (opD o x y) S2) (fun F ρ S => by simp only [ev]) (fun hd ad S d1 d2 x y H Q sr r1 r2 p => by
    cases e : opD o d1 d2 with
    | none => rw [e] at p; exact False.elim p
    | some d =>
      rw [e] at p
      exact ⟨hd, ad, S, d1, d2, d, sr, r1, r2, e, fun v H' g r => p v ad H' g r⟩) q
theorem rD2_cmp {o : CmpOp} (hd ad : List Addr) (S : Store) (d1 d2 : D) (x y : V) (H : Hp) (Q : VK) (sr : SR X.K hd ad S H) (r1 : Rp X.K (era hd ad S H) ad x d1) (r2 : Rp X.K (era hd ad S H) ad y d2)
    (p : Post X.K R.xv R.W hd (Rp X.K) ad S H (lift ((cmpD o d1 d2).map D.bl) S) Q) : rD2 X.K (fun a b => (cmpD o a b).map D.bl) x y H Q := by
  cases e : (cmpD o d1 d2).map D.bl with
  | none => rw [e] at p; exact False.elim p
  | some d =>
    rw [e] at p
    exact ⟨hd, ad, S, d1, d2, d, sr, r1, r2, e, fun v H' g r => p v ad H' g r⟩
theorem x_cmp {o : CmpOp} (hu : X.A.units + 65 < cLine) (ha : PE X a (tE X.K R i)) (hb : PE X b (tE X.K R j)) (hm : behindInMarks o b = false) : PE X (.Compare a [o] [b] pos) (tE X.K R (.cmp o i j)) ∧ PT X (.Compare a [o] [b] pos) (tT X.K R (.cmp o i j)) := by
  have k : ∀ {σ : L2.St} {H : Hp} {Q : VK}, tE X.K R (.cmp o i j) σ H Q → tOp (rD2 X.K fun a b => (cmpD o a b).map D.bl) (tE X.K R i) (tE X.K R j) σ H Q := fun {σ H Q} q =>
    tE_bin (f := fun x y S2 => lift ((cmpD o x y).map D.bl) S2) (fun F ρ S => by simp only [ev]) rD2_cmp q
  exact ⟨(pe_cmpR (cmp_D hu o) ha hb hm).imp fun σ H Q q => k q, (pt_cmpR (cmp_D hu o) ha hb hm).imp fun σ H Q q => k (tT_tE q)⟩
theorem x_din {neg : Bool} (hw : X.w = Wd.w) (hu : X.A.units + 9 < cLine) (ha : PE X a (tE X.K R i)) (hb : PE X b (tE X.K R j)) (hm : behindInMarks (if neg = true then .NotIn else .In) b = false) :
    PE X (.Compare a [if neg = true then .NotIn else .In] [b] pos) (tE X.K R (.din neg i j)) ∧ PT X (.Compare a [if neg = true then .NotIn else .In] [b] pos) (tT X.K R (.din neg i j)) := by
  have k : ∀ {σ : L2.St} {H : Hp} {Q : VK}, tE X.K R (.din neg i j) σ H Q → tOp (rDin X.K neg) (tE X.K R i) (tE X.K R j) σ H Q := fun {σ H Q} q =>
    tE_bin (f := fun x y S2 => lift ((dinD neg x y S2).map D.bl) S2) (fun F ρ S => by simp only [ev]) (fun hd ad S d1 d2 x y H Q sr r1 r2 p => by
      unfold dinD at p
      cases e : viewD S d2 with
      | none => rw [e] at p; exact False.elim p
      | some kvs =>
        rw [e] at p
        cases e2 : lookD kvs d1 with
        | none => simp only [e2] at p; exact False.elim p
        | some r =>
          simp only [e2] at p
          exact ⟨hd, ad, S, d1, d2, kvs, r, sr, r1, r2, e, e2, p _ ad H (Good.refl sr) (.bl _)⟩) q
  exact ⟨(pe_cmpR (din_D hw hu neg) ha hb hm).imp fun σ H Q q => k q, (pt_cmpR (din_D hw hu neg) ha hb hm).imp fun σ H Q q => k (tT_tE q)⟩
theorem x_nemp {p2 : Pos} (hu : X.A.units + 65 < cLine) (ha : PE X a (tE X.K R i)) : PE X (.Compare a [.NotEq] [.List [] p2] pos) (tE X.K R (.nemp i)) ∧ PT X (.Compare a [.NotEq] [.List [] p2] pos) (tT X.K R (.nemp i)) := by
  have hb : PE X (.List [] p2) (tLst (fun _ H Q => Q [] H)) := (pe_lst pa_nil).imp fun σ H Q q => q
  have k : ∀ {σ : L2.St} {H : Hp} {Q : VK}, tE X.K R (.nemp i) σ H Q → tOp (rNempD X.K) (tE X.K R i) (tLst (fun _ H Q => Q [] H)) σ H Q := fun {σ H Q} q => by
    obtain ⟨hd, ad, S, ρ, sr, er, p⟩ := q
    simp only [ev] at p
    refine ⟨hd, ad, S, ρ, sr, er, p.bind fun d1 S1 x ad1 H1 g1 r1 p1 => ?_⟩
    cases d1 with
    | loc n =>
      simp only at p1
      split at p1
      · rename_i xs hS
        split at p1
        · rename_i hf
          refine ⟨Nat.zero_le _, fun pp hp => ?_⟩
          obtain ⟨g, r⟩ := mk_lst g1.sr hp (RpAll.nil)
          exact ⟨hd, ad1, S1, n, xs, g.sr, r1.mono g.ex g.pre, r, hS, hf, p1 _ ad1 _ g (.bl _)⟩
        · exact False.elim p1
      · exact False.elim p1
    | _ => exact False.elim p1
  exact ⟨(pe_cmpR (nemp_D hu) ha hb (by rfl)).imp fun σ H Q q => k q, (pt_cmpR (nemp_D hu) ha hb (by rfl)).imp fun σ H Q q => k (tT_tE q)⟩
theorem x_chain {o o' : CmpOp} (hu : X.A.units + 65 < cLine) (ha : PE X a (tE X.K R i)) (hb : PE X b (tE X.K R j)) (hc : PE X c (tE X.K R l)) (hm : lastMarks [o, o'] [b, c] = false) :
    PE X (.Compare a [o, o'] [b, c] pos) (tE X.K R (.chain o o' i j l)) ∧ PT X (.Compare a [o, o'] [b, c] pos) (tT X.K R (.chain o o' i j l)) := by
  have k : ∀ {σ : L2.St} {H : Hp} {Q : VK}, tE X.K R (.chain o o' i j l) σ H Q → tChain (rD2 X.K fun a b => (cmpD o a b).map D.bl) (rD2 X.K fun a b => (cmpD o' a b).map D.bl) (tE X.K R i) (tE X.K R j) (tE X.K R l) σ H Q := fun {σ H Q} q => by
    obtain ⟨hd, ad, S, ρ, sr, er, p⟩ := q
    simp only [ev] at p
    refine ⟨hd, ad, S, ρ, sr, er, p.bind fun d1 S1 x ad1 H1 g1 r1 p1 => ?_⟩
    refine ⟨hd, ad1, S1, ρ, g1.sr, er.go g1, p1.bind fun d2 S2 y ad2 H2 g2 r2 p2 => ?_⟩
    cases e : cmpD o d1 d2 with
    | none => rw [e] at p2; exact False.elim p2
    | some t =>
      rw [e] at p2
      refine ⟨hd, ad2, S2, d1, d2, .bl t, g2.sr, r1.mono g2.ex g2.pre, r2, by show Option.map D.bl (cmpD o d1 d2) = _; rw [e]; rfl, fun v H' g r => ?_⟩
      cases r
      refine ⟨t, rfl, ?_⟩
      cases t with
      | false => exact p2 _ ad2 H' g (.bl false)
      | true =>
        refine ⟨hd, ad2, S2, ρ, g.sr, (er.go (g1.trans g2)).go g, (Post.mono p2 g).bind fun d3 S3 z ad3 H3 g3 r3 p3 => ?_⟩
        exact rD2_cmp hd ad3 S3 d2 d3 y z H3 Q g3.sr (r2.mono (g.trans g3).ex (g.trans g3).pre) r3 p3
  exact ⟨(pe_chain (cmp_D hu o) (cmp_D hu o') ha hb hc hm).imp fun σ H Q q => k q, (pt_chain (cmp_D hu o) (cmp_D hu o') ha hb hc hm).imp fun σ H Q q => k (tT_tE q)⟩
theorem x_neg (ha : PE X a (tE X.K R i)) : PE X (.UnaryOp .USub a pos) (tE X.K R (.neg i)) :=
  (pe_un un_neg ha).imp fun σ H Q q => by
    obtain ⟨hd, ad, S, ρ, sr, er, p⟩ := q
    simp only [ev] at p
    refine ⟨hd, ad, S, ρ, sr, er, p.bind fun d1 S1 x ad1 H1 g1 r1 p1 => ?_⟩
    cases r1 with
    | int z => exact ⟨z, rfl, p1 _ ad1 H1 (Good.refl g1.sr) (.int _)⟩
    | _ => exact False.elim p1
/-- what a test gives, as a value -/
theorem Post.asB2 {K : PySem.W.Frag} {xv : Nat → Value} {W : XK} {hd ad : List Addr} {S : Store} {H : Hp} {o : Out D} {f : Bool → Store → Out D} {Q : VK} (h : Post K xv W hd (Rp K) ad S H ((asB o).bind f) Q) :
    Post K xv W hd (Rp K) ad S H o fun x H1 => ∃ t, x = .bl t ∧ ∃ ad1 S1, Good K hd ad S H ad1 S1 H1 ∧ Post K xv W hd (Rp K) ad1 S1 H1 (f t S1) Q := by
  cases o with
  | ok d S' =>
    cases d with
    | bl t =>
      intro v ad' H' g r
      cases r
      exact ⟨t, rfl, ad', S', g, Post.mono (o := f t S') h g⟩
    | _ => exact False.elim h
  | ex x S' => exact h
  | no => exact h
theorem Post.tst {K : PySem.W.Frag} {xv : Nat → Value} {W : XK} {hd ad : List Addr} {S : Store} {H : Hp} {α β : Type} {rel : Hp → List Addr → β → α → Prop} {o : Out D} {f : Bool → Store → Out α} {Q : β → Hp → Prop} (h : Post K xv W hd rel ad S H ((asB o).bind f) Q) :
    Post K xv W hd relB ad S H (asB o) fun t H1 => ∃ ad1 S1, Good K hd ad S H ad1 S1 H1 ∧ Post K xv W hd rel ad1 S1 H1 (f t S1) Q := by
  refine h.bind fun t S1 b ad1 H1 g r p => ?_
  cases r
  exact ⟨ad1, S1, g, p⟩
theorem x_not (ha : PE X a (tE X.K R i)) (ta : PT X a (tT X.K R i)) : PE X (.UnaryOp .Not a pos) (tE X.K R (.not i)) ∧ PT X (.UnaryOp .Not a pos) (tT X.K R (.not i)) := by
  refine ⟨(pe_not ha).imp fun σ H Q q => ?_, (pt_not ta).imp fun σ H Q q => ?_⟩
  · obtain ⟨hd, ad, S, ρ, sr, er, p⟩ := q
    simp only [ev] at p
    refine ⟨hd, ad, S, ρ, sr, er, p.asB2.imp fun d S1 x ad1 H1 _ _ _ q => ?_⟩
    obtain ⟨t, rfl, ad2, S2, g2, p2⟩ := q
    exact ⟨t, rfl, p2 _ ad2 H1 (Good.refl g2.sr) (.bl _)⟩
  · obtain ⟨hd, ad, S, ρ, sr, er, p⟩ := q
    simp only [ev, asB_bind] at p
    refine ⟨hd, ad, S, ρ, sr, er, p.tst.imp fun d S1 x ad1 H1 _ _ _ q => ?_⟩
    obtain ⟨ad2, S2, g2, p2⟩ := q
    exact p2 _ ad2 H1 (Good.refl g2.sr) rfl
theorem x_one {op : BoolOp} (ha : PE X a (tE X.K R i)) (ta : PT X a (tT X.K R i)) : PE X (.BoolOp op [a] pos) (tE X.K R i) ∧ PW X (.BoolOp op [a] pos) (tT X.K R i) := by
  cases op
  · exact ⟨pe_one ha, pw_and1 ta⟩
  · exact ⟨pe_one ha, pw_or1 ta⟩
theorem x_and {rest : List Expr} (ha : PE X a (tE X.K R i)) (ta : PT X a (tT X.K R i)) (hb : PE X (.BoolOp .And (b :: rest) pos) (tE X.K R j)) (tb : PW X (.BoolOp .And (b :: rest) pos) (tT X.K R j)) :
    PE X (.BoolOp .And (a :: b :: rest) pos) (tE X.K R (.and i j)) ∧ PW X (.BoolOp .And (a :: b :: rest) pos) (tT X.K R (.and i j)) := by
  refine ⟨(pe_and ha hb).imp fun σ H Q q => ?_, (pw_and ta tb).imp fun σ H Q q => ?_⟩
  · obtain ⟨hd, ad, S, ρ, sr, er, p⟩ := q
    simp only [ev] at p
    refine ⟨hd, ad, S, ρ, sr, er, p.asB2.imp fun d S1 x ad1 H1 _ _ _ q => ?_⟩
    obtain ⟨t, rfl, ad2, S2, g2, p2⟩ := q
    refine ⟨t, rfl, ?_⟩
    cases t with
    | false => exact p2 _ ad2 H1 (Good.refl g2.sr) (.bl false)
    | true =>
      refine ⟨hd, ad2, S2, ρ, g2.sr, er.go g2, ?_⟩
      have p3 : Post X.K R.xv R.W hd (Rp X.K) ad2 S2 H1 ((asB (ev (callF R.T R.k) j ρ S2)).bind fun y S2 => Out.ok (D.bl y) S2) Q := p2
      refine p3.asB2.imp fun d S3 x ad3 H3 _ _ _ q => ?_
      obtain ⟨t, rfl, ad4, S4, g4, p4⟩ := q
      exact p4 _ ad4 H3 (Good.refl g4.sr) (.bl t)
  · obtain ⟨hd, ad, S, ρ, sr, er, p⟩ := q
    simp only [ev, asB_bind] at p
    refine ⟨hd, ad, S, ρ, sr, er, p.tst.imp fun d S1 t ad1 H1 _ _ _ q => ?_⟩
    obtain ⟨ad2, S2, g2, p2⟩ := q
    cases t with
    | false => exact p2 _ ad2 H1 (Good.refl g2.sr) rfl
    | true =>
      have p3 : Post X.K R.xv R.W hd relB ad2 S2 H1 (asB ((asB (ev (callF R.T R.k) j ρ S2)).bind fun y S2 => Out.ok (D.bl y) S2)) Q := p2
      rw [asB_bind] at p3
      refine ⟨hd, ad2, S2, ρ, g2.sr, er.go g2, p3.tst.imp fun d S3 x ad3 H3 _ _ _ q => ?_⟩
      obtain ⟨ad4, S4, g4, p4⟩ := q
      exact p4 _ ad4 H3 (Good.refl g4.sr) rfl
theorem x_or {rest : List Expr} (ha : PE X a (tE X.K R i)) (ta : PT X a (tT X.K R i)) (hb : PE X (.BoolOp .Or (b :: rest) pos) (tE X.K R j)) (tb : PW X (.BoolOp .Or (b :: rest) pos) (tT X.K R j)) :
    PE X (.BoolOp .Or (a :: b :: rest) pos) (tE X.K R (.or i j)) ∧ PW X (.BoolOp .Or (a :: b :: rest) pos) (tT X.K R (.or i j)) := by
  refine ⟨(pe_or ha hb).imp fun σ H Q q => ?_, (pw_or ta tb).imp fun σ H Q q => ?_⟩
  · obtain ⟨hd, ad, S, ρ, sr, er, p⟩ := q
    simp only [ev] at p
    refine ⟨hd, ad, S, ρ, sr, er, p.asB2.imp fun d S1 x ad1 H1 _ _ _ q => ?_⟩
    obtain ⟨t, rfl, ad2, S2, g2, p2⟩ := q
    refine ⟨t, rfl, ?_⟩
    cases t with
    | true => exact p2 _ ad2 H1 (Good.refl g2.sr) (.bl true)
    | false =>
      refine ⟨hd, ad2, S2, ρ, g2.sr, er.go g2, ?_⟩
      have p3 : Post X.K R.xv R.W hd (Rp X.K) ad2 S2 H1 ((asB (ev (callF R.T R.k) j ρ S2)).bind fun y S2 => Out.ok (D.bl y) S2) Q := p2
      refine p3.asB2.imp fun d S3 x ad3 H3 _ _ _ q => ?_
      obtain ⟨t, rfl, ad4, S4, g4, p4⟩ := q
      exact p4 _ ad4 H3 (Good.refl g4.sr) (.bl t)
  · obtain ⟨hd, ad, S, ρ, sr, er, p⟩ := q
    simp only [ev, asB_bind] at p
    refine ⟨hd, ad, S, ρ, sr, er, p.tst.imp fun d S1 t ad1 H1 _ _ _ q => ?_⟩
    obtain ⟨ad2, S2, g2, p2⟩ := q
    cases t with
    | true => exact p2 _ ad2 H1 (Good.refl g2.sr) rfl
    | false =>
      have p3 : Post X.K R.xv R.W hd relB ad2 S2 H1 (asB ((asB (ev (callF R.T R.k) j ρ S2)).bind fun y S2 => Out.ok (D.bl y) S2)) Q := p2
      rw [asB_bind] at p3
      refine ⟨hd, ad2, S2, ρ, g2.sr, er.go g2, p3.tst.imp fun d S3 x ad3 H3 _ _ _ q => ?_⟩
      obtain ⟨ad4, S4, g4, p4⟩ := q
      exact p4 _ ad4 H3 (Good.refl g4.sr) rfl
theorem x_ite (tc : PT X c (tT X.K R l)) (ha : PE X a (tE X.K R i)) (hb : PE X b (tE X.K R j)) : PE X (.IfExp c a b pos) (tE X.K R (.ite l i j)) :=
  (pe_ifExp tc ha hb).imp fun σ H Q q => by
    obtain ⟨hd, ad, S, ρ, sr, er, p⟩ := q
    simp only [ev] at p
    refine ⟨hd, ad, S, ρ, sr, er, p.tst.imp fun d S1 t ad1 H1 _ _ _ q => ?_⟩
    obtain ⟨ad2, S2, g2, p2⟩ := q
    cases t with
    | true => exact ⟨hd, ad2, S2, ρ, g2.sr, er.go g2, p2⟩
    | false => exact ⟨hd, ad2, S2, ρ, g2.sr, er.go g2, p2⟩
theorem x_ix (hw : X.w = Wd.w) (hu : X.A.units + 9 < cLine) (ha : PE X a (tE X.K R i)) (hb : PE X b (tE X.K R j)) (hs : noSlice b = true) : PE X (.Subscript a b pos) (tE X.K R (.ix i j)) :=
  (pe_ix (ix_D hw hu) ha hb (plainIx hs)).imp fun σ H Q q => tE_bin (f := fun x y S2 => lift (ixD x y S2) S2) (fun F ρ S => by simp only [ev]) (fun hd ad S d1 d2 x y H Q sr r1 r2 p => by
    cases e : ixD d1 d2 S with
    | none => rw [e] at p; exact False.elim p
    | some d =>
      rw [e] at p
      exact ⟨hd, ad, S, d1, d2, d, sr, r1, r2, e, fun v r => p v ad H (Good.refl sr) r⟩) q
def tO (K : PySem.W.Frag) (R : Rt) (i : E) : TO := fun σ H Q => ∃ hd ad S ρ, SR K hd ad S H ∧ ER K (era hd ad S H) ad σ ρ ∧
  Post K R.xv R.W hd (fun _ _ b a => b = a) ad S H (if isNon i then Out.ok none S else asI (ev (callF R.T R.k) i ρ S)) Q
theorem x_noPart : PO X none (tO X.K R (.k .non)) := by
  have h := po_none (X := X)
  refine ⟨fun pins s σ H Q I q => h.run pins s σ H Q I ?_⟩
  obtain ⟨hd, ad, S, ρ, sr, er, p⟩ := q
  have p' : Post X.K R.xv R.W hd (fun _ _ b a => b = a) ad S H (Out.ok none S) Q := p
  exact p' none ad H (Good.refl sr) rfl
theorem x_part (ha : PE X a (tE X.K R i)) (hn : isNon i = false) : PO X (some a) (tO X.K R i) := by
  have h := po_some ha
  refine ⟨fun pins s σ H Q I q => h.run pins s σ H Q I ?_⟩
  obtain ⟨hd, ad, S, ρ, sr, er, p⟩ := q
  rw [hn] at p
  have p' : Post X.K R.xv R.W hd (fun _ _ b a => b = a) ad S H (asI (ev (callF R.T R.k) i ρ S)) Q := p
  refine ⟨hd, ad, S, ρ, sr, er, ?_⟩
  unfold asI at p'
  refine p'.bind fun d S1 x ad1 H1 g r p1 => ?_
  cases r with
  | int z => exact ⟨z, rfl, p1 _ ad1 H1 (Good.refl g.sr) rfl⟩
  | _ => exact False.elim p1
theorem x_sl {lo hi : Option Expr} {p2 : Pos} (ha : PE X a (tE X.K R i)) (hl : PO X lo (tO X.K R j)) (hh : PO X hi (tO X.K R l)) : PE X (.Subscript a (.Slice lo hi none p2) pos) (tE X.K R (.sl i j l)) :=
  (pe_slice sl_D ha hl hh).imp fun σ H Q q => by
    obtain ⟨hd, ad, S, ρ, sr, er, p⟩ := q
    simp only [ev] at p
    refine ⟨hd, ad, S, ρ, sr, er, p.bind fun d1 S1 x ad1 H1 g1 r1 p1 => ?_⟩
    refine ⟨hd, ad1, S1, ρ, g1.sr, er.go g1, p1.bind fun o1 S2 b1 ad2 H2 g2 r2 p2 => ?_⟩
    refine ⟨hd, ad2, S2, ρ, g2.sr, er.go (g1.trans g2), p2.bind fun o2 S3 b2 ad3 H3 g3 r3 p3 => ?_⟩
    have e1 : b1 = o1 := r2
    have e2 : b2 = o2 := r3
    subst e1 e2
    cases e : slD d1 b1 b2 with
    | none => rw [e] at p3; exact False.elim p3
    | some d =>
      rw [e] at p3
      exact ⟨hd, ad3, S3, d1, d, g3.sr, r1.mono (g2.trans g3).ex (g2.trans g3).pre, e, fun v H' g r => p3 v ad3 H' g r⟩
/-! ### displays, calls -/
theorem x_nil : PA X [] (tA X.K R []) := pa_nil.imp fun σ H Q q => by
  obtain ⟨hd, ad, S, ρ, sr, er, p⟩ := q
  simp only [evs] at p
  exact p [] ad H (Good.refl sr) .nil
theorem x_cons {es : List Expr} {is : List E} (ha : PE X a (tE X.K R i)) (hr : PA X es (tA X.K R is)) (hn : noStar a = true) : PA X (a :: es) (tA X.K R (i :: is)) := (pa_cons ha hr (star_cons hn)).imp fun σ H Q q => by
  obtain ⟨hd, ad, S, ρ, sr, er, p⟩ := q
  simp only [evs] at p
  refine ⟨hd, ad, S, ρ, sr, er, p.bind fun d1 S1 x ad1 H1 g1 r1 p1 => ?_⟩
  refine ⟨hd, ad1, S1, ρ, g1.sr, er.go g1, p1.bind fun ds S2 xs ad2 H2 g2 r2 p2 => ?_⟩
  exact p2 _ ad2 H2 (Good.refl g2.sr) (.cons (r1.mono g2.ex g2.pre) r2)
theorem evs_len {F : Nat → List D → Store → Out D} : ∀ {is : List E} {ρ : Slots} {S S' : Store} {ds : List D}, evs F is ρ S = .ok ds S' → ds.length = is.length
  | [], ρ, S, S', ds, h => by
    simp only [evs] at h
    cases h
    rfl
  | i :: is, ρ, S, S', ds, h => by
    simp only [evs] at h
    cases e1 : ev F i ρ S with
    | ok d S1 =>
      rw [e1, Out.bind_ok] at h
      cases e2 : evs F is ρ S1 with
      | ok ds' S2 =>
        rw [e2, Out.bind_ok] at h
        cases h
        simp [evs_len e2]
      | ex x S2 => rw [e2] at h; cases h
      | no => rw [e2] at h; cases h
    | ex x S1 => rw [e1] at h; cases h
    | no => rw [e1] at h; cases h
theorem x_tup {es : List Expr} {is : List E} {k : Nat} (ha : PA X es (tA X.K R is)) (hl : is.length = es.length) (hz : roomy es.length = true) : PE X (.Tuple es k pos) (tE X.K R (.tup is)) := (pe_tup ha).imp fun σ H Q q => by
  obtain ⟨hd, ad, S, ρ, sr, er, p⟩ := q
  simp only [ev] at p
  have p' := p.bind (rel := RpAll X.K) (Q := fun xs H1 => ∃ ds ad1 S1, Good X.K hd ad S H ad1 S1 H1 ∧ RpAll X.K (era hd ad1 S1 H1) ad1 xs ds ∧ Post X.K R.xv R.W hd (Rp X.K) ad1 S1 H1 (Out.ok (D.tup ds) S1) Q) fun ds S1 xs ad1 H1 g1 r1 p1 => ⟨ds, ad1, S1, g1, r1, p1⟩
  refine ⟨hd, ad, S, ρ, sr, er, p'.imp fun ds S1 xs ad1 H1 e g r q => ?_⟩
  obtain ⟨ds', ad2, S2, g2, r2, p2⟩ := q
  refine ⟨?_, fun pp hp => ?_⟩
  · rw [r.length, evs_len e, hl]
    exact sz_of hz
  · obtain ⟨g3, r3⟩ := mk_tup g2.sr hp r2
    exact p2 _ ad2 _ g3 r3
theorem x_lst {es : List Expr} {is : List E} (ha : PA X es (tA X.K R is)) (hl : is.length = es.length) (hz : roomy es.length = true) : PE X (.List es pos) (tE X.K R (.lst is)) := (pe_lst ha).imp fun σ H Q q => by
  obtain ⟨hd, ad, S, ρ, sr, er, p⟩ := q
  simp only [ev] at p
  have p' := p.bind (rel := RpAll X.K) (Q := fun xs H1 => ∃ ds ad1 S1, Good X.K hd ad S H ad1 S1 H1 ∧ RpAll X.K (era hd ad1 S1 H1) ad1 xs ds ∧ Post X.K R.xv R.W hd (Rp X.K) ad1 S1 H1 (Out.ok (D.lst ds) S1) Q) fun ds S1 xs ad1 H1 g1 r1 p1 => ⟨ds, ad1, S1, g1, r1, p1⟩
  refine ⟨hd, ad, S, ρ, sr, er, p'.imp fun ds S1 xs ad1 H1 e g r q => ?_⟩
  obtain ⟨ds', ad2, S2, g2, r2, p2⟩ := q
  refine ⟨?_, fun pp hp => ?_⟩
  · rw [r.length, evs_len e, hl]
    exact sz_of hz
  · obtain ⟨g3, r3⟩ := mk_lst g2.sr hp r2
    exact p2 _ ad2 _ g3 r3
theorem x_new {es : List Expr} {is : List E} (ha : PA X es (tA X.K R is)) (hl : is.length = es.length) (hz : roomy es.length = true) : PE X (.List es pos) (tE X.K R (.new is)) := (pe_lst ha).imp fun σ H Q q => by
  obtain ⟨hd, ad, S, ρ, sr, er, p⟩ := q
  simp only [ev] at p
  have p' := p.bind (rel := RpAll X.K) (Q := fun xs H1 => ∃ ds ad1 S1, Good X.K hd ad S H ad1 S1 H1 ∧ RpAll X.K (era hd ad1 S1 H1) ad1 xs ds ∧ Post X.K R.xv R.W hd (Rp X.K) ad1 S1 H1 (Out.ok (D.loc S1.length) (S1 ++ [some (.ls ds)])) Q) fun ds S1 xs ad1 H1 g1 r1 p1 => ⟨ds, ad1, S1, g1, r1, p1⟩
  refine ⟨hd, ad, S, ρ, sr, er, p'.imp fun ds S1 xs ad1 H1 e g r q => ?_⟩
  obtain ⟨ds', ad2, S2, g2, r2, p2⟩ := q
  refine ⟨?_, fun pp hp => ?_⟩
  · rw [r.length, evs_len e, hl]
    exact sz_of hz
  · obtain ⟨g3, h3⟩ := g2.sr.alloc hp r2
    exact p2 _ _ _ g3 (.loc h3)
theorem x_prim {pr : Pr} {es : List Expr} {is : List E} {p : Pos} (hw : X.w = Wd.w) (cc : X.calm = true) (hg : Gl X pr.name) (hm : X.mg pr.name = none) (ha : PA X (a :: es) (tA X.K R is)) (hs : ∀ e ∈ a :: es, noStar e = true) :
    PE X (.Call (.Name pr.name p) (a :: es) [] pos) (tE X.K R (.prim pr is)) := (pe_callP (pr_D hw cc pr) hg hm ha (star_cons (hs a List.mem_cons_self)) (star_any fun e he => hs e (List.mem_cons_of_mem _ he))).imp fun σ H Q q => by
  obtain ⟨hd, ad, S, ρ, sr, er, p⟩ := q
  simp only [ev] at p
  refine ⟨hd, ad, S, ρ, sr, er, p.bind fun ds S1 xs ad1 H1 g1 r1 p1 => ?_⟩
  cases e : prD pr ds S1 with
  | none => rw [e] at p1; exact False.elim p1
  | some d =>
    rw [e] at p1
    exact ⟨hd, ad1, S1, ds, d, g1.sr, r1, e, fun v H' g r => p1 v ad1 H' g r⟩
theorem x_isi1 {t : Ty} {p p2 : Pos} (hg : Gl X "isinstance") (hm : X.mg "isinstance" = none) (hgt : Gl X t.nm) (hmt : X.mg t.nm = none) (ha : PE X a (tE X.K R i)) (hs : noStar a = true) :
    PE X (.Call (.Name "isinstance" p) [a, .Name t.nm p2] [] pos) (tE X.K R (.isi [t] i)) := by
  have ht : PE X (.Name t.nm p2) (tC (.ty t.name)) := pe_bltn hgt hmt (ty_boot t) rfl (ty_ok t).1 (ty_ok t).2
  refine (pe_callB (isi_D t) hg hm (by decide +kernel) (pa_cons ha (pa_cons ht pa_nil) (star_cons hs)) (by decide +kernel) (by decide +kernel) (star_cons hs) (by rfl)).imp fun σ H Q q => ?_
  obtain ⟨hd, ad, S, ρ, sr, er, p⟩ := q
  simp only [ev] at p
  refine ⟨hd, ad, S, ρ, sr, er, p.bind fun d S1 x ad1 H1 g1 r1 p1 => ?_⟩
  cases e : tyD t d with
  | none =>
    simp only [tysD, e] at p1
    exact False.elim p1
  | some bb =>
    have p2 : Post X.K R.xv R.W hd (Rp X.K) ad1 S1 H1 (Out.ok (D.bl bb) S1) Q := by simpa [tysD, e] using p1
    exact ⟨hd, ad1, S1, x, d, bb, rfl, g1.sr, r1, e, p2 _ ad1 H1 (Good.refl g1.sr) (.bl bb)⟩
theorem x_tys (g : XOk X R G) (c : Cok X R C) : ∀ (es : List Expr) (ts : List Ty), chkTy C es ts = true → PA X es (fun σ H Q => Q (ts.map fun t => V.ty t.name) H) ∧ es.length = ts.length ∧ ∀ e ∈ es, noStar e = true
  | [], [], h => ⟨pa_nil, rfl, fun _ h => nomatch h⟩
  | .Name x p :: es, t :: ts, h => by
    simp only [chkTy, Bool.and_eq_true] at h
    obtain ⟨rfl, hg, hm⟩ := c.bln g h.1
    have ht : PE X (.Name t.nm p) (tC (.ty t.name)) := pe_bltn hg hm (ty_boot t) rfl (ty_ok t).1 (ty_ok t).2
    obtain ⟨h1, h2, h3⟩ := x_tys g c es ts h.2
    refine ⟨(pa_cons ht h1).imp fun σ H Q q => q, by simp [h2], fun e he => ?_⟩
    rcases List.mem_cons.mp he with rfl | he
    · rfl
    · exact h3 e he
  | [], _ :: _, h => by simp [chkTy] at h
  | e :: _, [], h => by cases e <;> simp [chkTy] at h
  | .BoolOp .. :: _, _ :: _, h => by simp [chkTy] at h
  | .NamedExpr .. :: _, _ :: _, h => by simp [chkTy] at h
  | .BinOp .. :: _, _ :: _, h => by simp [chkTy] at h
  | .UnaryOp .. :: _, _ :: _, h => by simp [chkTy] at h
  | .Lambda .. :: _, _ :: _, h => by simp [chkTy] at h
  | .IfExp .. :: _, _ :: _, h => by simp [chkTy] at h
  | .Dict .. :: _, _ :: _, h => by simp [chkTy] at h
  | .Set .. :: _, _ :: _, h => by simp [chkTy] at h
  | .ListComp .. :: _, _ :: _, h => by simp [chkTy] at h
  | .SetComp .. :: _, _ :: _, h => by simp [chkTy] at h
  | .DictComp .. :: _, _ :: _, h => by simp [chkTy] at h
  | .GeneratorExp .. :: _, _ :: _, h => by simp [chkTy] at h
  | .Await .. :: _, _ :: _, h => by simp [chkTy] at h
  | .Yield .. :: _, _ :: _, h => by simp [chkTy] at h
  | .YieldFrom .. :: _, _ :: _, h => by simp [chkTy] at h
  | .Compare .. :: _, _ :: _, h => by simp [chkTy] at h
  | .Call .. :: _, _ :: _, h => by simp [chkTy] at h
  | .FormattedValue .. :: _, _ :: _, h => by simp [chkTy] at h
  | .JoinedStr .. :: _, _ :: _, h => by simp [chkTy] at h
  | .Constant .. :: _, _ :: _, h => by simp [chkTy] at h
  | .Attribute .. :: _, _ :: _, h => by simp [chkTy] at h
  | .Subscript .. :: _, _ :: _, h => by simp [chkTy] at h
  | .Starred .. :: _, _ :: _, h => by simp [chkTy] at h
  | .List .. :: _, _ :: _, h => by simp [chkTy] at h
  | .Tuple .. :: _, _ :: _, h => by simp [chkTy] at h
  | .Slice .. :: _, _ :: _, h => by simp [chkTy] at h
theorem x_isiT {ts : List Ty} {es : List Expr} {k : Nat} {p p2 : Pos} (g : XOk X R G) (c : Cok X R C) (hg : Gl X "isinstance") (hm : X.mg "isinstance" = none) (ht : chkTy C es ts = true) (hn : ts ≠ []) (hz : roomy ts.length = true) (ha : PE X a (tE X.K R i)) (hs : noStar a = true) :
    PE X (.Call (.Name "isinstance" p) [a, .Tuple es k p2] [] pos) (tE X.K R (.isi ts i)) := by
  obtain ⟨h1, h2, h3⟩ := x_tys g c es ts ht
  refine (pe_callB (isiT_D ts) hg hm (by decide +kernel) (pa_cons ha (pa_cons (pe_tup h1) pa_nil) (star_cons hs)) (by decide +kernel) (by decide +kernel) (star_cons hs) (by rfl)).imp fun σ H Q q => ?_
  obtain ⟨hd, ad, S, ρ, sr, er, p⟩ := q
  simp only [ev] at p
  refine ⟨hd, ad, S, ρ, sr, er, p.bind fun d S1 x ad1 H1 g1 r1 p1 => ?_⟩
  refine ⟨by rw [List.length_map]; exact sz_of hz, fun tp hp => ?_⟩
  cases e : tysD ts d with
  | none =>
    rw [e] at p1
    exact False.elim p1
  | some bb =>
    rw [e] at p1
    have g2 := g1.sr.new (o := .tup (ts.map fun t => V.ty t.name)) hp
    exact ⟨hd, ad1, S1, x, d, bb, tp, rfl, upd_same, hn, g2.sr, r1.mono g2.ex g2.pre, e, p1 _ ad1 _ g2 (.bl bb)⟩
theorem x_call {m : Nat} {f : Str} {es : List Expr} {is : List E} {p : Pos} (g : XOk X R G) (c : Cok X R C) (hf : G.fns.lookup f = some m) (hg : Gl X f) (hk : okN f = true) (ha : PA X es (tA X.K R is)) (hl : is.length = es.length) (hs : ∀ e ∈ es, noStar e = true) :
    PE X (.Call (.Name f p) es [] pos) (tE X.K R (.call m is)) := by
  obtain ⟨ad0, fd, ps, h1, h2, h3, h4⟩ := g.fns f m hf
  have hp : Passes (L2.CX X.prog X.w) X R.W := passes_call c.tk fun _ _ _ _ h => h
  have go : ∀ {σ : L2.St} {H : Hp} {Q : VK}, tE X.K R (.call m is) σ H Q → tA X.K R is σ H fun vs H1 => spI X.K R.T R.xv R.k m (vs ++ []) H1 Q R.W := fun {σ H Q} q => by
    obtain ⟨hd, ad, S, ρ, sr, er, p⟩ := q
    simp only [ev] at p
    refine ⟨hd, ad, S, ρ, sr, er, p.bind fun ds S1 xs ad1 H1 g1 r1 p1 => ?_⟩
    rw [List.append_nil]
    exact ⟨hd, ad1, S1, ds, g1.sr, r1, p1⟩
  cases es with
  | nil =>
    refine (pe_call0 h4 c.room hg h1 h2 h3 .nil hp (okN_1 hk)).imp fun σ H Q q => ?_
    obtain ⟨hd, ad, S, ρ, sr, er, p⟩ := q
    cases is with
    | nil =>
      simp only [ev, evs, Out.bind_ok] at p
      exact ⟨hd, ad, S, [], sr, .nil, p⟩
    | cons i is => cases hl
  | cons e es =>
    exact (pe_call h4 c.room hg h1 h2 h3 .nil hp ha (okN_1 hk) (star_cons (hs e List.mem_cons_self)) (star_any fun e he => hs e (List.mem_cons_of_mem _ he))).imp fun σ H Q q => go q
end
end Wt
set_option maxRecDepth 100000
set_option maxHeartbeats 1000000
namespace Wt
open PySem L2
variable [Wd]
theorem Out.bind_assoc {α β γ : Type} (o : Out α) (f : α → Store → Out β) (g : β → Store → Out γ) : (o.bind f).bind g = o.bind fun a S => (f a S).bind g := by
  cases o <;> rfl
theorem evs_one {F : Nat → List D → Store → Out D} {i : E} {ρ : Slots} {S : Store} : evs F [i] ρ S = (ev F i ρ S).bind fun d S1 => .ok [d] S1 := by
  simp only [evs, Out.bind_ok]
section
variable {X : Cx} {R : Rt} {C : Cc} {G : Gc}
variable {a b c : Expr} {i j l : E} {pos : Pos}
/-! ### what is walked -/
theorem x_dat {tg : Expr} (ha : PE X a (tE X.K R i)) : PI X tg a (tI X.K R .dat [i]) := (pi_sq ha).imp fun σ H Q q => by
  obtain ⟨hd, ad, S, ρ, sr, er, p⟩ := q
  unfold itO at p
  rw [evs_one, Out.bind_assoc] at p
  refine ⟨hd, ad, S, ρ, sr, er, p.bind fun d S1 x ad1 H1 g1 r1 p1 => ?_⟩
  simp only [Out.bind_ok] at p1
  cases r1 with
  | lst h1 a1 => exact ⟨_, rfl, .inl ⟨_, SqL.of (era_of h1), p1 _ ad1 H1 (Good.refl g1.sr) (it_list h1 a1)⟩⟩
  | tup h1 a1 => exact ⟨_, rfl, .inr (.inl ⟨_, ex_t era_ex h1, p1 _ ad1 H1 (Good.refl g1.sr) (it_tup h1 a1)⟩)⟩
  | scr h1 => exact ⟨_, rfl, .inl ⟨_, ex_l era_ex h1, p1 _ ad1 H1 (Good.refl g1.sr) (it_scr h1)⟩⟩
  | dcN h1 h0 h2 s1 s2 =>
    obtain ⟨a0, o, u, kv, e, h, fz, r1, r2⟩ := dic_ents g1.sr (.dcN h1 h0 h2 s1 s2)
    exact ⟨_, e, .inr (.inr ⟨o, u, kv, fz, era_of h, p1 _ ad1 H1 (Good.refl g1.sr) (it_keys h r1)⟩)⟩
  | dcK h1 h2 s2 =>
    obtain ⟨a0, o, u, kv, e, h, fz, r1, r2⟩ := dic_ents g1.sr (.dcK h1 h2 s2)
    exact ⟨_, e, .inr (.inr ⟨o, u, kv, fz, era_of h, p1 _ ad1 H1 (Good.refl g1.sr) (it_keys h r1)⟩)⟩
  | _ => exact False.elim p1
theorem bnd_iff {i : Int} (h : bnd i = true) : -(2 ^ 62) ≤ i ∧ i < 2 ^ 62 := by
  unfold bnd at h
  rw [Bool.and_eq_true] at h
  exact ⟨of_decide_eq_true h.1, of_decide_eq_true h.2⟩
theorem x_rng1 {tg : Expr} {p : Pos} (hg : Gl X "range") (hm : X.mg "range" = none) (ha : PE X a (tE X.K R i)) (hs : noStar a = true) : PI X tg (.Call (.Name "range" p) [a] [] pos) (tI X.K R .rng [i]) :=
  (pi_range1 hg hm (x_cons ha x_nil hs) (star_cons hs)).imp fun σ H Q q => by
    obtain ⟨hd, ad, S, ρ, sr, er, p⟩ := q
    refine ⟨hd, ad, S, ρ, sr, er, Post.bindE (rel := RpAll X.K) p fun ds S1 vs ad1 H1 e g1 r1 p1 => ?_⟩
    have hl := evs_len e
    cases r1 with
    | nil => cases hl
    | cons r1 r2 =>
      cases r2 with
      | cons _ _ => cases hl
      | nil =>
        cases r1 with
        | int j =>
          simp only [itD] at p1
          by_cases hb : bnd j = true
          · rw [if_pos hb] at p1
            exact ⟨j, rfl, (bnd_iff hb).1, (bnd_iff hb).2, p1 _ ad1 H1 (Good.refl g1.sr) it_rng⟩
          · rw [if_neg hb] at p1
            exact False.elim p1
        | _ => exact False.elim p1
theorem x_rng2 {tg : Expr} {p : Pos} (hg : Gl X "range") (hm : X.mg "range" = none) (ha : PE X a (tE X.K R i)) (hs : noStar a = true) (hb : PE X b (tE X.K R j)) (hs2 : noStar b = true) : PI X tg (.Call (.Name "range" p) [a, b] [] pos) (tI X.K R .rng [i, j]) :=
  (pi_range2 hg hm (x_cons ha (x_cons hb x_nil hs2) hs) (by rw [star_cons hs, star_cons hs2]; rfl) (by rw [star_cons hs2]; rfl)).imp fun σ H Q q => by
    obtain ⟨hd, ad, S, ρ, sr, er, p⟩ := q
    refine ⟨hd, ad, S, ρ, sr, er, Post.bindE (rel := RpAll X.K) p fun ds S1 vs ad1 H1 e g1 r1 p1 => ?_⟩
    have hl := evs_len e
    cases r1 with
    | nil => cases hl
    | cons r1 r2 =>
      cases r2 with
      | nil => cases hl
      | cons r2 r3 =>
        cases r3 with
        | cons _ _ => cases hl
        | nil =>
          cases r1 with
          | int u =>
            cases r2 with
            | int v =>
              simp only [itD] at p1
              by_cases hb : (bnd u && bnd v) = true
              · rw [if_pos hb] at p1
                rw [Bool.and_eq_true] at hb
                exact ⟨u, v, rfl, ⟨(bnd_iff hb.1).1, (bnd_iff hb.1).2, (bnd_iff hb.2).1, (bnd_iff hb.2).2⟩, p1 _ ad1 H1 (Good.refl g1.sr) it_rng⟩
              · rw [if_neg hb] at p1
                exact False.elim p1
            | _ => exact False.elim p1
          | _ => exact False.elim p1
theorem x_zip {elts : List Expr} {kk : Nat} {tpos p : Pos} (hg : Gl X "zip") (hm : X.mg "zip" = none) (ha : PE X a (tE X.K R i)) (hs : noStar a = true) (hb : PE X b (tE X.K R j)) (hs2 : noStar b = true) :
    PI X (.Tuple elts kk tpos) (.Call (.Name "zip" p) [a, b] [] pos) (tI X.K R .zip [i, j]) :=
  (RZ.pi_zipA hg hm (x_cons ha (x_cons hb x_nil hs2) hs) (star_cons hs) (star_any fun e he => by simp at he; subst he; exact hs2)).imp fun σ H Q q => by
    obtain ⟨hd, ad, S, ρ, sr, er, p⟩ := q
    refine ⟨hd, ad, S, ρ, sr, er, Post.bindE (rel := RpAll X.K) p fun ds S1 vs ad1 H1 e g1 r1 p1 => ?_⟩
    have hl := evs_len e
    cases r1 with
    | nil => cases hl
    | cons r1 r2 =>
      cases r2 with
      | nil => cases hl
      | cons r2 r3 =>
        cases r3 with
        | cons _ _ => cases hl
        | nil =>
          cases r1 with
          | lst h1 a1 =>
            cases r2 with
            | lst h2 a2 => exact ⟨_, _, _, _, rfl, .inl ⟨SqL.of (era_of h1), SqL.of (era_of h2), p1 _ ad1 H1 (Good.refl g1.sr) (it_pair rfl (walk_zip rfl) (fun H' e => ⟨SqL.of (e _ _ h1), SqL.of (e _ _ h2)⟩) a1 a2)⟩⟩
            | _ => exact False.elim p1
          | tup h1 a1 =>
            cases r2 with
            | tup h2 a2 => exact ⟨_, _, _, _, rfl, .inr ⟨ex_t era_ex h1, ex_t era_ex h2, p1 _ ad1 H1 (Good.refl g1.sr) (it_pair rfl (walk_zipT rfl) (fun H' e => ⟨ex_t e h1, ex_t e h2⟩) a1 a2)⟩⟩
            | _ => exact False.elim p1
          | _ => exact False.elim p1
/-! ### append -/
theorem base_of {o : Expr} {name : Str} {env : PySem.Env} {w : Sem Value} (h : noCall o = true) : attributeBase o name env w = w := by
  cases o with
  | Call f es ks p => cases f with
    | Name id p2 => cases es with
      | nil => cases h
      | cons _ _ => rfl
    | _ => cases h
  | _ => rfl
theorem x_vals {tg o : Expr} {ap cp : Pos} (ho : PE X o (tE X.K R i)) (hc : noCall o = true) (hl : (ap.endLine == cp.line) = true) : PI X tg (.Call (.Attribute o "values" ap) [] [] cp) (tI X.K R .vals [i]) := (pi_WkV ho (base_of hc) hl).imp fun σ H Q q => by
  obtain ⟨hd, ad, S, ρ, sr, er, p⟩ := q
  unfold itO at p
  rw [evs_one, Out.bind_assoc] at p
  refine ⟨hd, ad, S, ρ, sr, er, p.bind fun d S1 x ad1 H1 g1 r1 p1 => ?_⟩
  simp only [Out.bind_ok] at p1
  cases d with
  | dic ks ds =>
    obtain ⟨a0, o, u, kv, e, h, fz, r1, r2⟩ := dic_ents g1.sr r1
    exact ⟨a0, o, u, kv, e, fz, era_of h, p1 _ ad1 H1 (Good.refl g1.sr) (it_vals h r2)⟩
  | _ => exact False.elim p1
theorem x_items {elts : List Expr} {kk : Nat} {tpos : Pos} {o : Expr} {ap cp : Pos} (ho : PE X o (tE X.K R i)) (hc : noCall o = true) (hl : (ap.endLine == cp.line) = true) : PI X (.Tuple elts kk tpos) (.Call (.Attribute o "items" ap) [] [] cp) (tI X.K R .items [i]) := (pi_WkI ho (base_of hc) hl).imp fun σ H Q q => by
  obtain ⟨hd, ad, S, ρ, sr, er, p⟩ := q
  unfold itO at p
  rw [evs_one, Out.bind_assoc] at p
  refine ⟨hd, ad, S, ρ, sr, er, p.bind fun d S1 x ad1 H1 g1 r1 p1 => ?_⟩
  simp only [Out.bind_ok] at p1
  cases d with
  | dic ks ds =>
    obtain ⟨a0, o, u, kv, e, h, fz, r1, r2⟩ := dic_ents g1.sr r1
    exact ⟨a0, o, u, kv, e, fz, era_of h, p1 _ ad1 H1 (Good.refl g1.sr) (it_items h r1 r2)⟩
  | _ => exact False.elim p1
theorem x_pop {o : Expr} {ap cp : Pos} (ho : PE X o (tE X.K R i)) (hc : noCall o = true) (hl : (ap.endLine == cp.line) = true) : PE X (.Call (.Attribute o "pop" ap) [] [] cp) (tE X.K R (.meth .pop i [])) := by
  refine (pe_bm0 PySem.F.plainAttrs_list PySem.F.slot_list_pop PySem.F.type_list_pop pop_D ho (base_of hc) hl).imp fun σ H Q q => ?_
  obtain ⟨hd, ad, S, ρ, sr, er, p⟩ := q
  simp only [ev] at p
  refine ⟨hd, ad, S, ρ, sr, er, p.bind fun d S1 x ad1 H1 g1 r1 p1 => ?_⟩
  by_cases hr : rcv .pop d S1 = true
  · rw [if_pos hr] at p1
    simp only [evs, Out.bind_ok] at p1
    unfold rcv at hr
    split at hr
    · split at hr
      · rename_i hS
        cases r1 with | loc h1 =>
        obtain ⟨vs, h3, _⟩ := g1.sr.ls _ _ _ h1 hS
        refine ⟨.inl ⟨rfl, vs, SqL.of h3⟩, ?_⟩
        simp only [mtD, hS] at p1
        split at p1
        · rename_i d2 S2 hq
          split at hq
          · rename_i d3 hd3
            cases hq
            exact ⟨hd, ad1, _, _, _, _, g1.sr, rfl, .loc h1, hS, hd3, fun v H' g r => p1 v ad1 H' g r⟩
          · cases hq
        · exact False.elim p1
      · cases hr
    · cases hr
  · rw [if_neg hr] at p1
    exact False.elim p1
theorem x_app {o : Expr} {ap cp : Pos} (ho : PE X o (tE X.K R i)) (ha : PE X a (tE X.K R j)) (hs : noStar a = true) (hc : noCall o = true) (hl : (ap.endLine == cp.line) = true) :
    PE X (.Call (.Attribute o "append" ap) [a] [] cp) (tE X.K R (.meth .append i [j])) := by
  refine (pe_bm PySem.F.plainAttrs_list PySem.F.slot_list_append PySem.F.type_list_append app_D ho (x_cons ha x_nil hs) (base_of hc) (by rw [star_cons hs]; rfl) hl (star_cons hs) (by rfl)).imp fun σ H Q q => ?_
  obtain ⟨hd, ad, S, ρ, sr, er, p⟩ := q
  simp only [ev] at p
  refine ⟨hd, ad, S, ρ, sr, er, p.bind fun d S1 x ad1 H1 g1 r1 p1 => ?_⟩
  by_cases hr : rcv .append d S1 = true
  · rw [if_pos hr] at p1
    unfold rcv at hr
    split at hr
    · split at hr
      · rename_i hS
        cases r1 with | loc h1 =>
        obtain ⟨vs, h3, _⟩ := g1.sr.ls _ _ _ h1 hS
        refine ⟨.inl ⟨rfl, vs, SqL.of h3⟩, hd, ad1, _, ρ, g1.sr, er.go g1, Post.bindE (rel := RpAll X.K) p1 fun ds S2 ys ad2 H2 e g2 r2 p2 => ?_⟩
        have hl := evs_len e
        cases r2 with
        | nil => cases hl
        | cons r2 r3 =>
          cases r3 with
          | cons _ _ => cases hl
          | nil =>
            simp only [mtD] at p2
            split at p2
            · rename_i d' S3 e2
              split at e2
              · rename_i hS2
                split at e2
                · rename_i hz
                  cases e2
                  exact ⟨hd, ad2, S2, _, _, _, _, g2.sr, rfl, .loc (g2.pre _ _ h1), r2, hS2, hz, fun H' g => p2 _ ad2 H' g .non⟩
                · cases e2
              · cases e2
            · exact False.elim p2
      · cases hr
    · cases hr
  · rw [if_neg hr] at p1
    exact False.elim p1
end
end Wt
set_option maxRecDepth 100000
set_option maxHeartbeats 1000000
/-! {}, {k: v}, d.get(..). -/
namespace Wt
open PySem L2
variable [Wd]
section
variable {X : Cx} {R : Rt} {C : Cc} {G : Gc}
variable {a b c : Expr} {i j l : E} {pos : Pos}
theorem x_dic0 : PE X (.Dict [] [] pos) (tE X.K R .dic0) := pe_dnewK.imp fun σ H Q q => by
  obtain ⟨hd, ad, S, ρ, sr, er, p⟩ := q
  simp only [ev] at p
  intro pp hp
  obtain ⟨g, h⟩ := sr.allocM (o := .dK []) (m := .dc []) hp (.inr ⟨[], upd_same, .nil⟩)
  exact p _ _ _ g (.loc h)
def tDic1 (K : PySem.W.Frag) (tk tv : TE) : TE := fun σ H Q => ∀ p, H p = none → tk σ (upd H p (.dK [])) fun x H1 => tv σ H1 fun y H2 => H2 p = some (.dK []) ∧ ∃ b q, x = .ref b ∧ KIs K H2 (.ref b) q ∧ q.depth ≤ 8 ∧ Q (.ref p) (upd H2 p (DicO p [(q, b, y)]))
theorem pe_dic1 {tk tv : TE} (hw : X.w = Wd.w) (hu : X.A.units + 9 < cLine) (hk : PE X a tk) (hv : PE X b tv) : PE X (.Dict [some a] [b] pos) (tDic1 X.K tk tv) := by
  refine ⟨fun pins s σ H Q I q => ?_⟩
  have hn := I.hok.fresh (Nat.le_refl s.heap.objs.size)
  have I1 : Inv X pins σ (upd H s.heap.objs.size (.dK [])) { s with heap := s.heap.push { cls := .type "dict", data := .dict #[] } } :=
    I.laid (t' := s.toks) (fun _ _ z => Heap.get?_push_of_some _ z) (Nat.le_refl _) (dk_empty s.heap I.big)
  have e0 : eval (.Dict [some a] [b] pos) X.env = (do
      standAt pos
      let d ← subDict (pairTrees [some a] [b] X.env pos)
      pure (Value.ref d)) := by
    show (do standAt pos; dictDisplay ((evalEachOpt [some a] X.env).zip ((evalEach [b] X.env).map fun v => do let x ← v; standAt pos; pure x))) = _
    rw [zip_pairTrees [some a] [b] X.env pos rfl rfl, dictDisplay_pairs (pairTrees [some a] [b] X.env pos) (by simp [pairTrees]) (by simp [pairTrees])]
  rw [e0]
  refine wpAny_bind (wpAny_standAt (wpAny_bind ?_))
  refine wpAny_subDictH (knd := nestedKind X.prog X.w) (by show X.A.units + 8 < cLine; omega) (by simp [pairTrees]) ?_
  refine pairTrees_cons_walk (thn (hk.run pins _ σ _ _ I1 (q _ hn)) fun u s1 ⟨x, H1, I2, r1, q1⟩ => thn (hv.run pins s1 σ H1 _ I2 q1) fun w s2 ⟨y, H2, I3, r2, e, b0, k, ex, kb, kd, q2⟩ => pairTrees_nil_walk ?_)
  subst ex
  cases r1
  obtain ⟨_, hs, ys, rel, dd⟩ := atN0 I3 (.of e)
  cases rel
  refine ⟨[(k, b0, w)], ⟨rfl, rfl, ⟨kis_is I3 kb rfl, kd⟩, True.intro⟩, dd, fun h' tk dd' sb => wpAny_pure ⟨.ref s.heap.objs.size, _, ?_, rfl, q2⟩⟩
  refine d_write I3 (by rw [e]; exact True.intro) sb (let ⟨q, _, _, hq, _⟩ := dd'; ⟨q, hq⟩) (dic_ok hw ?_ hs ?_ dd')
  · show 1 ≤ sizeLine
    rw [sizeLine_eq]
    decide
  · exact .cons ⟨rfl, rfl, r2⟩ .nil
end
section
variable {K : PySem.W.Frag} {hd ad ad1 : List Addr} {S S1 : Store} {H H1 : Hp} {p : Addr} {o : HO} {m : M}
/-- a hidden thing comes into the store -/
theorem SR.reveal (s : SR K (p :: hd) ad S H) (np : p ∉ hd) (r : MR K (era (p :: hd) ad S H) ad (upd H p o) p m) :
    SR K hd (ad ++ [p]) (S ++ [some m]) (upd H p o) ∧ era hd (ad ++ [p]) (S ++ [some m]) (upd H p o) = era (p :: hd) ad S H ∧ (ad ++ [p])[S.length]? = some p := by
  have na : p ∉ ad := s.dj p List.mem_cons_self
  have hp : (ad ++ [p])[S.length]? = some p := by
    rw [← s.len, List.getElem?_append_right (Nat.le_refl _)]
    simp
  have e : era hd (ad ++ [p]) (S ++ [some m]) (upd H p o) = era (p :: hd) ad S H := by
    funext b
    by_cases hb : b = p
    · subst hb
      rw [era_lv ⟨S.length, m, hp, by simp⟩, era_hd List.mem_cons_self]
    · unfold era
      have q : (b ∈ hd ∨ Lv (ad ++ [p]) (S ++ [some m]) b) ↔ (b ∈ p :: hd ∨ Lv ad S b) := by
        rw [lv_app s.len hb, List.mem_cons]
        exact ⟨fun z => z.imp .inr id, fun z => z.imp (fun z => z.resolve_left hb) id⟩
      by_cases hl : b ∈ p :: hd ∨ Lv ad S b
      · rw [if_pos hl, if_pos (q.mpr hl)]
      · rw [if_neg hl, if_neg (fun z => hl (q.mp z)), upd_ne hb]
  refine ⟨⟨by simp [s.len], ?_, fun a ha => ?_, fun a ha => ?_, fun a ha hb => ?_, fun n a y h1 h2 => ?_⟩, e, hp⟩
  · rw [List.nodup_append]
    refine ⟨s.nd, by simp, fun x hx y hy => ?_⟩
    rw [List.mem_singleton.mp hy]
    exact fun z => na (z ▸ hx)
  · by_cases hb : a = p
    · subst hb
      exact ⟨_, upd_same⟩
    · obtain ⟨u, hu⟩ := s.th a (by simpa [hb] using ha)
      exact ⟨u, by rw [upd_ne hb]; exact hu⟩
  · obtain ⟨u, hu⟩ := s.ht a (List.mem_cons_of_mem _ ha)
    have ne : a ≠ p := fun z => np (by rw [← z]; exact ha)
    exact ⟨u, by rw [upd_ne ne]; exact hu⟩
  · rcases List.mem_append.mp hb with q | q
    · exact s.dj a (List.mem_cons_of_mem _ ha) q
    · exact np (List.mem_singleton.mp q ▸ ha)
  · rw [e]
    by_cases hn : n < ad.length
    · rw [List.getElem?_append_left hn] at h1
      rw [List.getElem?_append_left (by rw [← s.len]; exact hn)] at h2
      exact (s.ms n a y h1 h2).mono (Ex.refl _) (Pre.app _ _) (upd_ne fun z => na (by rw [← z]; exact List.mem_of_getElem? h1))
    · rw [List.getElem?_append_right (by omega)] at h1
      rw [List.getElem?_append_right (by have := s.len; omega), ← s.len] at h2
      have hz : n - ad.length = 0 := by
        have q := (List.getElem?_eq_some_iff.mp h1).1
        simp at q
        omega
      rw [hz] at h1 h2
      simp at h1 h2
      subst h1 h2
      exact r.mono (Ex.refl _) (Pre.app _ _) rfl
/-- what has happened beside a hidden new thing -/
theorem Good.unhide (sr : SR K hd ad S H) (hp : H p = none) (g : Good K (p :: hd) ad S (upd H p o) ad1 S1 H1) : Good K hd ad S H ad1 S1 H1 ∧ Ex (era (p :: hd) ad1 S1 H1) (era hd ad1 S1 H1) := by
  have np : p ∉ hd := sr.nothd hp
  obtain ⟨s2, e2, _⟩ := g.sr.show np
  have ex := g.ex
  rw [(sr.hide (o := o) hp).2] at ex
  exact ⟨⟨g.pre, ex.trans e2, s2, fun x hx => by rw [g.hid x (List.mem_cons_of_mem _ hx), upd_ne (fun z => np (by rw [← z]; exact hx))]⟩, e2⟩
theorem PX.mono {xv : Nat → Value} {W : XK} {hd2 : List Addr} {x : Xn} (e : Ex (era hd2 ad S H) (era hd ad S H)) (h : PX K xv W hd ad S H x) : PX K xv W hd2 ad S H x := by
  unfold PX at h ⊢
  cases q : x.by_ with
  | none => simp only [q] at h ⊢; exact h
  | some d =>
    simp only [q] at h ⊢
    exact fun dx v h1 h2 => h dx v (e _ _ h1) (h2.mono e (Pre.refl _))
end
section
variable {X : Cx} {R : Rt} {C : Cc} {G : Gc}
variable {a b c : Expr} {i j l : E} {pos : Pos}
theorem x_dic1 (hw : X.w = Wd.w) (hu : X.A.units + 9 < cLine) (hk : PE X a (tE X.K R i)) (hv : PE X b (tE X.K R j)) : PE X (.Dict [some a] [b] pos) (tE X.K R (.dic1 i j)) := (pe_dic1 hw hu hk hv).imp fun σ H Q q => by
  obtain ⟨hd, ad, S, ρ, sr, er, p⟩ := q
  simp only [ev] at p
  intro pp hp
  have nD : pp ∉ hd := sr.nothd hp
  obtain ⟨sr0, era0⟩ := sr.hide (o := .dK []) hp
  have hh : ∀ x ∈ hd, upd H pp (.dK []) x = H x := fun x hx => upd_ne fun z => nD (z ▸ hx)
  have er0 : ER X.K (era (pp :: hd) ad S (upd H pp (.dK []))) ad σ ρ := by rw [era0]; exact er
  cases e1 : ev (callF R.T R.k) i ρ S with
  | no => rw [e1] at p; exact False.elim p
  | ex x2 S1 =>
    rw [e1] at p
    refine ⟨pp :: hd, ad, S, ρ, sr0, er0, ?_⟩
    rw [e1]
    intro ad1 H1 g1
    obtain ⟨g, e⟩ := Good.unhide sr hp g1
    exact (p ad1 H1 g).mono e
  | ok d1 S1 =>
    rw [e1, Out.bind_ok] at p
    refine ⟨pp :: hd, ad, S, ρ, sr0, er0, ?_⟩
    rw [e1]
    intro x ad1 H1 g1 r1
    refine ⟨pp :: hd, ad1, S1, ρ, g1.sr, er0.go g1, ?_⟩
    cases e2 : ev (callF R.T R.k) j ρ S1 with
    | no => rw [e2] at p; exact False.elim p
    | ex x2 S2 =>
      rw [e2] at p
      intro ad2 H2 g2
      obtain ⟨g, e⟩ := Good.unhide sr hp (g1.trans g2)
      exact (p ad2 H2 g).mono e
    | ok d2 S2 =>
      rw [e2, Out.bind_ok] at p
      intro y ad2 H2 g2 r2
      have g12 := g1.trans g2
      refine ⟨by rw [g12.hid pp List.mem_cons_self, upd_same], ?_⟩
      split at p
      · rename_i ks k hk
        have r1' := r1.mono g2.ex g2.pre
        obtain ⟨kb, kd⟩ := nk_is era_ex 8 r1' hk
        cases r1 with | tup h1 a1 =>
        refine ⟨_, k, rfl, kb, kd, ?_⟩
        obtain ⟨s3, e3, h3⟩ := g2.sr.reveal (o := DicO pp [(k, _, y)]) (m := .dc [(.tup ks, d2)]) nD (.inl ⟨_, upd_same, by simp, .cons ⟨r1', hk, r2⟩ .nil⟩)
        refine p _ _ _ ⟨g12.pre.trans (Pre.app _ _), ?_, s3, fun z hz => ?_⟩ (.loc h3)
        · rw [e3, ← era0]
          exact g12.ex
        · rw [upd_ne (fun q => nD (by rw [← q]; exact hz)), g12.hid z (List.mem_cons_of_mem _ hz), hh z hz]
      · exact False.elim p
/-! ### d.get(k), d.get(k, x) -/
def tGet1 (K : PySem.W.Frag) (td ty : TE) : TE := fun σ H Q => td σ H fun x H1 => ∃ a E0 ad0 kvs0, x = .ref a ∧ Ex E0 H1 ∧ DV K E0 ad0 H1 a kvs0 ∧ ty σ H1 fun y H2 => ∃ E1 ad1 kvs kd r, Ex E1 H2 ∧ DV K E1 ad1 H2 a kvs ∧ Rp K E1 ad1 y kd ∧ lookD kvs kd = some r ∧ ∀ v, Rp K E1 ad1 v (r.getD .non) → Q v H2
theorem pe_get1 {o : Expr} {ap cp : Pos} {td ty : TE} (hw : X.w = Wd.w) (hu : X.A.units + 9 < cLine) (ho : PE X o td) (ha : PE X a ty) (m : M1 X o "get" ap a cp) : PE X (.Call (.Attribute o "get" ap) [a] [] cp) (tGet1 X.K td ty) := by
  refine ⟨fun pins s σ H Q I h => ?_⟩
  refine wpAny_Call_method m.base m.few m.line PySem.F.plainAttrs_dict PySem.F.slot_dict_get PySem.F.type_dict_get (thn (ho.run pins s σ H _ I h) fun u s1 ⟨x, H1, I1, rx, a0, E0, ad0, kvs0, ex, e0, dv, q1⟩ => ?_)
  subst ex
  cases rx
  obtain ⟨t1, t2⟩ := dv_type hw I1 e0 dv
  refine ⟨t1, t2, ?_⟩
  rw [m.trees]
  exact Calls.callWith_builtin rfl (Calls.evalArgs_plain (Calls.spliced_cons (thn (ha.run pins s1 σ H1 _ I1 q1) fun iv s2 ⟨y, H2, I2, ry, E1, ad1, kvs, kd, r, e1, dv2, rk, hl, q2⟩ => Calls.spliced_nil
    (dv_get1 hw hu I2 e1 dv2 rk ry hl fun v w' s' I' rv rr => ⟨v, H2, I', rv, q2 v rr⟩))))
def tGet2 (K : PySem.W.Frag) (td ty tz : TE) : TE := fun σ H Q => td σ H fun x H1 => ∃ a E0 ad0 kvs0, x = .ref a ∧ Ex E0 H1 ∧ DV K E0 ad0 H1 a kvs0 ∧ ty σ H1 fun y H2 => tz σ H2 fun z H3 => ∃ E1 ad1 kvs kd zd r, Ex E1 H3 ∧ DV K E1 ad1 H3 a kvs ∧ Rp K E1 ad1 y kd ∧ Rp K E1 ad1 z zd ∧ lookD kvs kd = some r ∧ ∀ v, Rp K E1 ad1 v (r.getD zd) → Q v H3
theorem pe_get2 {o : Expr} {ap cp : Pos} {td ty tz : TE} (hw : X.w = Wd.w) (hu : X.A.units + 9 < cLine) (ho : PE X o td) (ha : PE X a ty) (hb : PE X b tz) (m : M2 X o "get" ap a b cp) : PE X (.Call (.Attribute o "get" ap) [a, b] [] cp) (tGet2 X.K td ty tz) := by
  refine ⟨fun pins s σ H Q I h => ?_⟩
  refine wpAny_Call_method m.base m.few m.line PySem.F.plainAttrs_dict PySem.F.slot_dict_get PySem.F.type_dict_get (thn (ho.run pins s σ H _ I h) fun u s1 ⟨x, H1, I1, rx, a0, E0, ad0, kvs0, ex, e0, dv, q1⟩ => ?_)
  subst ex
  cases rx
  obtain ⟨t1, t2⟩ := dv_type hw I1 e0 dv
  refine ⟨t1, t2, ?_⟩
  rw [m.trees]
  exact Calls.callWith_builtin rfl (Calls.evalArgs_plain (Calls.spliced_cons (thn (ha.run pins s1 σ H1 _ I1 q1) fun iv s2 ⟨y, H2, I2, ry, q2⟩ =>
    Calls.spliced_cons (thn (hb.run pins s2 σ H2 _ I2 q2) fun fv s3 ⟨z, H3, I3, rz, E1, ad1, kvs, kd, zd, r, e1, dv2, rk, rzd, hl, q3⟩ => Calls.spliced_nil
    (dv_get2 hw hu I3 e1 dv2 rk ry rzd rz hl fun v w' s' I' rv rr => ⟨v, H3, I', rv, q3 v rr⟩)))))
theorem x_get1 {o : Expr} {ap cp : Pos} (hw : X.w = Wd.w) (hu : X.A.units + 9 < cLine) (ho : PE X o (tE X.K R i)) (ha : PE X a (tE X.K R j)) (hs : noStar a = true) (hc : noCall o = true) (hl : (ap.endLine == cp.line) = true) :
    PE X (.Call (.Attribute o "get" ap) [a] [] cp) (tE X.K R (.get1 i j)) := (pe_get1 hw hu ho ha ⟨base_of hc, by rw [star_cons hs]; rfl, hl, by rw [star_cons hs]; rfl⟩).imp fun σ H Q q => by
  obtain ⟨hd, ad, S, ρ, sr, er, p⟩ := q
  simp only [ev] at p
  refine ⟨hd, ad, S, ρ, sr, er, p.bind fun d S1 x ad1 H1 g1 r1 p1 => ?_⟩
  cases hv : viewD S1 d with
  | none => simp only [hv] at p1; exact False.elim p1
  | some kvs0 =>
    obtain ⟨a0, rfl, dv⟩ := dv_of g1.sr r1 hv
    simp only [hv, Option.isSome_some, if_true] at p1
    refine ⟨a0, _, ad1, kvs0, rfl, era_ex, dv, hd, ad1, S1, ρ, g1.sr, er.go g1, p1.bind fun kd S2 y ad2 H2 g2 r2 p2 => ?_⟩
    unfold getD at p2
    cases hv2 : viewD S2 d with
    | none => rw [hv2] at p2; exact False.elim p2
    | some kvs =>
      simp only [hv2] at p2
      obtain ⟨a1, e1, dv2⟩ := dv_of g2.sr (r1.mono g2.ex g2.pre) hv2
      cases e1
      cases hk : lookD kvs kd with
      | none => rw [hk] at p2; exact False.elim p2
      | some r =>
        rw [hk] at p2
        exact ⟨_, ad2, kvs, kd, r, era_ex, dv2, r2, hk, fun v rr => p2 v ad2 H2 (Good.refl g2.sr) rr⟩
theorem x_get2 {o : Expr} {ap cp : Pos} (hw : X.w = Wd.w) (hu : X.A.units + 9 < cLine) (ho : PE X o (tE X.K R i)) (ha : PE X a (tE X.K R j)) (hb : PE X b (tE X.K R l)) (hs : noStar a = true) (hs2 : noStar b = true) (hc : noCall o = true) (hl : (ap.endLine == cp.line) = true) :
    PE X (.Call (.Attribute o "get" ap) [a, b] [] cp) (tE X.K R (.get2 i j l)) := (pe_get2 hw hu ho ha hb ⟨base_of hc, by rw [star_cons hs, star_cons hs2]; rfl, hl, by rw [star_cons hs, star_cons hs2]; rfl⟩).imp fun σ H Q q => by
  obtain ⟨hd, ad, S, ρ, sr, er, p⟩ := q
  simp only [ev] at p
  refine ⟨hd, ad, S, ρ, sr, er, p.bind fun d S1 x ad1 H1 g1 r1 p1 => ?_⟩
  cases hv : viewD S1 d with
  | none => simp only [hv] at p1; exact False.elim p1
  | some kvs0 =>
    obtain ⟨a0, rfl, dv⟩ := dv_of g1.sr r1 hv
    simp only [hv, Option.isSome_some, if_true] at p1
    refine ⟨a0, _, ad1, kvs0, rfl, era_ex, dv, hd, ad1, S1, ρ, g1.sr, er.go g1, p1.bind fun kd S2 y ad2 H2 g2 r2 p2 => ?_⟩
    refine ⟨hd, ad2, S2, ρ, g2.sr, er.go (g1.trans g2), p2.bind fun zd S3 z ad3 H3 g3 r3 p3 => ?_⟩
    unfold getD at p3
    cases hv2 : viewD S3 d with
    | none => rw [hv2] at p3; exact False.elim p3
    | some kvs =>
      simp only [hv2] at p3
      have g23 := g2.trans g3
      obtain ⟨a1, e1, dv2⟩ := dv_of g3.sr (r1.mono g23.ex g23.pre) hv2
      cases e1
      cases hk : lookD kvs kd with
      | none => rw [hk] at p3; exact False.elim p3
      | some r =>
        rw [hk] at p3
        exact ⟨_, ad3, kvs, kd, zd, r, era_ex, dv2, r2.mono g3.ex g3.pre, r3, hk, fun v rr => p3 v ad3 H3 (Good.refl g3.sr) rr⟩
end
end Wt
set_option maxRecDepth 100000
set_option maxHeartbeats 1000000
/-! Dict comprehensions, whatever the keys: how a pair is stored is told by a relation between heaps. -/
namespace Wt
open PySem L2
/-- the dict at Dl, the key y, the value z: from one heap to the next -/
def StepOk (X : Cx) (Put : Addr → V → V → Hp → Hp → Prop) : Prop := ∀ (Y : Cx) (pins : List (Addr × Obj)) (σ : L2.St) (H H' : Hp) (s : Shared) (E : Value → Shared → Prop) (Dl : Addr) (y z : V) (u r : Value) (Q : Unit → Shared → Prop), Y.prog = X.prog → Y.w = X.w → Y.K = X.K → Y.A = X.A →
  Inv Y pins σ H s → Put Dl y z H H' → RelV y u → RelV z r → (∀ s', Inv Y pins σ H' s' → Q () s') → wpAny (model Y.prog Y.w) Y.A (dictSet Dl u r) Q E s
def tDcg (Put : Addr → V → V → Hp → Hp → Prop) (wi : TI) (g : TG) (tt : TT) (tk tv : TE) (vs : List Nat) : TE := fun σ H Q => wi σ H fun J H1 => ∀ Dl, H1 Dl = none → ∃ W : Nat → Nat → Hp → Prop, (∃ m, W 0 m (upd H1 Dl (.dK []))) ∧ ∀ i m H, W i m H →
  (J.stop i H ∧ Q (.ref Dl) H) ∨ (J.go i H ∧ ∃ Nx : Hp → Prop, (∀ H', Nx H' → ∃ m', m' < m ∧ W (i + 1) m' H') ∧ ∀ x H', J.yld i H x H' → g x (wipe σ vs) H' fun σ2 H2 => wipe σ2 vs = wipe σ vs ∧ tt σ2 H2 fun b H3 =>
    if b = true then tk σ2 H3 fun y H4 => tv σ2 H4 fun z H5 => ∃ H6, Put Dl y z H5 H6 ∧ Nx H6 else Nx H3)
section
variable {X : Cx}
theorem dcg_run {Put : Addr → V → V → Hp → Hp → Prop} (sp : StepOk X Put) {pins : List (Addr × Obj)} {s : Shared} {σ : L2.St} {H : Hp} {Q : VK} {kx vx tg iter : Expr} {ifs : List Expr} {scope : Scope} {own : List (Str × Nat)} {pos pos' : Pos} {wi : TI} {g : TG} {tt : TT} {tk tv : TE} {use : Option (Value → Sem Unit)} {Qf : Value → Shared → Prop}
    (calm : X.calm = true) (uniq : X.N.Nodup) (I : Inv X pins σ H s) (hi : PI X tg iter wi) (ok : BlkOk X.N X.env.scope scope own)
    (hg : ∀ (s : Shared) (H : Hp) (A : Addr) (cl : List (Str × Addr)) (fp : List Addr), PG (X.blk s H scope (compEnvC scope cl A X.env) fp) tg g)
    (ht : ∀ (s : Shared) (H : Hp) (A : Addr) (cl : List (Str × Addr)) (fp : List Addr), PTs (X.blk s H scope (compEnvC scope cl A X.env) fp) ifs tt)
    (hk : ∀ (s : Shared) (H : Hp) (A : Addr) (cl : List (Str × Addr)) (fp : List Addr), PE (X.blk s H scope (compEnvC scope cl A X.env) fp) kx tk)
    (hv : ∀ (s : Shared) (H : Hp) (A : Addr) (cl : List (Str × Addr)) (fp : List Addr), PE (X.blk s H scope (compEnvC scope cl A X.env) fp) vx tv) (hs : ∀ x, foldedSetIterable iter X.env x = pure x)
    (h : tDcg Put wi g tt tk tv (own.map (·.2)) σ H Q)
    (fin : ∀ Dl A0 s' m H', Inv X pins σ H' s' → Q (.ref Dl) H' → s'.heap.Ns A0 m → FpOk X pins H' A0 → compPost (model X.prog X.w) X.A X.xe use Qf (.ref Dl) A0 (.ok .next) s') :
    wpAny (model X.prog X.w) X.A (comprehension (.DictComp kx vx [⟨tg, iter, ifs, 0⟩] scope pos) scope X.env pos' newDict false (eval iter X.env) use) Qf X.xe s := by
  have hasFree : ∀ y ∈ scope.names, y.2 = .free → ∃ c, X.env.cells.lookup y.1 = some c := fun y hy e =>
    (ok.free y hy e).elim (fun k => I.ok.has _ (.inl k)) fun k => I.ok.has _ (.inr k)
  refine wpAny_comprehension_free (use := use) rfl hs (closure_ok hasFree) ok.kind (fun y hy e => by rw [ok.uniq y hy, e])
    (thn (hi.run pins s σ H _ I h) fun xv s1 hx => thn hx fun itv s2 ⟨it, fp, tn, J, H2, ei, I2, T, st2, f2, q⟩ => ?_)
  subst ei
  refine wpAny_newObj_type (newEnv_comp ?_)
  generalize hD : s2.heap.objs.size = Dl
  obtain ⟨W, ⟨m0, w0⟩, turn⟩ := q Dl (I2.hok.fresh (Nat.le_of_eq hD))
  generalize hs3 : ({ s2 with heap := s2.heap.push { cls := .type "dict", data := .dict #[] } } : Shared) = s3
  have h3 : s3.heap = s2.heap.push { cls := .type "dict", data := .dict #[] } := by rw [← hs3]
  have I3 : Inv X pins σ (upd H2 Dl (.dK [])) s3 := by
    subst hs3 hD
    exact I2.laid (t' := s2.toks) (fun b o e => Heap.get?_push_of_some _ e) (Nat.le_refl _) (dk_empty s2.heap I2.big)
  have f3 : ∀ b ∈ fp, FpOk X pins (upd H2 Dl (.dK [])) b ∧ b < s3.heap.objs.size := fun b hb => by
    obtain ⟨o, e, _⟩ := T.obj _ _ st2 b hb
    have hlt := Heap.lt_size e
    exact ⟨⟨by rw [upd_ne (by rw [← hD]; exact Nat.ne_of_lt hlt)]; exact (f2 b hb).1, (f2 b hb).2⟩, by rw [h3, Heap.size_push]; exact Nat.lt_succ_of_lt hlt⟩
  have st3 : tn 0 s3.heap := T.keep _ _ _ st2 fun b _ o e => by rw [h3]; exact Heap.get?_push_of_some _ e
  have I4 := block_start I3 ok uniq f3
  generalize hA : s3.heap.objs.size = A0 at I4
  generalize hcl : cellsFrom (A0 + 1) scope.names (cloFrom X.env.cells scope.names []) = cl at I4
  have pg := hg s3 (upd H2 Dl (.dK [])) A0 cl fp
  have pt := ht s3 (upd H2 Dl (.dK [])) A0 cl fp
  have pk := hk s3 (upd H2 Dl (.dK [])) A0 cl fp
  have pv := hv s3 (upd H2 Dl (.dK [])) A0 cl fp
  show codeAny _ _ (.compStart (.DictComp kx vx [⟨tg, iter, ifs, 0⟩] scope pos) 0 (.ref it) (.ref Dl) (compEnvC scope cl A0 X.env))
    (compPost (model X.prog X.w) X.A X.xe use Qf (.ref Dl) A0) { s3 with heap := pushCells (s3.heap.push { cls := .type "dict", data := .dict #[] }) scope.names }
  have nfp : ∀ b ∈ fp, (upd H2 Dl (.dK [])) b = none := fun b hb => (f3 b hb).1.1
  generalize hce : compEnvC scope cl A0 X.env = ce at I4 pg pt pk pv ⊢
  have cL : ce.locals = A0 := by subst hce; rfl
  generalize hH3 : upd H2 Dl (.dK []) = H3 at I3 I4 pg pt pk pv w0 nfp f3
  generalize hs4 : ({ s3 with heap := pushCells (s3.heap.push { cls := .type "dict", data := .dict #[] }) scope.names } : Shared) = s4 at I4 ⊢
  have st4 : tn 0 s4.heap := T.keep _ _ _ st3 fun b _ o e => by
    rw [← hs4]
    exact pushCells_keeps _ _ _ _ (Heap.get?_push_of_some _ e)
  have stat : ∀ {σ' : L2.St} {H' : Hp} {s' : Shared}, Inv (X.blk s3 H3 scope ce fp) [] σ' H' s' → (∀ b ∈ fp, H' b = none) → ∀ b ∈ fp, FpOk (X.blk s3 H3 scope ce fp) [] H' b := fun {σ' H' s'} I' hn b hb =>
    ⟨hn b hb, (I'.ok.exf b hb).1, I'.ok.exfs b hb, .inl hb, fun x c e => (I'.ok.exf b hb).2 x c e, fun p hp => absurd (show p ∈ ([] : List (Addr × Obj)) ++ [] from hp) (by simp)⟩
  have loop : codeAny (model X.prog X.w) X.A (.compLoop (.DictComp kx vx [⟨tg, iter, ifs, 0⟩] scope pos) 0 (.ref it) (.ref Dl) ce) (compPost (model X.prog X.w) X.A X.xe use Qf (.ref Dl) A0) s4 := by
    refine compLoop_anyD (fun n s' => ∃ i H', Inv (X.blk s3 H3 scope ce fp) [] (wipe σ (own.map (·.2))) H' s' ∧ tn i s'.heap ∧ (∀ b ∈ fp, H' b = none) ∧ W i n H') (fun n s5 ⟨i, H5, I5, st5, n5, w5⟩ => ?_) m0 ⟨0, H3, I4, st4, nfp, w0⟩
    rcases turn i n H5 w5 with ⟨stop, qq⟩ | ⟨go, Nx, hNx, step⟩
    · refine thnF (T.done (X.blk s3 H3 scope ce fp) rfl rfl rfl calm i [] s5 _ H5 (fun _ _ => False) I5 (stat I5 n5) st5 stop) fun r s6 ⟨hr, I6⟩ => ?_
      subst hr
      have back : Inv X pins σ H5 s6 := I3.call' (ch := fp) I6.os I6.base I6.hok I6.bare fun b hb => ⟨(f3 b hb).1.2.2.2.1, (f3 b hb).1.2.1, (f3 b hb).1.2.2.2.2.1, (f3 b hb).1.2.2.2.2.2⟩
      have nA : H5 A0 = none := by
        have z : H5 ce.locals = none := I6.free
        rw [cL] at z
        exact z
      obtain ⟨m, hn, _⟩ := I6.loc
      have hn : s6.heap.Ns ce.locals m := hn
      rw [cL] at hn
      exact fin Dl A0 s6 m H5 back qq hn (I3.fpOk (Nat.le_of_eq hA) nA)
    · refine thnF (T.item (X.blk s3 H3 scope ce fp) rfl rfl rfl calm i [] s5 _ H5 (fun _ _ => False) I5 (stat I5 n5) st5 go) fun r s6 ⟨u, hr, h6⟩ => ?_
      subst hr
      refine thnF h6 fun _ s7 ⟨x, H7, I7, r7, y7, st7, n7⟩ => ?_
      have I7' := I7.pinned (stat I7 n7) (T.obj _ _ st7)
      refine thnF (pg.run _ s7 _ H7 x u _ I7' r7 (step x H7 y7)) fun _ s8 ⟨σ8, H8, I8, hw8, q8⟩ => ?_
      refine thnF (pt.run _ s8 σ8 H8 _ I8 q8) fun b s9 ⟨H9, I9, q9⟩ => ?_
      have after : ∀ {s' : Shared} {H' : Hp}, Inv (X.blk s3 H3 scope ce fp) ([] ++ pinsAt fp s7.heap) σ8 H' s' → Nx H' → ∃ m, m < n ∧ ∃ i H', Inv (X.blk s3 H3 scope ce fp) [] (wipe σ (own.map (·.2))) H' s' ∧ tn i s'.heap ∧ (∀ b ∈ fp, H' b = none) ∧ W i m H' := fun {s' H'} I' nx => by
        obtain ⟨m', hm, w'⟩ := hNx H' nx
        have pin' : ∀ b ∈ fp, ∀ o, s7.heap.get? b = some o → s'.heap.get? b = some o ∧ H' b = none := fun b hb o e => by
          have z := I'.pin (b, o) (List.mem_append_right _ (List.mem_append_right _ (mem_pinsAt hb e)))
          exact ⟨z.1, z.2.1⟩
        refine ⟨m', hm, i + 1, H', (I'.unpinned (pins := [])).weak (by rw [← hw8, wipe_length]) (fun j v e => ?_), T.keep _ _ _ st7 fun b hb o e => (pin' b hb o e).1, fun b hb => ?_, w'⟩
        · rw [← hw8] at e
          exact (wipe_some e).1
        · obtain ⟨o, e, _⟩ := T.obj _ _ st7 b hb
          exact (pin' b hb o e).2
      cases b with
      | false =>
        rw [if_neg Bool.false_ne_true] at q9 ⊢
        exact after I9 q9
      | true =>
        rw [if_pos rfl] at q9 ⊢
        refine thnF (pk.run _ s9 σ8 H9 _ I9 q9) fun z s10 ⟨yk, H10, I10, r10, q10⟩ => ?_
        refine thnF (pv.run _ s10 σ8 H10 _ I10 q10) fun z2 s11 ⟨yv, H11, I11, r11, H12, put, nx⟩ => ?_
        exact sp (X.blk s3 H3 scope ce fp) _ _ _ _ _ _ _ _ _ _ _ _ rfl rfl rfl rfl I11 put r10 r11 fun s12 I12 => after I12 nx
  exact codeAny_compStart_dict loop (T.self X.A 0 _ _ _ st4 loop)
theorem pe_dcg {Put : Addr → V → V → Hp → Hp → Prop} (sp : StepOk X Put) {kx vx tg iter : Expr} {ifs : List Expr} {scope : Scope} {own : List (Str × Nat)} {pos : Pos} {wi : TI} {g : TG} {tt : TT} {tk tv : TE} (calm : X.calm = true) (uniq : X.N.Nodup) (hi : PI X tg iter wi) (ok : BlkOk X.N X.env.scope scope own)
    (hg : ∀ (s : Shared) (H : Hp) (A : Addr) (cl : List (Str × Addr)) (fp : List Addr), PG (X.blk s H scope (compEnvC scope cl A X.env) fp) tg g)
    (ht : ∀ (s : Shared) (H : Hp) (A : Addr) (cl : List (Str × Addr)) (fp : List Addr), PTs (X.blk s H scope (compEnvC scope cl A X.env) fp) ifs tt)
    (hk : ∀ (s : Shared) (H : Hp) (A : Addr) (cl : List (Str × Addr)) (fp : List Addr), PE (X.blk s H scope (compEnvC scope cl A X.env) fp) kx tk)
    (hv : ∀ (s : Shared) (H : Hp) (A : Addr) (cl : List (Str × Addr)) (fp : List Addr), PE (X.blk s H scope (compEnvC scope cl A X.env) fp) vx tv) (hs : ∀ x, foldedSetIterable iter X.env x = pure x) :
    PE X (.DictComp kx vx [⟨tg, iter, ifs, 0⟩] scope pos) (tDcg Put wi g tt tk tv (own.map (·.2))) := by
  refine ⟨fun pins s σ H Q I h => ?_⟩
  rw [arm_eval_DictComp]
  refine dcg_run sp calm uniq I hi ok hg ht hk hv hs h fun Dl A0 s' m H' I' q hn f => ⟨m, hn, fun h'' sb => ?_⟩
  obtain ⟨f0, f1, f2, f3, f4, f5⟩ := f
  exact ⟨.ref Dl, H', I'.turned (t' := s'.toks) (fun b o hb e => (sb.2 b hb).trans e) f0 f1 f3 f4 f5, rfl, q⟩
end
end Wt
set_option maxRecDepth 100000
set_option maxHeartbeats 4000000
/-! sorted(set(t)) of a tuple of texts. -/
namespace Wt
open PySem L2 PySem.Spec PyProof.Rows
def txtE (e : Int × Value) : Str := match e.2 with
  | .str x _ => x
  | _ => Str.empty
def TxtOk (w : World) (e : Int × Value) : Prop := ∃ x t, e.2 = Value.str x t ∧ e.1 = hashStr w x
/-- at a: a set of the texts L -/
def TxtSet (w : World) (h : Heap) (a : Addr) (L : List Str) : Prop :=
  ∃ o es ep t, h.get? a = some o ∧ o.ExactSet ∧ o.data = .set es ep t ∧ (∀ e ∈ es.toList, TxtOk w e) ∧ (es.toList.map txtE).Perm L ∧ L.Nodup ∧
    es.size < scanBound ∧ t.fits es.size = true ∧ Ris t.place.toList ∧ (w.params.followText "set-order" = true ∨ t.led = true)
section
variable {P : Program} {w : World} {h h' : Heap} {a : Addr} {L : List Str}
theorem TxtSet.keep (R : TxtSet w h a L) (k : ∀ o, h.get? a = some o → h'.get? a = some o) : TxtSet w h' a L := by
  obtain ⟨o, es, ep, t, ho, r⟩ := R
  exact ⟨o, es, ep, t, k o ho, r⟩
theorem txt_elems {l : List (Int × Value)} (g : ∀ e ∈ l, TxtOk w e) : ElemsOf (PySem.strKind P w) l := fun e he => by
  obtain ⟨x, tk, h1, h2⟩ := g e he
  exact ⟨⟨x, by rw [h1]; exact strKind_is P w x tk, h2⟩, by rw [h1]; all_goals rfl⟩
theorem txt_is {e : Int × Value} (g : TxtOk w e) (x : Str) : (PySem.strKind P w).is x e.2 = true ↔ txtE e = x := by
  obtain ⟨y, tk, h1, _⟩ := g
  unfold txtE
  rw [h1]
  show ((y == x) = true) ↔ y = x
  exact beq_iff_eq
end
section
variable {P : Program} {w : World} {A : Around} {E : Value → Shared → Prop} {s : Shared} {a : Addr} {L : List Str}
theorem txt_tail {g : Bool → Sem Unit} (hg : ∀ (b : Bool) (s₁ : Shared) (Q' : Unit → Shared → Prop), Q' () s₁ → wpAny (model P w) A (g b) Q' E s₁)
    {o : Obj} {es : Array (Int × Value)} {ep : Nat} {t : SetTable} (ho : s.heap.get? a = some o) (hex : o.ExactSet) (hd : o.data = .set es ep t)
    {es1 : Array (Int × Value)} {t2 : SetTable} {M : List Str} (g1 : ∀ e ∈ es1.toList, TxtOk w e) (pm1 : (es1.toList.map txtE).Perm M) (nd1 : M.Nodup)
    (hb1 : es1.size < scanBound) (hf2 : t2.fits es1.size = true) (hr : Ris t2.place.toList) (hl : w.params.followText "set-order" = true ∨ t2.led = true) {wasDummy : Bool} {R : Option Bool → Shared → Prop}
    (hR : ∀ h', Heap.SameBut a s.heap h' → TxtSet w h' a M → R (some true) { s with heap := h' }) :
    wpAny (model P w) A (do
        storeSet a es1 t2
        if (!wasDummy && t2.tooFull) = true then do
            g (relayAll t2 es1 (SetTable.grown es1.size)).2.2
            storeSet a (relayAll t2 es1 (SetTable.grown es1.size)).1 (relayAll t2 es1 (SetTable.grown es1.size)).2.1
            pure (some true)
          else pure (some true)) R E s := by
  refine wpAny_bind (wpAny_storeSet_of ho hd ?_ (fits_of_scanBound hb1))
  have q1 := store_at (es' := es1) (t' := t2) ho hd
  have sb1 := Heap.SameBut.update s.heap a (Obj.putSet es1 t2)
  split
  · have z1 := relayAll_perm t2 es1 (SetTable.grown es1.size)
    have z2 := relayAll_fits t2 es1 (SetTable.grown es1.size)
    have z3 := relayAll_ris t2 es1 (SetTable.grown es1.size)
    have z4 := relayAll_led t2 es1 (SetTable.grown es1.size)
    generalize relayAll t2 es1 (SetTable.grown es1.size) = Z at z1 z2 z3 z4 ⊢
    obtain ⟨es2, t3, gave⟩ := Z
    dsimp only at z1 z2 z3 z4 ⊢
    have hsz : es2.size = es1.size := by rw [← Array.length_toList, z1.length_eq, Array.length_toList]
    have hb2 : es2.size < scanBound := by rw [hsz]; exact hb1
    refine wpAny_bind (hg _ _ _ (wpAny_bind (wpAny_storeSet_of q1 rfl ?_ (fits_of_scanBound hb2))))
    refine wpAny_pure (hR _ (sb1.trans (Heap.SameBut.update _ a _)) ?_)
    exact ⟨_, es2, _, t3, store_at (es' := es2) (t' := t3) q1 rfl, hex, rfl, fun e he => g1 e (z1.mem_iff.mp he), (z1.map txtE).trans pm1, nd1, hb2, z2, z3, hl.imp id fun z => by rw [z4]; exact z⟩
  · exact wpAny_pure (hR _ sb1 ⟨_, es1, _, t2, q1, hex, rfl, g1, pm1, nd1, hb1, hf2, hr, hl⟩)
theorem txt_add {x : Str} {tk : Tok} {Q : Bool → Shared → Prop} (R : TxtSet w s.heap a L) (room : L.length + 1 < scanBound)
    (hQ : ∀ b h', Heap.SameBut a s.heap h' → TxtSet w h' a (addT L x) → Q b { s with heap := h' }) :
    wpAny (model P w) A (setAddHashed a (.str x tk) ((PySem.strKind P w).hash x)) Q E s := by
  obtain ⟨o, es, ep, t, ho, hex, hd, g, pm, nd, hb, hf, hr, hl⟩ := R
  have hn : es.size = L.length := by rw [← pm.length_eq, List.length_map, Array.length_toList]
  have hkey : (PySem.strKind P w).is x (.str x tk) = true := strKind_is P w x tk
  have hsc : (Value.str x tk).scannable = true := rfl
  have hel : ElemsOf (PySem.strKind P w) es.toList := txt_elems g
  unfold setAddHashed setAddHashedIn
  refine wpAny_holding (wpAny_bind (wpAny_setState_of ho hd hf ?_))
  dsimp only
  rw [byScan_of hsc hb hel]
  simp only [↓reduceIte]
  unfold setAddByScan
  refine wpAny_bind (wpAny_bind (wpAny_rule (wpAny_bind (wpAny_setScan_of hkey ho hd hf hel ?_))))
  cases hfi : List.findIdx? (fun e => (PySem.strKind P w).is x e.2) es.toList with
  | some j =>
    dsimp only
    obtain ⟨hj, pj, _⟩ := List.findIdx?_eq_some_iff_getElem.mp hfi
    have hx : x ∈ L := pm.mem_iff.mp (List.mem_map.mpr ⟨es.toList[j], List.getElem_mem hj, (txt_is (P := P) (g _ (List.getElem_mem hj)) x).1 pj⟩)
    refine wpAny_pure (wpAny_pure (hQ _ s.heap (Heap.SameBut.refl a s.heap) ⟨o, es, ep, t, ho, hex, hd, g, ?_, ?_, hb, hf, hr, hl⟩))
    · unfold addT
      rw [if_pos hx]
      exact pm
    · unfold addT
      rw [if_pos hx]
      exact nd
  | none =>
    dsimp only
    have hnx : x ∉ L := fun z => by
      obtain ⟨e, he, q⟩ := List.mem_map.mp (pm.mem_iff.mpr z)
      have c := List.findIdx?_eq_none_iff.mp hfi e he
      rw [(txt_is (P := P) (g e he) x).2 q] at c
      cases c
    have ea : addT L x = x :: L := if_neg hnx
    rw [ea] at hQ
    have hgw : ∀ (b : Bool) {s₁ : Shared} {Q' : Unit → Shared → Prop}, Q' () s₁ → wpAny (model P w) A (match b with | true => rule "set.scan.the-table-gave-way" | false => pure ()) Q' E s₁ :=
      fun b s₁ Q' q => by cases b <;> first | exact wpAny_pure q | exact wpAny_rule q
    have z1 := layNew_perm t es ((PySem.strKind P w).hash x) (.str x tk)
    have z2 := layNew_fits t es ((PySem.strKind P w).hash x) (.str x tk)
    have z3 := layNew_ris t es ((PySem.strKind P w).hash x) (.str x tk) hr
    have z4 := layNew_led t es ((PySem.strKind P w).hash x) (.str x tk)
    generalize layNew t es ((PySem.strKind P w).hash x) (.str x tk) = Z at z1 z2 z3 z4 ⊢
    obtain ⟨es1, t1, wasDummy, gave⟩ := Z
    dsimp only at z1 z2 z3 z4 ⊢
    rw [Array.toList_push] at z1
    have pc : es1.toList.Perm (((PySem.strKind P w).hash x, Value.str x tk) :: es.toList) := z1.trans (List.perm_append_singleton _ _)
    have pk : (es1.toList.map txtE).Perm (x :: L) := (pc.map txtE).trans (pm.cons x)
    have g1 : ∀ e ∈ es1.toList, TxtOk w e := fun e he => by
      rcases List.mem_cons.mp (pc.mem_iff.mp he) with z | z
      · rw [z]; exact ⟨x, tk, rfl, rfl⟩
      · exact g e z
    have nd1 : (x :: L).Nodup := List.nodup_cons.mpr ⟨hnx, nd⟩
    have hsz : es1.size = L.length + 1 := by rw [← Array.length_toList, pc.length_eq, List.length_cons, Array.length_toList, hn]
    have hb1 : es1.size < scanBound := by rw [hsz]; exact room
    have hled : w.params.followText "set-order" = true ∨ t1.led = true := hl.imp id fun z => by rw [z4]; exact z
    refine wpAny_bind (hgw _ ?_)
    split
    · refine wpAny_bind ?_
      rw [hashByValue_scannable 8 hsc]
      refine wpAny_pure ?_
      refine txt_tail ?_ ho hex hd g1 pk nd1 hb1 ?_ ?_ ?_ ?_
      · intro b s₁ Q' q; cases b <;> first | exact wpAny_pure q | exact wpAny_rule q
      · first | (split <;> first | exact z2 | exact SetTable.fits_plain_off z2) | exact z2
      · first | (split <;> exact z3) | exact z3
      · first | (split <;> exact hled) | exact hled
      · intro h' sb r; dsimp only; exact wpAny_pure (hQ _ h' sb r)
    · refine wpAny_bind (wpAny_pure ?_)
      simp only [↓reduceIte]
      refine txt_tail ?_ ho hex hd g1 pk nd1 hb1 z2 z3 hled ?_
      · intro b s₁ Q' q; cases b <;> first | exact wpAny_pure q | exact wpAny_rule q
      · intro h' sb r; dsimp only; exact wpAny_pure (hQ _ h' sb r)
theorem foldl_take {α β : Type} (f : β → α → β) (b : β) (l : List α) {i : Nat} {x : α} (h : l[i]? = some x) : (l.take (i + 1)).foldl f b = f ((l.take i).foldl f b) x := by
  rw [List.take_add_one, h, Option.toList_some, List.foldl_append]
  all_goals rfl
theorem addT_len (ss : List Str) : ∀ L : List Str, (ss.foldl addT L).length ≤ L.length + ss.length := by
  induction ss with
  | nil => intro L; exact Nat.le_refl _
  | cons x r ih =>
    intro L
    refine Nat.le_trans (ih _) ?_
    unfold addT
    split
    · simp
    · simp; omega
theorem txt_update {I : Addr} {fp wr : List Addr} {G : Array GenState → Array GenState → Prop} {n : Nat} {Pv : Nat → Value → Prop} {St : Nat → Shared → Prop} {R : Result → Shared → Prop}
    (W : WalksS P w A.in1 I fp wr G n Pv St) (S : Addr) (hSf : S ∉ fp) (ss : List Str) (hn : n = ss.length) (hb : ss.length + 1 < scanBound) (hval : ∀ i v, Pv i v → ∃ x t, ss[i]? = some x ∧ v = .str x t) :
    ∀ (k i : Nat) (s : Shared), n - i = k → i ≤ n → St i s → TxtSet w s.heap S ((ss.take i).foldl addT []) →
      (∀ s', Moved (S :: wr) G s s' → TxtSet w s'.heap S (ss.foldl addT []) → R (.ok (.ret .none)) s') →
      codeAny (model P w) A (.builtin "set.update.loop" ⟨[.ref S, .ref I], []⟩) R s := by
  have hSw : S ∉ wr := fun h => hSf (W.sub _ h)
  have hsub : ∀ b ∈ wr, b ∈ S :: wr := fun b hb => List.mem_cons_of_mem _ hb
  intro k
  induction k with
  | zero =>
    intro i s hk hi hst hS hR
    have hin : i = n := by omega
    subst hin
    refine codeAny_builtin F.entry_set_update_loop ?_
    rw [Around.under_plainId F.plain_set_update_loop _]
    show wpAny _ A.in1 (pyNext (.ref I) >>= _) _ _ s
    refine wpAny_bind (W.done s _ _ hst fun s' hm => ?_)
    rw [List.take_of_length_le (by omega)] at hS
    exact wpAny_pure (hR s' (hm.mono hsub) (hS.keep fun o e => hm.heap S o hSw e))
  | succ k ih =>
    intro i s hk hi hst hS hR
    have hlt : i < n := by omega
    refine codeAny_builtin F.entry_set_update_loop ?_
    rw [Around.under_plainId F.plain_set_update_loop _]
    show wpAny _ A.in1 (pyNext (.ref I) >>= _) _ _ s
    refine wpAny_bind (W.item i s _ _ hlt hst fun v s' hP hst' hm => ?_)
    obtain ⟨x, t, hx, rfl⟩ := hval i v hP
    have hS' : TxtSet w s'.heap S ((ss.take i).foldl addT []) := hS.keep fun o e => hm.heap S o hSw e
    have hlen := addT_len (ss.take i) []
    have htk : (ss.take i).length ≤ ss.length := by simp; omega
    simp only [List.length_nil, Nat.zero_add] at hlen
    show wpAny _ A.in1 (holding [Value.str x t] (setAdd S (.str x t)) >>= _) _ _ s'
    refine wpAny_bind (wpAny_holding ?_)
    unfold setAdd
    refine wpAny_holding (wpAny_bind ((PySem.strKind P w).pyHash (k := x) (strKind_is _ _ _ _) ?_))
    refine txt_add (s := { s' with toks := s'.toks + 1 }) hS' (by omega) fun b h' hsb hS2 => ?_
    rw [← foldl_take addT [] ss hx] at hS2
    refine wpAny_pure ⟨plainId_quiet F.plain_set_update_loop _, ih (i + 1) _ (by omega) hlt (W.frame _ s' _ _ hst' (Nat.le_succ _) fun b hb o e => ?_) hS2 fun s'' hm'' hS'' => ?_⟩
    · rw [hsb.2 b (fun h : b = S => hSf (by rw [← h]; exact hb))]; exact e
    · refine hR s'' (Moved.trans W.gtrans ((hm.mono hsub).then_heap (Nat.le_succ _) fun b o hb e => ?_) hm'') hS''
      rw [hsb.2 b (fun h : b = S => hb (by rw [h]; exact List.mem_cons_self))]; exact e
theorem txt_new {h : Heap} {a : Addr} (ho : h.get? a = some { cls := .type "set", dict := none, data := .set #[] 0 (.fresh 0 0 (!w.params.followText "set-order")) }) : TxtSet w h a [] :=
  ⟨_, #[], 0, _, ho, ⟨rfl, rfl, rfl⟩, rfl, (fun e he => by simp at he), by simp, .nil, by decide, by rfl, List.Pairwise.nil, by
    show _ ∨ (!w.params.followText "set-order") = true
    cases w.params.followText "set-order"
    · exact .inr rfl
    · exact .inl rfl⟩
theorem txt_at : ∀ {us : List Value} {xs : List Str}, StrsAre us xs → ∀ (i : Nat) (v : Value), us[i]? = some v → ∃ x t, xs[i]? = some x ∧ v = .str x t
  | _, _, .nil, i, v, h => by simp at h
  | _, _, .cons n t hr, 0, v, h => by simp at h; exact ⟨n, t, by simp, h.symm⟩
  | _, _, .cons n t hr, i + 1, v, h => by
    simp only [List.getElem?_cons_succ] at h ⊢
    exact txt_at hr i v h
theorem call_setT {l : Addr} {items : Array Value} {ss : List Str} {Q : Value → Shared → Prop} (hh : A.handled = none) (hl : s.heap.IsTuple l items) (hit : StrsAre items.toList ss) (hb : ss.length + 1 < scanBound)
    (h : ∀ (h' : Heap) (tk : Nat), TxtSet w h' s.heap.objs.size (ss.foldl addT []) → (∀ b o, s.heap.get? b = some o → h'.get? b = some o) → Q (.ref s.heap.objs.size) { s with heap := h', toks := tk }) :
    wpAny (model P w) A (call (.type "set") [.ref l]) Q E s := by
  have hisz : items.size = ss.length := by
    have q := StrsAre.len_eq hit
    rw [Array.length_toList] at q
    exact q
  obtain ⟨c, tl, hmro⟩ := F.called_set.mro
  have hmade := F.called_set.made
  have hsub := F.called_set.sub
  refine wpAny_call (codeAny_of_tree ?_)
  show wpAny _ _ (callAny (.type "set") _) _ _ _
  refine wpAny_pure ⟨Code.quiet_builtin _ (by decide +kernel), codeAny_builtin F.entry_type_call ?_⟩
  rw [Around.under_plain (weight_type_call_type "set" [.ref l] []) rfl]
  have h1 := F.called_set.notType
  have h2 := F.called_set.canCreate
  have hct := F.typeCall_set_1 (.ref l)
  repeat (any_goals (first | assumption | wp_step))

  refine codeAny_mono (code_set_led1 (.ref l) (E := E) (Q₁ := fun obj s₁ => obj = .ref s.heap.objs.size ∧ s₁ = { s with heap := s.heap.push { cls := .type "set", dict := none, data := .set #[] 0 (.fresh 0 0 (!w.params.followText "set-order")) } }) ⟨rfl, rfl⟩) fun r s₁ hr => ?_
  cases r with
  | error e => exact hr
  | ok fl =>
    cases fl with
    | ret obj =>
      obtain ⟨rfl, rfl⟩ := hr
      have hS : (s.heap.push ({ cls := .type "set", dict := none, data := .set #[] 0 (.fresh 0 0 (!w.params.followText "set-order")) } : Obj)).get? s.heap.objs.size = some ({ cls := .type "set", dict := none, data := .set #[] 0 (.fresh 0 0 (!w.params.followText "set-order")) } : Obj) := Heap.get?_push_size _ rfl
      have hT : Shared.TypeIs { s with heap := s.heap.push ({ cls := .type "set", dict := none, data := .set #[] 0 (.fresh 0 0 (!w.params.followText "set-order")) } : Obj) } (.ref s.heap.objs.size) "set" := ⟨_, hS, rfl⟩
      have hli := F.called_set.init.lookup
      have hbi := F.called_set.init.bind (.ref s.heap.objs.size)
      repeat (any_goals (first | assumption | wp_step))

      refine codeAny_mono (codeAny_call_builtin (R := wants (fun r s₂ => r = .none ∧ ∃ h' tk, s₂ = { s with heap := h', toks := tk } ∧ TxtSet w h' s.heap.objs.size (ss.foldl addT []) ∧
          (∀ b o, s.heap.get? b = some o → h'.get? b = some o)) E) F.called_set.init.plain F.entry_set_init (check_set_init_1 hT ?_)) fun r₂ s₂ hr₂ => ?_
      · obtain ⟨⟨cls, dct, dat, slots⟩, hol, hcl, nl, hdl⟩ := hl
        simp only at hcl hdl
        subst hcl hdl
        have hsls := F.sub_tuple_set
        have hslf := F.sub_tuple_frozenset
        have hol' : (s.heap.push ({ cls := .type "set", dict := none, data := .set #[] 0 (.fresh 0 0 (!w.params.followText "set-order")) } : Obj)).get? l = some { cls := .type "tuple", dict := dct, data := .seq items nl, slots := slots } := Heap.get?_push_of_some _ hol
        have hne : (Value.type "tuple" == Value.type "dict") = false := by decide
        have hl1 : (s.heap.push ({ cls := .type "set", dict := none, data := .set #[] 0 (.fresh 0 0 (!w.params.followText "set-order")) } : Obj)).IsTuple l items := ⟨_, hol', rfl, nl, rfl⟩
        unfold Builtin.«set.__init__» noKeywords Builtin.Frozenset.updateFrom
        generalize hPI : pyIter = PI
        wp_walk
        subst hPI

        refine wpAny_pyIter_tuple hl1 ?_
        refine wpAny_bind (wpAny_runValue ?_)
        have hlS : l < s.heap.objs.size := Heap.lt_size hol
        have hh3 : A.in1.in1.in1.handled = none := by simp [hh]
        have hz1 : (s.heap.push ({ cls := .type "set", dict := none, data := .set #[] 0 (.fresh 0 0 (!w.params.followText "set-order")) } : Obj)).objs.size = s.heap.objs.size + 1 := Heap.size_push ..
        have hneI : l ≠ (s.heap.push ({ cls := .type "set", dict := none, data := .set #[] 0 (.fresh 0 0 (!w.params.followText "set-order")) } : Obj)).objs.size := by rw [hz1]; exact Nat.ne_of_lt (Nat.lt_succ_of_lt hlS)
        have hSf : s.heap.objs.size ∉ [(s.heap.push ({ cls := .type "set", dict := none, data := .set #[] 0 (.fresh 0 0 (!w.params.followText "set-order")) } : Obj)).objs.size, l] := by
          rw [hz1]; simp only [List.mem_cons, List.mem_singleton, List.not_mem_nil, or_false, not_or]
          exact ⟨Nat.ne_of_lt (Nat.lt_succ_self _), Nat.ne_of_gt hlS⟩
        refine txt_update ((Walks.tuple hh3 _ l hneI items).toS) s.heap.objs.size hSf ss hisz hb (fun i v hv => txt_at hit i v (by rw [Array.getElem?_toList]; exact hv)) (items.size - 0) 0 _ (by omega) (Nat.zero_le _)
          ⟨⟨_, Heap.get?_push_size _ rfl, rfl, rfl⟩, (hl1.push _)⟩ (txt_new (Heap.get?_push_of_some _ hS)) ?hR
        case hR =>
          intro s' hm hS'
          obtain ⟨h', g2, d', tk', os'⟩ := s'
          have eg : g2 = s.gens := hm.gens
          have ed : d' = s.drawn := hm.drawn
          have eo : os' = s.os := hm.os
          subst eg ed eo
          show wpAny _ _ _ _ _ _
          refine wpAny_pure (wpAny_pure ⟨rfl, h', tk', rfl, hS', fun b o e => ?_⟩)
          have hb0 : b < s.heap.objs.size := Heap.lt_size e
          have hb2 : b ≠ (s.heap.push ({ cls := .type "set", dict := none, data := .set #[] 0 (.fresh 0 0 (!w.params.followText "set-order")) } : Obj)).objs.size := by rw [hz1]; exact Nat.ne_of_lt (Nat.lt_succ_of_lt hb0)
          exact hm.heap b o (by simp only [List.mem_cons, List.mem_singleton, List.not_mem_nil, or_false, not_or]; exact ⟨Nat.ne_of_lt hb0, hb2⟩) (Heap.get?_push_of_some _ (Heap.get?_push_of_some _ e))

      · cases r₂ with
        | error e => exact hr₂
        | ok fl₂ =>
          cases fl₂ with
          | ret r =>
            obtain ⟨rfl, h', tk, rfl, hS', hk'⟩ := hr₂
            repeat (any_goals (first | assumption | wp_step))
            exact h _ _ hS' hk'
          | _ => exact hr₂.elim
    | _ => exact hr.elim
theorem strs_of_ok (l : List Value) : (∀ v ∈ l, ∃ x t, v = Value.str x t) → ∃ xs, StrsAre l xs ∧ ∀ e : List (Int × Value), l = e.map (·.2) → xs = e.map txtE := by
  induction l with
  | nil => exact fun _ => ⟨[], .nil, fun e he => by
      cases e with
      | nil => rfl
      | cons _ _ => simp at he⟩
  | cons v r ih =>
    intro h
    obtain ⟨x, t, rfl⟩ := h v List.mem_cons_self
    obtain ⟨xs, a, b⟩ := ih fun u hu => h u (List.mem_cons_of_mem _ hu)
    refine ⟨x :: xs, .cons x t a, fun e he => ?_⟩
    cases e with
    | nil => simp at he
    | cons y ys =>
      simp only [List.map_cons, List.cons.injEq] at he ⊢
      refine ⟨?_, b ys he.2⟩
      unfold txtE
      rw [← he.1]
theorem strsAre_txt {vs : List Value} (h : ∀ v ∈ vs, ∃ x t, v = Value.str x t) : StrsAre vs (vs.map fun v => txtE (0, v)) := by
  induction vs with
  | nil => exact .nil
  | cons v r ih =>
    obtain ⟨x, t, rfl⟩ := h v List.mem_cons_self
    exact .cons x t (ih fun u hu => h u (List.mem_cons_of_mem _ hu))
theorem sorted_setT' {Q : Value → Shared → Prop} (R : TxtSet w s.heap a L) (hh : A.handled = none) (h64 : L.length < 64)
    (hQ : ∀ s' p (out : List Value) (c : Nat) (ys : List Str), (∀ b o, s.heap.get? b = some o → s'.heap.get? b = some o) → s'.gens = s.gens → s'.os = s.os → s.heap.objs.size ≤ p →
      s'.heap.get? p = some (seqObj "list" out.toArray c) → StrsAre out ys → ys.Perm L → sortedS ys = true → Q (.ref p) s') :
    wpAny (model P w) A (call (.builtin "sorted") [.ref a]) Q E s := by
  obtain ⟨o, es, ep, t, ho, hex, hd, g, pm, nd, hb, hf, hr, hl⟩ := R
  refine Calls.call_function_entry kind_sorted plain_sorted entry_sorted (args_sorted1 _) ?_
  unfold Builtin.«sorted»
  refine wpAny_bind (m := checkCount "sorted" 1 1 _) (wpAny_pure ?_)
  refine wpAny_bind (collect_set (A := A.in1) hh ⟨o, ho, hex.1, hd⟩ hf hb hr hl fun s1 vs k1 hz g1 o1 pv => ?_)
  have hS : StrsAre vs (vs.map fun v => txtE (0, v)) := strsAre_txt fun v hv => by
    obtain ⟨e, he, q⟩ := List.mem_map.mp (pv.mem_iff.mp hv)
    obtain ⟨x, tk, h1, _⟩ := g e he
    exact ⟨x, tk, by rw [← q]; exact h1⟩
  have pk : (vs.map fun v => txtE (0, v)).Perm L := by
    have q := pv.map fun v => txtE (0, v)
    rw [List.map_map] at q
    exact q.trans pm
  have hvl : vs.length = L.length := by rw [← pk.length_eq, List.length_map]
  refine wpAny_bind (wpAny_newList ?_ (by rw [hvl, sizeLine_eq]; omega))
  have hoL : (s1.heap.push (seqObj "list" vs.toArray 0)).get? s1.heap.objs.size = some (seqObj "list" vs.toArray 0) := Heap.get?_push_size _ rfl
  refine wpAny_bind (wpAny_holding (wpAny_call_entry slot_list_sort ⟨_, hoL, rfl⟩ entry_list_sort
    (list_sort_treeK strKind_oneLt (s := { s1 with heap := s1.heap.push (seqObj "list" vs.toArray 0) }) hoL hS.keysOf (fun v₁ v₂ rest e => keyKind_strs (by rw [← e]; exact hS)) (by rw [hvl]; exact h64) fun st' hp hs => ⟨_, rfl, ?_⟩) (args_list_sort _)))
  obtain ⟨ys, y1, y2, y3⟩ := sorted_out_str hS hp hs
  obtain ⟨c, hc⟩ := sortedHeap_at (vs := vs) (out := (arrOf st').map (·.2)) hoL
  refine wpAny_pure ⟨_, rfl, hQ _ s1.heap.objs.size ((arrOf st').map (·.2)).toList c ys (fun b u e => ?_) g1 o1 hz (by rw [Array.toArray_toList]; exact hc) y1 (y2.trans pk) y3⟩
  have q := k1 b u e
  have hlt := Heap.lt_size q
  show (sortedHeap (s1.heap.push (seqObj "list" vs.toArray 0)) s1.heap.objs.size vs ((arrOf st').map (·.2))).get? b = some u
  rw [sortedHeap_old (Nat.ne_of_lt hlt) (by rw [size_push']; exact Nat.lt_succ_of_lt hlt)]
  exact Heap.get?_push_of_some _ q
end
/-- sorted(set(a)), a tuple of texts -/
def tSS (K : PySem.W.Frag) (ta : TA) : TE := fun σ H Q => ta σ H fun vs H1 => ∃ (p : Addr) (ss : List Str), vs = [.ref p] ∧ SqT K H1 p (ss.map V.str) ∧ ss.length < 60 ∧ ∀ q, H1 q = none → Q (.ref q) (upd H1 q (.lst ((sortS (ss.foldl addT [])).map V.str)))
section
variable [Wd]
variable {X : Cx} {e : Expr} {ta : TA} {p p2 pos pos2 : Pos}
theorem pe_sset (hc : X.calm = true) (hg : Gl X "set") (hm : X.mg "set" = none) (hg2 : Gl X "sorted") (hm2 : X.mg "sorted" = none) (ha : PA X [e] ta) (hs : starEach [e] X.env = [(false, eval e X.env)]) :
    PE X (.Call (.Name "sorted" p2) [.Call (.Name "set" p) [e] [] pos] [] pos2) (tSS X.K ta) := by
  refine ⟨fun pins s σ H Q I h => ?_⟩
  refine wpAny_Call_Name_kw (ld_blt I hg2 hm2 (show bootBuiltins ("sorted" : Str) = some (.builtin "sorted") by decide +kernel) ?_ (by decide) (by decide))
  refine PyProof.Rows.callWith_builtin1 (Calls.spliced_cons (wpAny_Call_Name_kw (ld_blt I hg hm PyProof.Rows.boot_set (PyProof.Rows.callWith_type1 (thn (ha.run pos pins s σ H _ I h) fun us s1 ⟨vs, H1, I1, r1, q1⟩ => ?_) hs rfl) (by decide) (by decide)))) rfl rfl
  obtain ⟨p0, ss, e1, hq, hl, q⟩ := q1
  subst e1
  cases r1 with
  | cons r rr =>
    cases rr
    cases r
    obtain ⟨its, rv, pt, hz⟩ := I1.tuple hq
    have hi : StrsAre its.toArray.toList ss := strs_of_vals rv
    have hd := I1.ok.hd hc
    refine call_setT hd (show s1.heap.IsTuple p0 its.toArray from pt) hi (by unfold scanBound; omega) fun h' tk R1 k => ?_
    refine Calls.spliced_nil ?_
    refine sorted_setT' (s := { s1 with heap := h', toks := tk }) R1 hd (by
      have := addT_len ss []
      simp only [List.length_nil, Nat.zero_add] at this
      omega) fun s2 q2 out c ys k2 g2 o2 hp ho hS hpm hsrt => ?_
    rw [sortS_only hpm hsrt] at hS
    have I2 : Inv X pins σ H1 { s1 with heap := h', toks := tk } := I1.kept k
    have kall : ∀ b u, s1.heap.get? b = some u → s2.heap.get? b = some u := fun b u e => k2 b u (k b u e)
    have h1 : s1.heap.objs.size ≤ q2 := Nat.le_trans (Nat.le_of_lt (Heap.lt_size R1.choose_spec.choose_spec.choose_spec.choose_spec.1)) hp
    have hlen : ((sortS (ss.foldl addT [])).map V.str).length ≤ sizeLine := by
      have := addT_len ss []
      simp only [List.length_nil, Nat.zero_add] at this
      rw [List.length_map, (sortS_perm _).length_eq, sizeLine_eq]
      omega
    have new : ObjOk X.prog X.w (upd H1 q2 (.lst ((sortS (ss.foldl addT [])).map V.str))) s2.heap q2 (.lst ((sortS (ss.foldl addT [])).map V.str)) := ⟨hlen, out, c, vals_of_strs hS, ho⟩
    exact ⟨.ref q2, _, I1.call' (ch := []) o2 (Un.laid kall h1 (I1.hok.fresh h1)) (I1.hok.laid kall h1 new) (by rw [g2]; exact I1.bare) (fun _ z => nomatch z), rfl, q _ (I1.hok.fresh h1)⟩
end
end Wt
set_option maxRecDepth 100000
set_option maxHeartbeats 1000000
/-! t[::-1] of a tuple, of a list. -/
namespace Wt
open PySem PySem.Spec PyProof.Rows L2 HT
theorem fm_congr {α β : Type} {f g : α → Option β} : ∀ {l : List α}, (∀ m ∈ l, f m = g m) → l.filterMap f = l.filterMap g
  | [], _ => rfl
  | a :: l, h => by
    rw [List.filterMap_cons, List.filterMap_cons, h a List.mem_cons_self, fm_congr fun m hm => h m (List.mem_cons_of_mem _ hm)]
theorem pick_rev (xs : Array Value) : ((List.range xs.size).filterMap fun (m : Nat) => xs[(((xs.size : Int) - 1) + (m : Int) * (-1)).toNat]?).toArray = xs.toList.reverse.toArray := by
  congr 1
  apply List.ext_getElem?
  intro i
  have e : ((List.range xs.size).filterMap fun (m : Nat) => xs[(((xs.size : Int) - 1) + (m : Int) * (-1)).toNat]?) = (List.range xs.size).map fun (m : Nat) => (xs.toList.reverse[m]?).getD .none := by
    rw [← List.filterMap_eq_map]
    apply fm_congr
    intro m hm
    have hm := List.mem_range.mp hm
    have e2 : (((xs.size : Int) - 1) + (m : Int) * (-1)).toNat = xs.size - 1 - m := by omega
    rw [e2]
    have h1 : xs.size - 1 - m < xs.size := by omega
    rw [Array.getElem?_eq_getElem h1]
    show _ = some _
    congr 1
    show _ = (xs.toList.reverse[m]?).getD .none
    have h2 : m < xs.toList.reverse.length := by rw [List.length_reverse, Array.length_toList]; exact hm
    rw [List.getElem?_eq_getElem h2, Option.getD_some, List.getElem_reverse]
    simp
  rw [e]
  by_cases hi : i < xs.size
  · rw [List.getElem?_map, List.getElem?_range hi]
    rw [List.getElem?_eq_getElem (by simpa using hi), Option.map_some, List.getElem?_eq_getElem (by simpa using hi)]
    rfl
  · rw [List.getElem?_eq_none (by simpa using hi), List.getElem?_eq_none (by simpa using hi)]
theorem adjust_rev (n : Nat) : Builtin.Slice.sliceAdjust none none (-1) (n : Int) = ((n : Int) - 1, -1) := by
  unfold Builtin.Slice.sliceAdjust
  simp
theorem places_rev (n : Nat) : Builtin.Slice.slicePlaces ((n : Int) - 1) (-1) (-1) = n := by
  unfold Builtin.Slice.slicePlaces
  rw [if_neg (by decide)]
  by_cases h : n = 0
  · subst h
    rw [if_neg (by decide)]
    rfl
  · rw [if_pos (by omega)]
    have : ((n : Int) - 1 - -1 - 1) / (- -1) = (n : Int) - 1 := by
      rw [show (- -1 : Int) = 1 from rfl, Int.ediv_one]
      omega
    rw [this]
    omega
section
variable {prog : Program} {w : World} {A : Around} {E : Value → Shared → Prop} {s : Shared}
theorem getItem_tuple_rev {t sl : Addr} {items : Array Value} {tk : Tok} {Q : Value → Shared → Prop} (ht : IsTup s.heap t items) (hs : s.heap.IsSliceOf sl .none .none (.int (-1) tk))
    (h : Q (.ref s.heap.objs.size) { s with heap := s.heap.push { cls := .type "tuple", data := .seq items.toList.reverse.toArray } })
    (hsz : items.size ≤ sizeLine) : wpAny (model prog w) A (getItem (.ref t) (.ref sl)) Q E s := by
  have htake : sizeOk (.seq items.toList.reverse.toArray) := by
    show items.toList.reverse.toArray.size ≤ sizeLine
    rw [List.size_toArray, List.length_reverse, Array.length_toList]
    exact hsz
  obtain ⟨os, hos, hcs, hds⟩ := id hs
  have hTs : s.TypeIs (.ref sl) "slice" := ⟨os, hos, hcs⟩
  unfold getItem
  try with_reducible refine wpAny_holding ?_
  first | refine wpAny_bind (wpAny_pure ?_) | skip
  refine wpAny_bind (wpAny_sequenceKey ht.typeIs (by decide) ?_)
  refine wpAny_bind (wpAny_callSpecial?_slot (name := Str.ofString "__getitem__") ht.typeIs PyProof.Rows.slot_tuple_getitem
    (wpAny_call_entry PyProof.Rows.slot_tuple_getitem ht.typeIs entry_tuple_getitem ?_ (args_tuple_getitem _ _)))
  show wpAny _ _ (Builtin.Tuple.tupleItemsOf (.ref t) >>= _) _ _ s
  refine wpAny_bind (tupleItemsOf_ ht ?_)
  refine wpAny_bind (wpAny_typeOf hTs ?_)
  rw [if_pos (by decide)]
  have app : ∀ {A : Around} {R : Int × Int × Nat → Shared → Prop}, R ((items.size : Int) - 1, -1, items.size) s → wpAny (model prog w) A (Builtin.Slice.sliceApplied (.ref sl) (pure (items.size : Int))) R E s := fun {A R} hR => by
    unfold Builtin.Slice.sliceApplied Builtin.Slice.sliceFields
    refine wpAny_bind (wpAny_bind (wpAny_field hos hds (x := .none) rfl (wpAny_bind (wpAny_field hos hds (x := .none) rfl (wpAny_bind (wpAny_field hos hds (x := .int (-1) tk) rfl (wpAny_pure ?_)))))))
    refine wpAny_bind (slicePart_int ?_)
    show wpAny _ _ (if ((-1 : Int) == 0) = true then _ else _) _ _ s
    rw [if_neg (by decide)]
    refine wpAny_bind (slicePart_none (wpAny_bind (slicePart_none (wpAny_bind (wpAny_pure ?_)))))
    show wpAny _ _ (match Builtin.Slice.sliceAdjust none none (-1) (items.size : Int) with | (lo, hi) => pure (lo, (-1 : Int), Builtin.Slice.slicePlaces lo hi (-1))) _ _ s
    rw [adjust_rev]
    show wpAny _ _ (pure ((items.size : Int) - 1, (-1 : Int), Builtin.Slice.slicePlaces ((items.size : Int) - 1) (-1) (-1))) _ _ s
    rw [places_rev]
    exact wpAny_pure hR
  refine wpAny_bind (app ?_)
  have hno : ¬ ((((items.size : Int) - 1) == 0 && (-1 : Int) == 1 && items.size == items.size) = true) := by
    intro q
    rw [Bool.and_eq_true, Bool.and_eq_true] at q
    exact absurd q.1.2 (by decide)
  show wpAny _ _ (if (((items.size : Int) - 1) == 0 && (-1 : Int) == 1 && items.size == items.size) = true then _ else _) _ _ s
  rw [if_neg hno, pick_rev]
  first
    | exact wpAny_bind (m := Builtin.Tuple.tupleExact _) (wpAny_newObj_type (wpAny_pure ⟨_, rfl, wpAny_pure h⟩) htake)
    | exact wpAny_bind (m := Builtin.Tuple.tupleExact _) (wpAny_newObj_type (wpAny_bind (wpAny_pure (wpAny_pure ⟨_, rfl, wpAny_pure h⟩))) htake)
    | exact wpAny_bind (wpAny_bind (m := Builtin.Tuple.tupleExact _) (wpAny_newObj_type (wpAny_pure (wpAny_pure ⟨_, rfl, wpAny_pure h⟩)) htake))
    | exact wpAny_bind (wpAny_bind (m := Builtin.Tuple.tupleExact _) (wpAny_newObj_type (wpAny_pure ⟨_, rfl, wpAny_pure h⟩) htake))
end
section
variable {X : Cx}
def tRevA (K : PySem.W.Frag) (te : TE) : TE := fun σ H Q => te σ H fun x H1 => ∃ a xs, x = .ref a ∧ ((SqL K H1 a xs ∧ ∀ p, H1 p = none → Q (.ref p) (upd H1 p (.lst xs.reverse))) ∨ (SqT K H1 a xs ∧ ∀ p, H1 p = none → Q (.ref p) (upd H1 p (.tup xs.reverse))))
theorem pe_revA {e : Expr} {te : TE} {k : Nat} {p1 p2 p3 pos : Pos} (he : PE X e te) : PE X (.Subscript e (.Slice none none (some (.UnaryOp .USub (.Constant (.int 1) k p1) p2)) p3) pos) (tRevA X.K te) := by
  refine ⟨fun pins s σ H Q I h => ?_⟩
  refine Subscript_ (thn (he.run pins s σ H _ I h) fun v s1 ⟨x, H1, I1, r1, q1⟩ => ?_)
  obtain ⟨a, xs, ex, q1⟩ := q1
  subst ex
  cases r1
  have hst : PO X (some (.UnaryOp .USub (.Constant (.int 1) k p1) p2)) (tPart (tUn (rU fun i => .int (-i)) (tC (.int 1)))) := po_some (pe_un un_neg pe_int)
  refine wpAny_Slice (thn (po_none.run pins s1 σ H1 (fun o H2 => o = none ∧ H2 = H1) I1 ⟨rfl, rfl⟩) fun vl s2 ⟨l, H2, I2, pl, el, e2⟩ => ?_)
  subst el e2
  refine thn (po_none.run pins s2 σ H2 (fun o H3 => o = none ∧ H3 = H2) I2 ⟨rfl, rfl⟩) fun vu s3 ⟨u, H3, I3, pu, eu, e3⟩ => ?_
  subst eu e3
  refine thn (hst.run pins s3 σ H3 (fun o H4 => o = some (-1) ∧ H4 = H3) I3 ⟨1, rfl, -1, rfl, rfl, rfl⟩) fun vs s4 ⟨o, H4, I4, ps, eo, e4⟩ => ?_
  subst eo e4
  have I5 : Inv X pins σ H4 { s4 with heap := s4.heap.push { cls := .type "slice", data := .fields #[vl, vu, vs] } } := I4.kept (t' := s4.toks) fun b ob q => Heap.get?_push_of_some _ q
  show wpAny (model X.prog X.w) X.A (subscriptTail e (.Slice none none (some (.UnaryOp .USub (.Constant (.int 1) k p1) p2)) p3) (.ref a) (.ref s4.heap.objs.size)) (EP X pins σ Q) X.xe { s4 with heap := s4.heap.push { cls := .type "slice", data := .fields #[vl, vu, vs] } }
  rcases q1 with ⟨hx, q⟩ | ⟨hx, q⟩
  · obtain ⟨its, r, ht, hz⟩ := I5.list hx
    have hlen := r.length
    refine tail_any (ops := [.ref a, .ref s4.heap.objs.size]) ht.isList.typeIs (PySem.slot_list_getitem.lookup) ?_ (by with_unfolding_all rfl)
    refine wpAny_getItem_list_slice ht.isList (Heap.IsSliceOf.new _ vl vu vs) pl pu ps (by decide) ?_ (by rw [List.size_toArray]; omega)
    rw [PySem.W.krv_pick]
    refine ⟨.ref _, _, I5.laid (t' := s4.toks) (o := .lst xs.reverse) (fun b ob q => Heap.get?_push_of_some _ q) (Nat.le_refl _) ?_, rfl, q _ (I5.hok.fresh (Nat.le_refl _))⟩
    exact ⟨by rw [List.length_reverse]; exact hz, _, 0, r.reverse, Heap.get?_push_size _ rfl⟩
  · obtain ⟨its, r, ht, hz⟩ := I5.tuple hx
    have hlen := r.length
    refine tail_any (ops := [.ref a, .ref s4.heap.objs.size]) ht.typeIs (PyProof.Rows.slot_tuple_getitem.lookup) ?_ (by with_unfolding_all rfl)
    cases pl
    cases pu
    cases ps
    refine getItem_tuple_rev ht (Heap.IsSliceOf.new _ _ _ _) ?_ (by rw [List.size_toArray]; omega)
    refine ⟨.ref _, _, I5.laid (t' := s4.toks) (o := .tup xs.reverse) (fun b ob q => Heap.get?_push_of_some _ q) (Nat.le_refl _) ?_, rfl, q _ (I5.hok.fresh (Nat.le_refl _))⟩
    exact ⟨by rw [List.length_reverse]; exact hz, _, r.reverse, IsTup.new _ _⟩
end
end Wt
namespace Wt
open PySem L2
variable [Wd]
theorem x_rev {X : Cx} {R : Rt} {a : Expr} {i : E} {k : Nat} {p1 p2 p3 pos : Pos} (he : PE X a (tE X.K R i)) : PE X (.Subscript a (.Slice none none (some (.UnaryOp .USub (.Constant (.int 1) k p1) p2)) p3) pos) (tE X.K R (.rev i)) :=
  (pe_revA he).imp fun σ H Q q => by
    obtain ⟨hd, ad, S, ρ, sr, er, p⟩ := q
    simp only [ev] at p
    refine ⟨hd, ad, S, ρ, sr, er, p.bind fun d S1 x ad1 H1 g1 r1 p1 => ?_⟩
    cases r1 with
    | lst h1 a1 =>
      refine ⟨_, _, rfl, .inl ⟨SqL.of (era_of h1), fun pp hp => ?_⟩⟩
      obtain ⟨g, r⟩ := mk_lst g1.sr hp a1.reverse
      exact p1 _ ad1 _ g r
    | tup h1 a1 =>
      refine ⟨_, _, rfl, .inr ⟨ex_t era_ex h1, fun pp hp => ?_⟩⟩
      obtain ⟨g, r⟩ := mk_tup g1.sr hp a1.reverse
      exact p1 _ ad1 _ g r
    | _ => exact False.elim p1
end Wt
set_option maxRecDepth 100000
set_option maxHeartbeats 1000000
namespace Wt
open PySem L2
variable [Wd]
def tollK : List (Key × V) := [(Sum.inr "cheap", .int 1), (Sum.inr "dear", .int 2)]
theorem toll_val (y : Str) : (valV tollK (Sum.inr y : Key)).getD (.int 0) = .int (tollS y) := by
  unfold tollK tollS
  by_cases h1 : y = "cheap"
  · subst h1
    rw [valV_pos rfl, if_pos rfl]
    rfl
  · rw [valV_neg (by intro q; exact h1 (Sum.inr.inj q).symm), if_neg h1]
    by_cases h2 : y = "dear"
    · subst h2
      rw [valV_pos rfl, if_pos rfl]
      rfl
    · rw [valV_neg (by intro q; exact h2 (Sum.inr.inj q).symm), if_neg h2, valV_nil]
      rfl
theorem toll_merge : mergeK [] tollK = tollK := by decide +kernel
theorem x_toll {X : Cx} {R : Rt} {a : Expr} {i : E} {j1 j2 j3 j4 j5 : Nat} {p1 p2 p3 p4 p5 dp ap cp : Pos} (hu : X.A.units + 1 < cLine) (ha : PE X a (tE X.K R i)) (hs : noStar a = true) (hl : (ap.endLine == cp.line) = true) :
    PE X (.Call (.Attribute (.Dict [some (.Constant (.str "cheap") j1 p1), some (.Constant (.str "dear") j2 p2)] [.Constant (.int 1) j3 p3, .Constant (.int 2) j4 p4] dp) "get" ap) [a, .Constant (.int 0) j5 p5] [] cp) (tE X.K R (.toll i)) := by
  have hd0 : PE X (.Dict [some (.Constant (.str "cheap") j1 p1), some (.Constant (.str "dear") j2 p2)] [.Constant (.int 1) j3 p3, .Constant (.int 2) j4 p4] dp) (tDisp [(tC (.str "cheap"), tC (.int 1)), (tC (.str "dear"), tC (.int 2))]) :=
    pe_disp (pps_cons pe_str pe_int (pps_cons pe_str pe_int pps_nil)) (by rfl) (by rfl) (fun z => by cases z) (by show 2 ≤ 15; decide)
  refine (pe_dget2 hu hd0 ha (pe_int (i := 0)) ⟨by rfl, by rw [star_cons hs]; rfl, hl, by rw [star_cons hs]; rfl⟩).imp fun σ H Q q => ?_
  obtain ⟨hd, ad, S, ρ, sr, er, p⟩ := q
  simp only [ev] at p
  intro pp hp
  refine ⟨upd_same, tollK, rfl, by decide, pp, rfl, .inl ⟨_, .inl upd_same⟩, ?_⟩
  rw [upd_upd, toll_merge]
  have g0 := sr.new (o := .dK tollK) hp
  have e0 := sr.new_at (o := .dK tollK) hp
  refine ⟨hd, ad, S, ρ, g0.sr, er.go g0, (Post.mono p g0).bind fun d S1 x ad1 H1 g1 r1 p1 => ?_⟩
  cases r1 with
  | str y =>
    refine ⟨_, DGet.k (k := Sum.inr y) (era_of (g1.ex _ _ e0)), ?_⟩
    rw [toll_val]
    exact p1 _ ad1 H1 (Good.refl g1.sr) (.int _)
  | _ => exact False.elim p1
end Wt
set_option maxRecDepth 100000
set_option maxHeartbeats 1000000
namespace Wt
open PySem L2
variable [Wd]
theorem lcL_noex {tst elt : Slots → Store → Out D} {g : Tg} {ρ : Slots} : ∀ (ds : List D) (S : Store) (x : Xn) (S' : Store), lcL tst elt g ρ ds S ≠ .ex x S'
  | [], S, x, S', h => by
    unfold lcL at h
    cases h
  | d :: ds, S, x, S', h => by
    unfold lcL at h
    split at h
    · cases h
    · split at h
      · split at h
        · rename_i y S2 _
          cases e : lcL tst elt g ρ ds S2 with
          | ok ys S3 => rw [e] at h; cases h
          | ex x2 S3 => exact lcL_noex ds _ _ _ e
          | no => rw [e] at h; cases h
        · cases h
      · exact lcL_noex ds _ _ _ h
      · cases h
theorem wipe_eq {σ σ' : L2.St} (hl : σ'.length = σ.length) : ∀ {vs : List Nat}, (∀ i, i ∉ vs → σ'[i]? = σ[i]?) → wipe σ' vs = wipe σ vs := by
  have key : ∀ (vs : List Nat) (τ : L2.St) (i : Nat), (wipe τ vs)[i]? = if i ∈ vs then (if i < τ.length then some none else none) else τ[i]? := by
    intro vs
    induction vs with
    | nil => intro τ i; simp [wipe]
    | cons v vs ih =>
      intro τ i
      unfold wipe
      by_cases h : v = i
      · subst h
        rw [if_pos List.mem_cons_self]
        by_cases hi : v < τ.length
        · rw [if_pos hi, List.getElem?_set_self (by rw [wipe_length]; exact hi)]
        · rw [if_neg hi, List.getElem?_eq_none (by rw [List.length_set, wipe_length]; omega)]
      · rw [List.getElem?_set_ne h, ih τ i]
        have : (i ∈ v :: vs) ↔ i ∈ vs := by
          rw [List.mem_cons]
          exact ⟨fun q => q.resolve_left (Ne.symm h), .inr⟩
        simp only [this]
  intro vs h
  apply List.ext_getElem?
  intro i
  rw [key, key, hl]
  by_cases hi : i ∈ vs
  · rw [if_pos hi, if_pos hi]
  · rw [if_neg hi, if_neg hi, h i hi]
theorem wipe_wipe (σ : L2.St) (vs : List Nat) : wipe (wipe σ vs) vs = wipe σ vs := wipe_eq (by rw [wipe_length]) (by
  intro i hi
  have : ∀ (vs : List Nat), i ∉ vs → (wipe σ vs)[i]? = σ[i]? := by
    intro vs
    induction vs with
    | nil => intro _; rfl
    | cons v vs ih =>
      intro h
      unfold wipe
      rw [List.getElem?_set_ne (fun q => h (by rw [q]; exact List.mem_cons_self)), ih fun q => h (List.mem_cons_of_mem _ q)]
  exact this vs hi)
theorem wipeE_length (ρ : Slots) : ∀ vs : List Nat, (wipeE ρ vs).length = ρ.length
  | [] => rfl
  | v :: vs => by unfold wipeE; rw [List.length_set, wipeE_length ρ vs]
mutual
theorem bindT_len : ∀ (g : Tg) (d : D) (ρ ρ' : Slots), bindT g d ρ = some ρ' → ρ'.length = ρ.length
  | .nm i, d, ρ, ρ', h => by
    simp only [bindT, Option.some.injEq] at h
    subst h
    simp
  | .tup gs, d, ρ, ρ', h => by
    cases d with
    | tup ds =>
      simp only [bindT] at h
      exact bindTs_sl gs ds ρ ρ' h
    | _ => simp [bindT] at h
theorem bindTs_sl : ∀ (gs : List Tg) (ds : List D) (ρ ρ' : Slots), bindTs gs ds ρ = some ρ' → ρ'.length = ρ.length
  | [], [], ρ, ρ', h => by
    simp only [bindTs, Option.some.injEq] at h
    subst h
    rfl
  | g :: gs, d :: ds, ρ, ρ', h => by
    simp only [bindTs] at h
    split at h
    · rename_i ρ1 e
      rw [bindTs_sl gs ds _ _ h, bindT_len g d _ _ e]
    · cases h
  | [], _ :: _, _, _, h => by simp [bindTs] at h
  | _ :: _, [], _, _, h => by simp [bindTs] at h
end
def Rt.nox (R : Rt) : Rt := { R with W := fun _ _ _ => False }
section
variable {X : Cx} {R : Rt} {C : Cc} {G : Gc}
variable {a b c : Expr} {i j l : E} {pos : Pos}
theorem Cok.blk (c : Cok X R C) (s : Shared) (H : Hp) (scope : Scope) (A : Addr) (cl : List (Str × Addr)) (fp : List Addr) : Cok (X.blk s H scope (compEnvC scope cl A X.env) fp) R.nox (C.blk scope) where
  sc := by show relS scope X.env.scope = relS scope C.sc; rw [c.sc]
  N := c.N
  nd := c.nd
  fn := rfl
  calm := c.calm
  room := c.room
  tk := takes0
  own := PassesOwn.never
  wd := c.wd
theorem lc_read {g : Tg} {it : Wt.It} {is : List E} {ie ic : E} {tt : TT} {own : List (Str × Nat)} (cc : Cok X R C)
    (htt : ∀ σ H Q, tT X.K R.nox ic σ H Q → tt σ H Q) (hsl : ∀ q ∈ g.slots, q ∈ own.map (·.2)) {σ : L2.St} {H : Hp} {Q : VK} (q : tE X.K R (.lc ie g it is ic (own.map (·.2))) σ H Q) :
    tLc (tI X.K R it is) (tG X.K g) tt (tE X.K R.nox ie) (own.map (·.2)) σ H Q := by
  obtain ⟨hd, ad, S, ρ, sr, er, p⟩ := q
  have e0 : ev (callF R.T R.k) (.lc ie g it is ic (own.map (·.2))) ρ S = (itO (callF R.T R.k) it is ρ S).bind fun items S1 => if roomy items.length = true then (lcL (ev (callF R.T R.k) ic) (ev (callF R.T R.k) ie) g (wipeE ρ (own.map (·.2))) items S1).bind fun ys S2 => Out.ok (D.lst ys) S2 else .no := by
    simp only [ev]
    unfold itO
    rw [Out.bind_assoc]
    congr 1
    funext ds S1
    cases itD it ds <;> rfl
  rw [e0] at p
  refine ⟨hd, ad, S, ρ, sr, er, p.bind fun items S1 J ad1 H1 g1 r1 p1 => ?_⟩
  by_cases hz : roomy items.length = true
  case neg =>
    rw [if_neg hz] at p1
    exact False.elim p1
  rw [if_pos hz] at p1
  obtain ⟨G0, Y, wk, hG, hY⟩ := r1
  cases el : lcL (ev (callF R.T R.k) ic) (ev (callF R.T R.k) ie) g (wipeE ρ (own.map (·.2))) items S1 with
  | no => rw [el] at p1; exact False.elim p1
  | ex x S2 => exact absurd el (lcL_noex _ _ _ _)
  | ok ys0 S20 =>
  rw [el, Out.bind_ok] at p1
  intro Dl hD
  have nD : Dl ∉ hd := g1.sr.nothd hD
  obtain ⟨sr0, era0⟩ := g1.sr.hide (o := .lst []) hD
  refine lc_it wk (fun n H' => ∃ ad' S' vs ds ys, SR X.K (Dl :: hd) ad' S' H' ∧ Pre ad1 ad' ∧ Ex (era hd ad1 S1 H1) (era (Dl :: hd) ad' S' H') ∧ (∀ x ∈ hd, H' x = H1 x) ∧ H' Dl = some (.lst vs) ∧
    RpAll X.K (era (Dl :: hd) ad' S' H') ad' vs ds ∧ ds.length ≤ n ∧ lcL (ev (callF R.T R.k) ic) (ev (callF R.T R.k) ie) g (wipeE ρ (own.map (·.2))) (items.drop n) S' = .ok ys S20 ∧ ys0 = ds ++ ys)
    ⟨ad1, S1, [], [], ys0, sr0, Pre.refl _, by rw [era0]; exact Ex.refl _, fun x hx => upd_ne fun q => nD (q ▸ hx), upd_same, .nil, Nat.le_refl _, el, rfl⟩ ?_ ?_ ?_
  · rintro n H' _ ⟨ad', S', vs, ds, ys, sr', pr, ex, _⟩
    exact hG H' (ex.trans era_ex)
  · rintro n x H' H2 hn ⟨ad', S', vs, ds, ys, sr', pr, ex, hh, hDl, ra, hlen, el', ey⟩ y
    obtain ⟨d, hd1, k⟩ := hY n H' x H2 y (ex.trans era_ex)
    obtain ⟨g2, rx⟩ := k (Dl :: hd) ad' S' sr' ex pr
    have ed : items.drop n = d :: items.drop (n + 1) := by
      obtain ⟨h1, h2⟩ := List.getElem?_eq_some_iff.mp hd1
      rw [List.drop_eq_getElem_cons h1, h2]
    rw [ed] at el'
    unfold lcL at el'
    split at el'
    · cases el'
    · rename_i ρ1 eb
      have exA : Ex (era hd ad S H) (era (Dl :: hd) ad' S' H2) := (g1.ex.trans ex).trans g2.ex
      refine ⟨Dl :: hd, ad', S', wipeE ρ (own.map (·.2)), d, ρ1, g2.sr, (er.wipe _).mono exA (g1.pre.trans pr), rx, eb, fun σ2 er2 same => ?_⟩
      have hlen2 : σ2.length = (wipe σ (own.map (·.2))).length := by
        rw [er2.1, wipe_length, er.1, bindT_len g d _ _ eb, wipeE_length]
      refine ⟨by rw [wipe_eq hlen2 fun q hq => same q fun z => hq (hsl q z), wipe_wipe], htt _ _ _ ?_⟩
      refine ⟨Dl :: hd, ad', S', ρ1, g2.sr, er2, ?_⟩
      split at el'
      · rename_i S3 et
        have et' : asB (ev (callF R.nox.T R.nox.k) ic ρ1 S') = .ok true S3 := et
        rw [et']
        intro bb ad3 H3 g3 ebb
        have ebb : bb = true := ebb
        subst ebb
        rw [if_pos rfl]
        split at el'
        · rename_i y S4 ee
          have ee' : ev (callF R.nox.T R.nox.k) ie ρ1 S3 = .ok y S4 := ee
          refine ⟨Dl :: hd, ad3, S3, ρ1, g3.sr, er2.go g3, ?_⟩
          rw [ee']
          intro v ad4 H4 g4 rv
          have hD4 : H4 Dl = some (.lst vs) := by rw [g4.hid Dl List.mem_cons_self, g3.hid Dl List.mem_cons_self, g2.hid Dl List.mem_cons_self, hDl]
          refine ⟨vs, hD4, ?_, ?_⟩
          · rw [ra.length]
            have := of_decide_eq_true hz
            exact Nat.lt_of_lt_of_le (by omega : ds.length < 1000001) (by decide)
          · obtain ⟨sr5, era5⟩ := g4.sr.rehide (o := .lst (vs ++ [v]))
            cases er' : lcL (ev (callF R.T R.k) ic) (ev (callF R.T R.k) ie) g (wipeE ρ (own.map (·.2))) (items.drop (n + 1)) S4 with
            | no => rw [er'] at el'; cases el'
            | ex x2 S5 => rw [er'] at el'; cases el'
            | ok ys' S5 =>
              rw [er', Out.bind_ok] at el'
              cases el'
              have gA := (g2.trans g3).trans g4
              refine ⟨ad4, S4, vs ++ [v], ds ++ [y], ys', sr5, pr.trans gA.pre, ?_, fun x hx => ?_, upd_same, ?_, ?_, er', ?_⟩
              · rw [era5]; exact ex.trans gA.ex
              · rw [upd_ne (fun q => nD (by rw [← q]; exact hx)), gA.hid x (List.mem_cons_of_mem _ hx), hh x hx]
              · rw [era5]; exact (ra.mono gA.ex gA.pre).append (.cons rv .nil)
              · simp; exact hlen
              · rw [ey, List.append_assoc]; rfl
        · cases el'
      · rename_i S3 et
        have et' : asB (ev (callF R.nox.T R.nox.k) ic ρ1 S') = .ok false S3 := et
        rw [et']
        intro bb ad3 H3 g3 ebb
        have ebb : bb = false := ebb
        subst ebb
        rw [if_neg Bool.false_ne_true]
        have gA := g2.trans g3
        exact ⟨ad3, S3, vs, ds, ys, g3.sr, pr.trans gA.pre, ex.trans gA.ex, fun x hx => by rw [gA.hid x (List.mem_cons_of_mem _ hx), hh x hx], by rw [gA.hid Dl List.mem_cons_self, hDl], ra.mono gA.ex gA.pre, Nat.le_succ_of_le hlen, el', ey⟩
      · cases el'
  · rintro H' ⟨ad', S', vs, ds, ys, sr', pr, ex, hh, hDl, ra, hlen, el', ey⟩
    rw [List.drop_length] at el'
    unfold lcL at el'
    cases el'
    rw [List.append_nil] at ey
    subst ey
    obtain ⟨sr2, e2, h2⟩ := sr'.show nD
    exact p1 _ ad' H' ⟨pr, ex.trans e2, sr2, hh⟩ (.lst (h2 _ hDl) (ra.mono e2 (Pre.refl _)))
theorem x_lc {elt tg iter : Expr} {ifs : List Expr} {scope : Scope} {own : List (Str × Nat)} {g : Tg} {it : Wt.It} {is : List E} {ie ic : E} {tt : TT} (cc : Cok X R C)
    (ok : BlkOk X.N X.env.scope scope own) (hi : PI X tg iter (tI X.K R it is))
    (hg : ∀ (s : Shared) (H : Hp) (A : Addr) (cl : List (Str × Addr)) (fp : List Addr), PG (X.blk s H scope (compEnvC scope cl A X.env) fp) tg (tG X.K g))
    (ht : ∀ (s : Shared) (H : Hp) (A : Addr) (cl : List (Str × Addr)) (fp : List Addr), PTs (X.blk s H scope (compEnvC scope cl A X.env) fp) ifs tt)
    (htt : ∀ σ H Q, tT X.K R.nox ic σ H Q → tt σ H Q)
    (he : ∀ (s : Shared) (H : Hp) (A : Addr) (cl : List (Str × Addr)) (fp : List Addr), PE (X.blk s H scope (compEnvC scope cl A X.env) fp) elt (tE X.K R.nox ie))
    (hsl : ∀ q ∈ g.slots, q ∈ own.map (·.2)) (hs : ∀ x, foldedSetIterable iter X.env x = pure x) :
    PE X (.ListComp elt [⟨tg, iter, ifs, 0⟩] scope pos) (tE X.K R (.lc ie g it is ic (own.map (·.2)))) :=
  (pe_lc cc.calm (by rw [cc.N]; exact cc.nd) hi ok hg ht he hs).imp fun σ H Q q => lc_read cc htt hsl q
/-! ### a list that may change, from now on as it is -/
theorem x_fz (ha : PE X a (tE X.K R i)) : PE X a (tE X.K R (.fz i)) := (pe_upd ha).imp fun σ H Q q => by
  obtain ⟨hd, ad, S, ρ, sr, er, p⟩ := q
  simp only [ev] at p
  refine ⟨hd, ad, S, ρ, sr, er, p.bind fun d S1 x ad1 H1 g1 r1 p1 => ?_⟩
  cases r1 with
  | @loc a0 n h1 =>
    simp only at p1
    split at p1
    · rename_i m hS
      intro pins σ s I
      have hn : n < S1.length := (List.getElem?_eq_some_iff.mp hS).1
      obtain ⟨H2, I2, k⟩ := upd_one g1.sr hn rfl Kill.refl pins σ s I
      exact ⟨H2, I2, p1 _ ad1 H2 (k.good g1.sr) (k.fr g1.sr h1 hS (by rw [List.getElem?_set_self hn])).rp⟩
    · exact False.elim p1
  | _ => exact False.elim p1
end
end Wt
set_option maxRecDepth 100000
set_option maxHeartbeats 1000000
/-! dict(d), dict(pairs), max(d.values()): on the machine. -/
namespace Wt
open PySem L2
variable [Wd]
section
variable {X : Cx} {pins : List (Addr × Obj)} {σ : L2.St} {H : Hp} {s : Shared} {a b : Addr} {A : Around} {E : Value → Shared → Prop} {xs : List DE}
theorem paired_map {α β γ : Type} {R : α → β → Prop} {f : α → γ} {g : β → γ} (h : ∀ p q, R p q → f p = g q) : ∀ {l : List α} {m : List β}, Paired R l m → l.map f = m.map g
  | _, _, .nil => rfl
  | _, _, .cons r t => by rw [List.map_cons, List.map_cons, h _ _ r, paired_map h t]
/-- a new dict, laid -/
theorem laid_D {ys : List (NestedKey × Addr × Value)} {h' : Heap} {tk : Nat} (hw : X.w = Wd.w) (I : Inv X pins σ H s) (k : ∀ c u, s.heap.get? c = some u → h'.get? c = some u) (z : xs.length ≤ sizeLine) (rel : Paired DRel xs ys)
    (dd : h'.DictOfH (nestedKind X.prog X.w) s.heap.objs.size ys) : Inv X pins σ (upd H s.heap.objs.size (DicO s.heap.objs.size xs)) { s with heap := h', toks := tk } :=
  I.laid (t' := tk) k (Nat.le_refl _) (dic_ok hw z (beq_eq_false_iff_ne.mpr (Nat.ne_of_gt I.big)) rel dd)
theorem m_copy {Q : Value → Shared → Prop} (hw : X.w = Wd.w) (hu : A.units + 10 < cLine) (I : Inv X pins σ H s) (n : AtN X s a xs) (hap : (xs.map fun p => hash0 p.1).Nodup) (ht : ∀ p ∈ xs, noText p.1 = true)
    (q : ∀ s', Inv X pins σ (upd H s.heap.objs.size (DicO s.heap.objs.size xs)) s' → Q (.ref s.heap.objs.size) s') : wpAny (model X.prog X.w) A (call (.type "dict") [.ref a]) Q E s := by
  obtain ⟨z, hoS, ys, rel, dd⟩ := n
  have hl := Paired.length rel
  refine callType_codes (Q₁ := fun obj s₁ => obj = .ref s.heap.objs.size ∧ s₁ = { s with heap := s.heap.push { cls := .type "dict", data := .dict #[] } }) F.kt_called_dict (F.kt_typeCall_dict_1 _) F.entry_dict_init (kt_code_dict_new _ ⟨rfl, rfl⟩) ?_
  rintro obj s₁ ⟨rfl, rfl⟩
  have hnew : (s.heap.push { cls := .type "dict", data := .dict #[] }).DictOfH (nestedKind X.prog X.w) s.heap.objs.size [] := Heap.DictOfH.new s.heap
  have keep : ∀ c u, s.heap.get? c = some u → (s.heap.push { cls := .type "dict", data := .dict #[] }).get? c = some u := fun c u e => Heap.get?_push_of_some _ e
  have dd2 : (s.heap.push { cls := .type "dict", data := .dict #[] }).DictOfH (nestedKind X.prog X.w) a ys := by
    obtain ⟨o, es, ep, h1, h2, h3, h4, h5, h6⟩ := dd
    exact ⟨o, es, ep, keep _ _ h1, h2, h3, h4, fun x hx => nestedKind_stays.stays (fun c o _ _ e _ => keep c o e) (h5 x hx), h6⟩
  have hdo : s.heap.objs.size ≠ a := by
    obtain ⟨_, _, _, hg, _⟩ := dd
    exact fun e => absurd (Heap.lt_size hg) (by rw [e]; exact Nat.lt_irrefl _)
  refine ⟨hnew.typeIs, F.args_dict_init_2 _ _, ?_⟩
  unfold Builtin.«dict.__init__»
  refine wpAny_bind ?_
  unfold Builtin.Dict.selfAndRest
  refine wpAny_bind (wpAny_notOrdered_dict hnew.typeIs ?_)
  show wpAny _ _ (pure (s.heap.objs.size, [Value.ref a])) _ _ _
  refine wpAny_pure ?_
  have hh : (ys.map fun x => (nestedKind X.prog X.w).hash x.1) = xs.map fun p => hash0 p.1 := by
    have e1 : (ys.map fun x => (nestedKind X.prog X.w).hash x.1) = xs.map fun p => (nestedKind X.prog X.w).hash p.1 := (paired_map (fun p q r => by rw [r.1]) rel).symm
    rw [e1]
    exact List.map_congr_left fun p hp => hash0_eq X.w p.1 (ht p hp)
  refine updateFrom_dictH (A := A.in1) (knd := nestedKind X.prog X.w) .none (by show A.units + 1 + 1 + 8 < cLine; omega) hdo hoS hnew dd2 (.inr ⟨keyed_apart (s := { s with heap := s.heap.push { cls := .type "dict", data := .dict #[] } }) nestedKind_stays dd2, by rw [hh]; exact hap⟩) (by rw [List.length_nil, Nat.zero_add, ← hl]; exact z) fun h' d1 d2 sb => ?_
  have nd : (ys.map (·.1)).Nodup := dd.nodup
  rw [storedAllH_nil_of_nodup ys nd] at d1
  exact ⟨rfl, q _ (laid_D (tk := s.toks) hw I (fun c u e => (sb.2 c (Nat.ne_of_lt (Heap.lt_size e))).trans (keep c u e)) z rel d1)⟩
/-! ### dict(list of pairs) -/
/-- pairs: a key and a value in a tuple -/
def PrAt (K : PySem.W.Frag) (H : Hp) (v : V) (p : DE) : Prop := ∃ T, v = .ref T ∧ SqT K H T [.ref p.2.1, p.2.2]
def dPuts (xs : List DE) (ps : List DE) : List DE := ps.foldl (fun acc p => dPut acc p.1 p.2.1 p.2.2) xs
theorem dputs_rel : ∀ {ps : List DE} {rs : List (NestedKey × Addr × Value)} {xs : List DE} {ys : List (NestedKey × Addr × Value)}, Paired DRel ps rs → Paired DRel xs ys → Paired DRel (dPuts xs ps) (storedAllH ys rs)
  | _, _, _, _, .nil, h => h
  | _, _, _, _, @Paired.cons _ _ _ p q ps qs hq t, h => by
    have e := drel_put (k := p.1) (b := p.2.1) h hq.2.2
    rw [hq.1, hq.2.1] at e
    have := dputs_rel t e
    show Paired DRel (dPuts (dPut _ p.1 p.2.1 p.2.2) ps) (storedAllH (storedH _ q.1 q.2.1 q.2.2) qs)
    rw [hq.1, hq.2.1]
    exact this
theorem dputs_len : ∀ (ps xs : List DE), (dPuts xs ps).length ≤ xs.length + ps.length
  | [], xs => Nat.le_refl _
  | p :: ps, xs => by
    have h1 := dputs_len ps (dPut xs p.1 p.2.1 p.2.2)
    have h2 := dPut_len xs p.1 p.2.1 p.2.2
    show (dPuts (dPut xs p.1 p.2.1 p.2.2) ps).length ≤ _
    simp only [List.length_cons]
    omega
/-- the pairs as they stand on the machine -/
theorem prs_raw (I : Inv X pins σ H s) : ∀ {vs : List V} {ps : List DE} {us : List Value}, Paired (PrAt X.K H) vs ps → Vals vs us →
    ∃ (Ts : List Addr) (rs : List (NestedKey × Addr × Value)), us = Ts.map Value.ref ∧ Paired DRel ps rs ∧ Ts.length = rs.length ∧ ∀ (j : Nat) (x : NestedKey × Addr × Value), rs[j]? = some x → ∃ T, Ts[j]? = some T ∧ s.heap.IsTuple T #[.ref x.2.1, x.2.2]
  | _, _, _, .nil, .nil => ⟨[], [], rfl, .nil, rfl, fun j x e => by simp at e⟩
  | _, _, _, @Paired.cons _ _ _ v p vs ps hp t, .cons r rr => by
    obtain ⟨Ts, rs, e1, e2, e3, e4⟩ := prs_raw I t rr
    obtain ⟨T, rfl, hq⟩ := hp
    cases r
    obtain ⟨its, rv, hx, _⟩ := I.tuple hq
    obtain ⟨u1, u2, eu, r1, r2⟩ := rv.two
    cases r1
    subst eu
    obtain ⟨o, h1, h2, n, h3⟩ := hx
    refine ⟨T :: Ts, (p.1, p.2.1, u2) :: rs, by rw [e1]; rfl, .cons ⟨rfl, rfl, r2⟩ e2, by simp [e3], fun j x e => ?_⟩
    cases j with
    | zero =>
      simp only [List.getElem?_cons_zero, Option.some.injEq] at e
      subst e
      exact ⟨T, rfl, o, h1, h2, n, h3⟩
    | succ j =>
      simp only [List.getElem?_cons_succ] at e ⊢
      exact e4 j x e
theorem m_pairs {l : Addr} {vs : List V} {ps : List DE} {Q : Value → Shared → Prop} (hw : X.w = Wd.w) (hh : A.handled = none) (hu : A.units + 10 < cLine) (I : Inv X pins σ H s) (hl : SqL X.K H l vs) (hp : Paired (PrAt X.K H) vs ps) (hk : DKeys X.K H ps)
    (q : ∀ s', Inv X pins σ (upd H s.heap.objs.size (DicO s.heap.objs.size (dPuts [] ps))) s' → Q (.ref s.heap.objs.size) s') : wpAny (model X.prog X.w) A (call (.type "dict") [.ref l]) Q E s := by
  obtain ⟨its, rv, ⟨o, n, ho, hc, hd, hdat⟩, hz⟩ := I.list hl
  obtain ⟨Ts, rs, e1, rel, e3, e4⟩ := prs_raw I hp rv
  have hn : ps.length = rs.length := Paired.length rel
  have hvs : vs.length = rs.length := by rw [← hn]; exact Paired.length hp
  have hits : its.length = rs.length := by rw [e1, List.length_map, e3]
  refine call_dict_pairsH (knd := nestedKind X.prog X.w) (ps := rs) (wr := []) (PairArg.list (prog := X.prog) (w := X.w) l its.toArray (fun j => Ts.getD j 0) (rs.map fun x => (Value.ref x.2.1, x.2.2))) hh
    (by show A.units + 1 + 1 + 8 < cLine; omega) ⟨⟨o, n, ho, hc, hd, hdat⟩, by rw [List.size_toArray, List.length_map, hits], fun j k v e => ?_⟩ ⟨by rw [List.length_map], fun i key v e => ?_⟩ (fun h' keep x hx => ?_) (by rw [List.length_map, ← hvs]; exact hz) fun h' tk dd keep => ?_
  · rw [List.getElem?_map] at e
    obtain ⟨x, hx, e5⟩ := Option.map_eq_some_iff.mp e
    cases e5
    obtain ⟨T, hT, ht⟩ := e4 j x hx
    have eT : Ts.getD j 0 = T := by rw [List.getD_eq_getElem?_getD, hT]; rfl
    refine ⟨?_, .inl (by show s.heap.IsTuple (Ts.getD j 0) _; rw [eT]; exact ht)⟩
    show its.toArray[j]? = some (Value.ref (Ts.getD j 0))
    rw [eT, e1, List.getElem?_toArray, List.getElem?_map, hT]
    rfl
  · show ∃ k b, rs[i]? = some (k, b, v) ∧ key = .ref b
    have e : (rs.map fun x => (Value.ref x.2.1, x.2.2))[i]? = some (key, v) := e
    rw [List.getElem?_map] at e
    obtain ⟨x, hx, e5⟩ := Option.map_eq_some_iff.mp e
    cases e5
    exact ⟨x.1, x.2.1, hx, rfl⟩
  · have k2 := AtN.keys_ok I rel hk x hx
    exact nestedKind_stays.stays (fun c o _ _ e _ => keep c o (Nat.ne_of_lt (Heap.lt_size e)) (fun z => nomatch z) e) k2
  · refine q _ (laid_D (tk := tk) hw I (fun c u e => keep c u (fun z => nomatch z) e) ?_ (dputs_rel rel .nil) dd)
    have := dputs_len ps []
    simp only [List.length_nil, Nat.zero_add] at this
    omega
/-! ### max(d.values()) -/
/-- at a: a dict whose values are these numbers -/
def IntsAt (s : Shared) (a : Addr) (ns : List Int) : Prop := (a == sysModules) = false ∧ ∃ o es ep, s.heap.get? a = some o ∧ o.ExactDict ∧ o.data = .dict es ep ∧ es.size = ns.length ∧ ∀ (i : Nat) (e : DictEntry), es[i]? = some e → ∃ t, e.val = .int (ns.getD i 0) t
theorem relInt {z : Int} {v : V} {ad : List Addr} {E0 : Hp} {u : Value} (r : Rp X.K E0 ad v (.int z)) (h : RelV v u) : ∃ t, u = .int z t := by
  cases r
  exact h
theorem intsD_get : ∀ {l : List D} {ns : List Int}, intsD l = some ns → l = ns.map D.int
  | [], _, h => by cases h; rfl
  | .int x :: r, _, h => by
    simp only [intsD] at h
    obtain ⟨m, h1, h2⟩ := Option.map_eq_some_iff.mp h
    subst h2
    rw [intsD_get h1]
    rfl
  | .non :: _, _, h => by cases h
  | .bl _ :: _, _, h => by cases h
  | .str _ :: _, _, h => by cases h
  | .lst _ :: _, _, h => by cases h
  | .tup _ :: _, _, h => by cases h
  | .scr _ :: _, _, h => by cases h
  | .loc _ :: _, _, h => by cases h
  | .dic _ _ :: _, _, h => by cases h
theorem dv_ints {E0 : Hp} {ad : List Addr} {kvs : List (D × D)} {ns : List Int} (hw : X.w = Wd.w) (I : Inv X pins σ H s) (e : Ex E0 H) (dv : DV X.K E0 ad H a kvs) (hi : intsD (kvs.map (·.2)) = some ns) : IntsAt s a ns := by
  have hk := intsD_get hi
  have hkl : kvs.length = ns.length := by
    have := congrArg List.length hk
    simpa using this
  have at_i : ∀ (i : Nat) (p : D × D), kvs[i]? = some p → p.2 = .int (ns.getD i 0) := fun i p hp => by
    have q : (kvs.map (·.2))[i]? = some p.2 := by rw [List.getElem?_map, hp]; rfl
    rw [hk, List.getElem?_map] at q
    obtain ⟨z, hz, e⟩ := Option.map_eq_some_iff.mp q
    rw [List.getD_eq_getElem?_getD, hz, ← e]
    rfl
  rcases dv with ⟨xs, hx, h0, p⟩ | ⟨xs, hx, p⟩
  · obtain ⟨z, hs, ys, rel, o, es, ep, h1, h2, h3, h4, h5, h6⟩ := atN hw I hx (dkeys_of e p)
    have hl : es.size = ys.length := by rw [← Array.length_toList, h4, List.length_map]
    refine ⟨hs, o, es, ep, h1, h2, h3, by rw [hl, ← Paired.length rel, Paired.length p, hkl], fun i en he => ?_⟩
    rw [← Array.getElem?_toList, h4, List.getElem?_map] at he
    obtain ⟨y, hy, e2⟩ := Option.map_eq_some_iff.mp he
    have hix : i < xs.length := by rw [Paired.length rel]; exact (List.getElem?_eq_some_iff.mp hy).1
    obtain ⟨y2, hy2, r2⟩ := paired_get rel (List.getElem?_eq_getElem hix)
    obtain ⟨p2, hp2, r3⟩ := paired_get p (List.getElem?_eq_getElem hix)
    rw [hy] at hy2
    cases hy2
    have r4 := r3.2.2
    rw [at_i i p2 hp2] at r4
    obtain ⟨t, ht⟩ := relInt r4 r2.2.2
    exact ⟨t, by rw [← e2]; exact ht⟩
  · obtain ⟨z, hs, vs, rel, o, es, ep, h1, h2, h3, h4, h5, h6⟩ := dk_rd I.hok hx
    have hl : es.size = vs.length := by rw [← Array.length_toList]; exact h5.length
    refine ⟨hs, o, es, ep, h1, h2, h3, by rw [hl, ← rel.length, Paired.length p, hkl], fun i en he => ?_⟩
    obtain ⟨q, hq, _, e2⟩ := pairs_get h5 i en (by rw [Array.getElem?_toList]; exact he)
    have hix : i < xs.length := by rw [rel.length]; exact (List.getElem?_eq_some_iff.mp hq).1
    obtain ⟨u, hu, ru⟩ := kv_get rel (i := i) (k := xs[i].1) (v := xs[i].2) (List.getElem?_eq_getElem hix)
    obtain ⟨p2, hp2, r3⟩ := paired_get p (List.getElem?_eq_getElem hix)
    rw [hu] at hq
    cases hq
    have r4 := r3.2
    rw [at_i i p2 hp2] at r4
    obtain ⟨t, ht⟩ := relInt r4 ru
    exact ⟨t, by rw [e2]; exact ht⟩
theorem maxL_mem : ∀ (l : List Int) (m : Int), maxL m l = m ∨ maxL m l ∈ l
  | [], m => .inl rfl
  | x :: r, m => by
    unfold maxL
    rcases maxL_mem r (if m < x then x else m) with h | h
    · rw [h]
      split
      · exact .inr List.mem_cons_self
      · exact .inl rfl
    · exact .inr (List.mem_cons_of_mem _ h)
theorem maxL_ge : ∀ (l : List Int) (m : Int), m ≤ maxL m l ∧ ∀ y ∈ l, y ≤ maxL m l
  | [], m => ⟨Int.le_refl _, fun _ h => nomatch h⟩
  | x :: r, m => by
    unfold maxL
    obtain ⟨h1, h2⟩ := maxL_ge r (if m < x then x else m)
    have h3 : m ≤ maxL (if m < x then x else m) r ∧ x ≤ maxL (if m < x then x else m) r := by
      by_cases h : m < x
      · rw [if_pos h] at h1 ⊢
        omega
      · rw [if_neg h] at h1 ⊢
        omega
    refine ⟨h3.1, fun y hy => ?_⟩
    rcases List.mem_cons.mp hy with rfl | hy
    · exact h3.2
    · exact h2 y hy
theorem maxL_is {x m : Int} {r : List Int} (h1 : m ∈ x :: r) (h2 : ∀ y ∈ x :: r, y ≤ m) : m = maxL x r := by
  obtain ⟨g1, g2⟩ := maxL_ge r x
  have g3 : maxL x r ≤ m := by
    rcases maxL_mem r x with h | h
    · rw [h]
      exact h2 x List.mem_cons_self
    · exact h2 _ (List.mem_cons_of_mem _ h)
  rcases List.mem_cons.mp h1 with rfl | h
  · omega
  · have := g2 m h
    omega
end
section
variable {X : Cx} {d : Expr} {pm ap cp pos : Pos} {td : TE}
def tMaxv (P : (H : Hp) → Addr → List Int → Prop) (td : TE) : TE := fun σ H Q => td σ H fun x H1 => ∃ b z r, x = .ref b ∧ P H1 b (z :: r) ∧ Q (.int (maxL z r)) H1
theorem pe_maxv {P : (H : Hp) → Addr → List Int → Prop} (hP : ∀ {pins : List (Addr × Obj)} {s : Shared} {σ : L2.St} {H : Hp} {b : Addr} {ns : List Int}, Inv X pins σ H s → P H b ns → IntsAt s b ns)
    (hc : X.calm = true) (hg : Gl X "max") (hm : X.mg "max" = none) (he : PE X d td) (hbase : attributeBase d "values" X.env (eval d X.env) = eval d X.env) (hline : (ap.endLine == cp.line) = true) :
    PE X (.Call (.Name "max" pm) [.Call (.Attribute d "values" ap) [] [] cp] [] pos) (tMaxv P td) := by
  refine ⟨fun pins s σ H Q I h => ?_⟩
  refine wpAny_Call_Name_kw (ld_blt I hg hm (show bootBuiltins ("max" : Str) = some (.builtin "max") by decide +kernel) ?_ (by decide) (by decide))
  refine PyProof.Rows.callWith_builtin1 (Calls.spliced_cons (wpAny_Call_method (T := "dict") (id := "dict.values") hbase rfl hline F.plainAttrs_dict F.slot_dict_values F.type_dict_values (thn (he.run pins s σ H _ I h) fun u s1 ⟨x, H1, I1, rx, b, z, r, ex, hp, q⟩ => ?_))) rfl rfl
  subst ex
  cases rx
  obtain ⟨hs, o, es, ep, ho, hx, hod, hz, hv⟩ := hP I1 hp
  have raw : s1.heap.DictRaw b es ep := ⟨o, ho, hx, hod⟩
  refine ⟨raw.typeIs, fun c e => by cases e; exact ⟨o, ho, hx.2.1⟩, ?_⟩
  have hlt : b < s1.heap.objs.size := Heap.lt_size ho
  have fin : wpAny (model X.prog X.w) X.A (call (.builtin "max") [.ref s1.heap.objs.size]) (EP X pins σ Q) X.xe { s1 with heap := s1.heap.push { cls := .type "dict_values", data := .fields #[.ref b] } } := by
    have hvw : (s1.heap.push { cls := .type "dict_values", data := .fields #[.ref b] }).get? s1.heap.objs.size = some (DSub.viewOb "dict_values" b) := Heap.get?_push_size _ rfl
    have hob : (s1.heap.push { cls := .type "dict_values", data := .fields #[.ref b] }).get? b = some o := Heap.get?_push_of_some _ ho
    refine call_max_walk ?_
    refine DSub.iter_vals (s := { s1 with heap := s1.heap.push { cls := .type "dict_values", data := .fields #[.ref b] } }) hvw hob hod ?_
    have hb2 : b < (s1.heap.push { cls := .type "dict_values", data := .fields #[.ref b] }).objs.size := Heap.lt_size hob
    refine ⟨_, [_, b], [_], es.size, fun i v => ∃ t, v = .int ((z :: r).getD i 0) t, _, fun i j => decide ((z :: r).getD i 0 > (z :: r).getD j 0), rfl, DSub.walksVal (a := b) (show X.A.in1.handled = none from I1.ok.hd hc) (Nat.ne_of_lt hb2) hod hv, ⟨Heap.get?_push_size _ rfl, Heap.get?_push_of_some _ hob⟩, fun c hc2 => ?_, by rw [hz]; simp, CmpOf.ints_gt (fun i => (z :: r).getD i 0) (fun i v q => q), fun v h' tk hv' hk => ?_⟩
    · show c < (Heap.push _ _).objs.size
      rw [Heap.size_push]
      rcases List.mem_cons.mp hc2 with e | e
      · rw [e]
        exact Nat.lt_succ_self _
      · rw [List.mem_singleton.mp e]
        exact Nat.lt_succ_of_lt hb2
    · obtain ⟨t, rfl⟩ := hv'
      have hn : es.size - 1 < (z :: r).length := by rw [hz]; simp
      obtain ⟨m1, m2⟩ := argBest_gt (fun i => (z :: r).getD i 0) (es.size - 1)
      have em : (z :: r).getD (argBest (fun i j => decide ((z :: r).getD i 0 > (z :: r).getD j 0)) (es.size - 1)) 0 = maxL z r := by
        refine maxL_is (PySem.getD_mem (Nat.lt_of_le_of_lt m1 hn)) fun y hy => ?_
        obtain ⟨j, hj, e⟩ := List.mem_iff_getElem.mp hy
        have g := m2 j (by omega)
        have e3 : (z :: r).getD j 0 = y := by rw [List.getD_eq_getElem?_getD, List.getElem?_eq_getElem hj, ← e]; rfl
        rw [← e3]
        exact g
      have hk2 : ∀ c u, s1.heap.get? c = some u → h'.get? c = some u := fun c u e => hk c u (fun q => by
        have h1 := Heap.lt_size e
        have h2 := List.mem_singleton.mp q
        rw [h2] at h1
        have h3 : (s1.heap.push { cls := .type "dict_values", data := .fields #[.ref b] }).objs.size = s1.heap.objs.size + 1 := Heap.size_push _ _
        have h4 : (s1.heap.push { cls := .type "dict_values", data := .fields #[.ref b] }).objs.size < s1.heap.objs.size := h1
        omega) (Heap.get?_push_of_some _ (Heap.get?_push_of_some _ e))
      rw [em]
      exact ⟨.int _, H1, I1.kept (t' := tk) hk2, ⟨t, rfl⟩, q⟩
  show wpAny _ _ (callWith cp (.builtin "dict.values") [.ref b] [] []) _ X.xe s1
  exact method_meetsIn F.slot_dict_values F.entry_dict_values rfl (PySem.evalArgs_none ⟨rfl, raw.typeIs, F.args_dict_values_1 _, _, meets_dict_values_raw b hs, ⟨es, ep, raw⟩, Calls.spliced_nil fin⟩)
end
end Wt
set_option maxRecDepth 100000
set_option maxHeartbeats 1000000
/-! dict(d), dict(pairs), max(d.values()), sorted(set(t)), {k: 0 for k in d}: looked at. -/
namespace Wt
open PySem L2
variable [Wd]
section
variable {K : PySem.W.Frag} {E H : Hp} {ad : List Addr} {xs ps : List DE} {kvs rs : List (D × D)}
theorem plain_N (p : Paired (ERel K E ad) xs kvs) (h : copyOk kvs = true) : (xs.map fun p => hash0 p.1).Nodup ∧ (∀ p ∈ xs, noText p.1 = true) ∧ xs ≠ [] := by
  unfold copyOk plainK at h
  simp only [Bool.and_eq_true, Bool.not_eq_true', decide_eq_true_eq] at h
  obtain ⟨⟨h0, h1⟩, h2⟩ := h
  have e : (xs.map fun p => hash0 p.1) = kvs.map fun p => hashD p.1 := paired_map (fun p q r => by unfold hashD; rw [r.2.1]) p
  refine ⟨by rw [e]; exact h2, ?_, fun z => by subst z; cases p; cases h0⟩
  clear e h2 h0
  induction p with
  | nil => exact fun _ z => nomatch z
  | @cons p q ps qs hq t ih =>
    intro y hy
    simp only [List.all_cons, Bool.and_eq_true] at h1
    rcases List.mem_cons.mp hy with rfl | hy
    · have := h1.1.2
      rw [hq.2.1] at this
      exact this
    · exact ih h1.2 y hy
theorem dputs_E : ∀ {ps : List DE} {rs : List (D × D)} {xs : List DE} {kvs : List (D × D)}, Paired (ERel K E ad) ps rs → Paired (ERel K E ad) xs kvs → Paired (ERel K E ad) (dPuts xs ps) (putsD kvs rs)
  | _, _, _, _, .nil, h => h
  | _, _, _, _, .cons q t, h => by
    have h2 := dputs_E t (dPut_rel h q.2.1 q.1 q.2.2)
    exact h2
theorem dputs_ne : ∀ {ps xs : List DE}, ps ≠ [] ∨ xs ≠ [] → dPuts xs ps ≠ []
  | [], _, h => h.resolve_left (fun z => z rfl)
  | p :: ps, xs, _ => dputs_ne (ps := ps) (.inr dPut_ne)
/-- a list of pairs, as entries -/
theorem prs_of (he : Ex E H) : ∀ {ds : List D} {vs : List V} {kvs : List (D × D)}, RpAll K E ad vs ds → pairsD ds = some kvs → (kvs.all fun p => kindT p.1 && (match nkD 8 p.1 with
    | some q => noText q
    | none => false)) = true → ∃ ps, Paired (PrAt K H) vs ps ∧ Paired (ERel K E ad) ps kvs
  | [], _, _, .nil, h, _ => by
    cases h
    exact ⟨[], .nil, .nil⟩
  | d :: ds, _, _, .cons r t, h, g => by
    unfold pairsD at h
    split at h
    · rename_i e
      cases e
    · rename_i k v r0 e
      cases e
      obtain ⟨m, h1, h2⟩ := Option.map_eq_some_iff.mp h
      subst h2
      simp only [List.all_cons, Bool.and_eq_true] at g
      obtain ⟨ps, p1, p2⟩ := prs_of he t h1 g.2
      cases r with | tup hs ra =>
      cases ra with | cons rk ra =>
      cases ra with | cons rv ra =>
      cases ra
      obtain ⟨g1, g2⟩ := g.1
      cases hk : nkD 8 k with
      | none =>
        rw [hk] at g2
        cases g2
      | some q =>
        cases rk with
        | tup hs2 ra2 => exact ⟨(q, _, _) :: ps, .cons ⟨_, rfl, ex_t he hs⟩ p1, .cons ⟨.tup hs2 ra2, hk, rv⟩ p2⟩
        | _ => cases g1
    · cases h
end
section
variable {X : Cx} {R : Rt} {C : Cc} {G : Gc}
variable {a b c : Expr} {i j l : E} {pos p : Pos}
def rCopy (K : PySem.W.Frag) : List V → Hp → VK → Prop := fun vs H Q => ∃ (a : Addr) (xs : List DE), vs = [.ref a] ∧ Rd H a (DicO a xs) ∧ DKeys K H xs ∧ (xs.map fun p => hash0 p.1).Nodup ∧ (∀ p ∈ xs, noText p.1 = true) ∧ ∀ p, H p = none → Q (.ref p) (upd H p (DicO p xs))
theorem cr_copy (hw : X.w = Wd.w) (hu : X.A.units + 10 < cLine) : CallR X (.type "dict") (rCopy X.K) := by
  intro pins s σ H vs us Q I r q
  obtain ⟨a, xs, rfl, hd, hk, hn, ht, q⟩ := q
  cases r with | cons r rr =>
  cases rr
  cases r
  exact m_copy hw hu I (atN hw I hd hk) hn ht fun s' I' => ⟨.ref _, _, I', rfl, q _ (I.hok.fresh (Nat.le_refl _))⟩
def rPrs (K : PySem.W.Frag) : List V → Hp → VK → Prop := fun vs H Q => ∃ (a : Addr) (ys : List V) (ps : List DE), vs = [.ref a] ∧ SqL K H a ys ∧ Paired (PrAt K H) ys ps ∧ DKeys K H ps ∧ ∀ p, H p = none → Q (.ref p) (upd H p (DicO p (dPuts [] ps)))
theorem cr_prs (hw : X.w = Wd.w) (hc : X.calm = true) (hu : X.A.units + 10 < cLine) : CallR X (.type "dict") (rPrs X.K) := by
  intro pins s σ H vs us Q I r q
  obtain ⟨a, ys, ps, rfl, hl, hp, hk, q⟩ := q
  cases r with | cons r rr =>
  cases rr
  cases r
  exact m_pairs hw (I.ok.hd hc) hu I hl hp hk fun s' I' => ⟨.ref _, _, I', rfl, q _ (I.hok.fresh (Nat.le_refl _))⟩
theorem boot_dict : bootBuiltins ("dict" : Str) = some (.type "dict") := by decide +kernel
theorem x_copy (hw : X.w = Wd.w) (hu : X.A.units + 10 < cLine) (hg : Gl X "dict") (hm : X.mg "dict" = none) (ha : PE X a (tE X.K R i)) (hs : noStar a = true) : PE X (.Call (.Name "dict" p) [a] [] pos) (tE X.K R (.dcopy i)) :=
  (pe_callTy (cr_copy hw hu) hg hm boot_dict (pa_cons ha pa_nil (star_cons hs)) (by decide) (by decide) (star_cons hs) (by rfl)).imp fun σ H Q q => by
  obtain ⟨hd, ad, S, ρ, sr, er, p⟩ := q
  simp only [ev] at p
  refine ⟨hd, ad, S, ρ, sr, er, p.bind fun d S1 x ad1 H1 g1 r1 p1 => ?_⟩
  cases hv : viewD S1 d with
  | none => simp only [hv] at p1; exact False.elim p1
  | some kvs =>
    simp only [hv] at p1
    split at p1
    · rename_i hc
      obtain ⟨a0, rfl, dv⟩ := dv_of g1.sr r1 hv
      rcases dv with ⟨xs, hx, h0, pr⟩ | ⟨xs, hx, pr⟩
      · obtain ⟨n1, n2, n3⟩ := plain_N pr hc
        refine ⟨a0, xs, rfl, hx, dkeys_of era_ex pr, n1, n2, fun p hp => ?_⟩
        obtain ⟨g, h⟩ := g1.sr.allocM (o := DicO p xs) (m := .dc kvs) hp (.inl ⟨xs, upd_same, n3, pr⟩)
        exact p1 _ _ _ g (.loc h)
      · exfalso
        unfold copyOk plainK at hc
        simp only [Bool.and_eq_true] at hc
        cases pr with
        | nil => cases hc.1.1
        | @cons p q ps qs hq t =>
          have := hc.1.2
          simp only [List.all_cons, Bool.and_eq_true, hq.1] at this
          cases p with
          | mk k v => cases k <;> cases this.1.1
    · exact False.elim p1
theorem x_pairs (hw : X.w = Wd.w) (hc : X.calm = true) (hu : X.A.units + 10 < cLine) (hg : Gl X "dict") (hm : X.mg "dict" = none) (ha : PE X a (tE X.K R i)) (hs : noStar a = true) : PE X (.Call (.Name "dict" p) [a] [] pos) (tE X.K R (.dpairs i)) :=
  (pe_callTy (cr_prs hw hc hu) hg hm boot_dict (pa_cons ha pa_nil (star_cons hs)) (by decide) (by decide) (star_cons hs) (by rfl)).imp fun σ H Q q => by
  obtain ⟨hd, ad, S, ρ, sr, er, p⟩ := q
  simp only [ev] at p
  refine ⟨hd, ad, S, ρ, sr, er, p.bind fun d S1 x ad1 H1 g1 r1 p1 => ?_⟩
  split at p1
  · rename_i ds
    split at p1
    · rename_i kvs hk
      split at p1
      · rename_i hz
        simp only [Bool.and_eq_true] at hz
        have hz1 := hz.1
        unfold plainK at hz1
        simp only [Bool.and_eq_true, Bool.not_eq_true'] at hz1
        cases r1 with | lst h1 ra =>
        obtain ⟨ps, p2, p3⟩ := prs_of era_ex ra hk hz1.2
        refine ⟨_, _, ps, rfl, SqL.of (era_of h1), p2, dkeys_of era_ex p3, fun p hp => ?_⟩
        have hne : ps ≠ [] := fun z => by
          subst z
          cases p3
          cases hz1.1
        obtain ⟨g, h⟩ := g1.sr.allocM (o := DicO p (dPuts [] ps)) (m := .dc (putsD [] kvs)) hp (.inl ⟨_, upd_same, dputs_ne (.inl hne), dputs_E p3 .nil⟩)
        exact p1 _ _ _ g (.loc h)
      · exact False.elim p1
    · exact False.elim p1
  · exact False.elim p1
def IntsR (K : PySem.W.Frag) (H : Hp) (b : Addr) (ns : List Int) : Prop := ∃ E0 ad kvs, Ex E0 H ∧ DV K E0 ad H b kvs ∧ intsD (kvs.map (·.2)) = some ns
theorem x_maxv {o : Expr} {ap cp : Pos} (hw : X.w = Wd.w) (hc : X.calm = true) (hg : Gl X "max") (hm : X.mg "max" = none) (ho : PE X o (tE X.K R i)) (hn : noCall o = true) (hl : (ap.endLine == cp.line) = true) :
    PE X (.Call (.Name "max" p) [.Call (.Attribute o "values" ap) [] [] cp] [] pos) (tE X.K R (.maxv i)) :=
  (pe_maxv (P := IntsR X.K) (fun I h => let ⟨_, _, _, e, dv, hi⟩ := h; dv_ints hw I e dv hi) hc hg hm ho (base_of hn) hl).imp fun σ H Q q => by
  obtain ⟨hd, ad, S, ρ, sr, er, p⟩ := q
  simp only [ev] at p
  refine ⟨hd, ad, S, ρ, sr, er, p.bind fun d S1 x ad1 H1 g1 r1 p1 => ?_⟩
  cases hv : viewD S1 d with
  | none => simp only [hv] at p1; exact False.elim p1
  | some kvs =>
    simp only [hv] at p1
    obtain ⟨a0, rfl, dv⟩ := dv_of g1.sr r1 hv
    unfold maxD at p1
    split at p1
    · rename_i z r hi
      exact ⟨a0, z, r, rfl, ⟨_, _, kvs, era_ex, dv, hi⟩, p1 _ ad1 H1 (Good.refl g1.sr) (.int _)⟩
    · exact False.elim p1
theorem x_sset {p2 pos2 : Pos} (hc : X.calm = true) (hg : Gl X "set") (hm : X.mg "set" = none) (hg2 : Gl X "sorted") (hm2 : X.mg "sorted" = none) (ha : PE X a (tE X.K R i)) (hs : noStar a = true) :
    PE X (.Call (.Name "sorted" p2) [.Call (.Name "set" p) [a] [] pos] [] pos2) (tE X.K R (.sset i)) :=
  (pe_sset hc hg hm hg2 hm2 (pa_cons ha pa_nil (star_cons hs)) (star_cons hs)).imp fun σ H Q q => by
  obtain ⟨hd, ad, S, ρ, sr, er, p⟩ := q
  simp only [ev] at p
  refine ⟨hd, ad, S, ρ, sr, er, p.bind fun d S1 x ad1 H1 g1 r1 p1 => ?_⟩
  split at p1
  · rename_i ds
    split at p1
    · rename_i ss hk
      split at p1
      · rename_i hz
        have hz := of_decide_eq_true hz
        cases r1 with | tup h1 ra =>
        rw [strs_of hk] at ra
        rw [ra.strs] at h1
        refine ⟨_, ss, rfl, ex_t era_ex h1, hz, fun q hq => ?_⟩
        obtain ⟨g, r⟩ := mk_lst g1.sr hq (RpAll.of_strs (sortS (ss.foldl addT [])))
        exact p1 _ _ _ g r
      · exact False.elim p1
    · exact False.elim p1
  · exact False.elim p1
/-! ### {k: 0 for k in d} -/
/-- a pair stored: in an empty dict, or in one whose keys are tuples -/
def PutN (K : PySem.W.Frag) : Addr → V → V → Hp → Hp → Prop := fun Dl y z H H' => ∃ b q xs, y = .ref b ∧ KIs K H (.ref b) q ∧ q.depth ≤ 8 ∧ ((xs = [] ∧ H Dl = some (.dK [])) ∨ (H Dl = some (DicO Dl xs) ∧ DKeys K H xs)) ∧ xs.length < sizeLine ∧ H' = upd H Dl (DicO Dl (dPut xs q b z))
theorem put_step (hw : X.w = Wd.w) (hu : X.A.units + 9 < cLine) : StepOk X (PutN X.K) := by
  intro Y pins σ H H' s E Dl y z u r Q hP hW hK hA I put ry rz h
  obtain ⟨b, q, xs, rfl, kb, kd, hx, hl, rfl⟩ := put
  cases ry
  have hw2 : Y.w = Wd.w := hW.trans hw
  have n : AtN Y s Dl xs := by
    rcases hx with ⟨rfl, e⟩ | ⟨e, dk⟩
    · exact atN0 I (.of e)
    · exact atN hw2 I (.of e) (by rw [hK]; exact dk)
  have mu : Mut (H Dl) := by
    rcases hx with ⟨rfl, e⟩ | ⟨e, dk⟩ <;> rw [e] <;> exact True.intro
  have kb2 : KIs Y.K H (.ref b) q := by rw [hK]; exact kb
  obtain ⟨z1, hs, ys, rel, dd⟩ := n
  have hz : ys.length ≤ sizeLine := by rw [← Paired.length rel]; exact z1
  have hl2 : (dPut xs q b z).length ≤ sizeLine := by have := dPut_len xs q b z; omega
  refine wpAny_dictSet_heap (knd := nestedKind Y.prog Y.w) (hsz := hz) (by show Y.A.units + 8 < cLine; rw [hA]; omega) ⟨kis_is I kb2 rfl, kd⟩ dd fun h' dd' sb => h _ ?_
  exact d_write I mu sb (let ⟨q, _, _, hq, _⟩ := dd'; ⟨q, hq⟩) (dic_ok hw2 hl2 hs (drel_put rel rz) dd')
theorem upd_it {H : Hp} {p : Addr} {o : HO} (h : H p = some o) : upd H p o = H := by
  funext b
  by_cases hb : b = p
  · subst hb
    rw [upd_same, h]
  · rw [upd_ne hb]
theorem putsD_take {ks : List D} {n : Nat} {d : D} (h : ks[n]? = some d) (f : D → D × D) : putsD [] ((ks.take (n + 1)).map f) = dPutD (putsD [] ((ks.take n).map f)) (f d).1 (f d).2 := by
  rw [List.take_add_one, h, Option.toList_some, List.map_append]
  unfold putsD
  rw [List.foldl_append]
  rfl
theorem dz_read {ii : Nat} {ia : E} (cc : Cok X R C) {σ : L2.St} {H : Hp} {Q : VK} (q : tE X.K R (.dzero ii ia) σ H Q) : tDcg (PutN X.K) (tI X.K R .dat [ia]) (tG X.K (.nm ii)) tYes (tE X.K R.nox (.var ii)) (tC (.int 0)) [ii] σ H Q := by
  obtain ⟨hd, ad, S, ρ, sr, er, p⟩ := q
  simp only [ev] at p
  refine ⟨hd, ad, S, ρ, sr, er, ?_⟩
  unfold itO
  rw [evs_one, Out.bind_assoc]
  cases ee : ev (callF R.T R.k) ia ρ S with
  | no => rw [ee] at p; exact p
  | ex x S1 => rw [ee] at p; exact p
  | ok d S1 =>
  rw [ee, Out.bind_ok] at p
  rw [Out.bind_ok, Out.bind_ok]
  split at p
  case h_2 => exact False.elim p
  rename_i ks vs
  split at p
  case isFalse => exact False.elim p
  rename_i hz
  simp only [Bool.and_eq_true, decide_eq_true_eq] at hz
  obtain ⟨⟨hii, hpl⟩, hro⟩ := hz
  unfold plainK at hpl
  simp only [Bool.and_eq_true, Bool.not_eq_true'] at hpl
  show Post X.K R.xv R.W hd (ItOk X.K) ad S H (Out.ok ks S1) _
  intro J ad1 H1 g1 r1
  obtain ⟨G0, Y, wk, hG, hY⟩ := r1
  intro Dl hD
  have nD : Dl ∉ hd := g1.sr.nothd hD
  obtain ⟨sr0, era0⟩ := g1.sr.hide (o := .dK []) hD
  let f : D → D × D := fun k => (k, .int 0)
  let Pv : Nat → Hp → Prop := fun n H' => ∃ (ad' : List Addr) (xs : List DE), SR X.K (Dl :: hd) ad' S1 H' ∧ Pre ad1 ad' ∧ Ex (era hd ad1 S1 H1) (era (Dl :: hd) ad' S1 H') ∧ (∀ x ∈ hd, H' x = H1 x) ∧ ((n = 0 ∧ xs = [] ∧ H' Dl = some (.dK [])) ∨ (0 < n ∧ xs ≠ [] ∧ H' Dl = some (DicO Dl xs))) ∧
    Paired (ERel X.K (era (Dl :: hd) ad' S1 H') ad') xs (putsD [] ((ks.take n).map f)) ∧ xs.length ≤ n
  refine ⟨fun n m H' => m = ks.length - n ∧ n ≤ ks.length ∧ Pv n H', ⟨_, rfl, Nat.zero_le _, ad1, [], sr0, Pre.refl _, by rw [era0]; exact Ex.refl _, fun x hx => upd_ne fun q => nD (q ▸ hx), .inl ⟨rfl, rfl, upd_same⟩, .nil, Nat.le_refl _⟩, ?_⟩
  rintro n m H' ⟨rfl, hn, ad', xs, sr', pre, ex, hh, hDl, pr, hlen⟩
  have hGo : G0 H' := hG H' (ex.trans era_ex)
  by_cases hlt : n < ks.length
  case neg =>
    have e : n = ks.length := by omega
    subst e
    refine .inl ⟨wk.stops H' hGo, ?_⟩
    rw [List.take_of_length_le (Nat.le_refl _)] at pr
    rcases hDl with ⟨h0, rfl, hDl⟩ | ⟨h0, hne, hDl⟩
    · exfalso
      have : ks = [] := List.length_eq_zero_iff.mp h0
      subst this
      simp at hpl
    · have eu := upd_it hDl
      obtain ⟨sr2, e2, h2⟩ := sr'.reveal (o := DicO Dl xs) (m := .dc (putsD [] (ks.map f))) nD (by rw [eu]; exact .inl ⟨xs, hDl, hne, pr⟩)
      rw [eu] at sr2 e2
      exact p _ _ H' ⟨(g1.pre.trans pre).trans (Pre.app _ _), (g1.ex.trans ex).trans (by rw [e2]; exact Ex.refl _), sr2, fun x hx => by rw [hh x hx, g1.hid x hx]⟩ (.loc h2)
  case pos =>
  refine .inr ⟨wk.goes n H' hlt hGo, Pv (n + 1), fun H2 p2 => ⟨ks.length - (n + 1), by omega, rfl, hlt, p2⟩, fun x H2 y => ?_⟩
  obtain ⟨d, hd1, k⟩ := hY n H' x H2 (wk.yields n H' x H2 hlt hGo y) (ex.trans era_ex)
  obtain ⟨g2, rx⟩ := k (Dl :: hd) ad' S1 sr' ex pre
  have exA : Ex (era hd ad S H) (era (Dl :: hd) ad' S1 H2) := (g1.ex.trans ex).trans g2.ex
  refine ⟨Dl :: hd, ad', S1, wipeE ρ [ii], d, (wipeE ρ [ii]).set ii (some d), g2.sr, (er.wipe _).mono exA (g1.pre.trans pre), rx, rfl, fun σ2 er2 same => ?_⟩
  have hlen2 : σ2.length = (wipe σ [ii]).length := by
    rw [er2.1, wipe_length, er.1, List.length_set, wipeE_length]
  refine ⟨by rw [wipe_eq hlen2 fun q hq => same q fun z => hq (by simpa [Tg.slots] using z), wipe_wipe], ?_⟩
  unfold tYes
  refine Eq.mpr (if_pos rfl) ?_
  refine ⟨Dl :: hd, ad', S1, _, g2.sr, er2, ?_⟩
  have eh : ((wipeE ρ [ii]).set ii (some d))[ii]? = some (some d) := List.getElem?_set_self (by rw [wipeE_length]; exact hii)
  simp only [ev, eh]
  intro y ad3 H3 g3 ry
  have hq : kindT d = true ∧ ∃ q, nkD 8 d = some q := by
    have h1 := List.all_eq_true.mp hpl.2 (d, D.int 0) (List.mem_map.mpr ⟨d, List.mem_of_getElem? hd1, rfl⟩)
    simp only [Bool.and_eq_true] at h1
    refine ⟨h1.1, ?_⟩
    cases e : nkD 8 d with
    | none =>
      have h2 := h1.2
      simp only [e] at h2
      cases h2
    | some q => exact ⟨q, rfl⟩
  obtain ⟨hkt, q, hnk⟩ := hq
  obtain ⟨kb, kdp⟩ := nk_is era_ex 8 ry hnk
  have hD3 : H3 Dl = H' Dl := by rw [g3.hid Dl List.mem_cons_self, g2.hid Dl List.mem_cons_self]
  have pr3 : Paired (ERel X.K (era (Dl :: hd) ad3 S1 H3) ad3) xs (putsD [] ((ks.take n).map f)) := Paired.mapP pr fun _ _ r => ⟨r.1.mono (g2.ex.trans g3.ex) g3.pre, r.2.1, r.2.2.mono (g2.ex.trans g3.ex) g3.pre⟩
  cases ry with
  | @tup b0 _ _ hs2 ra2 =>
    obtain ⟨sr5, era5⟩ := g3.sr.rehide (o := DicO Dl (dPut xs q b0 (.int 0)))
    refine ⟨_, ⟨b0, q, xs, rfl, kb, kdp, ?_, ?_, rfl⟩, ad3, dPut xs q b0 (.int 0), sr5, pre.trans g3.pre, by rw [era5]; exact (ex.trans g2.ex).trans g3.ex, fun x hx => ?_, .inr ⟨Nat.succ_pos _, dPut_ne, upd_same⟩, ?_, ?_⟩
    · rcases hDl with ⟨_, h1, h2⟩ | ⟨_, h1, h2⟩
      · exact .inl ⟨h1, by rw [hD3]; exact h2⟩
      · exact .inr ⟨by rw [hD3]; exact h2, dkeys_of era_ex pr3⟩
    · have := of_decide_eq_true hro
      exact Nat.lt_of_lt_of_le (by omega : xs.length < 1000001) (by decide)
    · rw [upd_ne (fun q => nD (by rw [← q]; exact hx)), g3.hid x (List.mem_cons_of_mem _ hx), g2.hid x (List.mem_cons_of_mem _ hx), hh x hx]
    · rw [era5, putsD_take hd1 f]
      exact dPut_rel pr3 hnk (.tup hs2 ra2) (.int 0)
    · have := dPut_len xs q b0 (.int 0)
      omega
  | _ => cases hkt
theorem x_dzero {tg iter kx : Expr} {scope : Scope} {own : List (Str × Nat)} {ii : Nat} {ia : E} {p5 : Pos} {kn : Nat} (cc : Cok X R C) (hu : X.A.units + 9 < cLine)
    (ok : BlkOk X.N X.env.scope scope own) (ho : own.map (·.2) = [ii]) (hi : PI X tg iter (tI X.K R .dat [ia]))
    (hg : ∀ (s : Shared) (H : Hp) (A : Addr) (cl : List (Str × Addr)) (fp : List Addr), PG (X.blk s H scope (compEnvC scope cl A X.env) fp) tg (tG X.K (.nm ii)))
    (hk : ∀ (s : Shared) (H : Hp) (A : Addr) (cl : List (Str × Addr)) (fp : List Addr), PE (X.blk s H scope (compEnvC scope cl A X.env) fp) kx (tE X.K R.nox (.var ii)))
    (hs : ∀ x, foldedSetIterable iter X.env x = pure x) :
    PE X (.DictComp kx (.Constant (.int 0) kn p5) [⟨tg, iter, [], 0⟩] scope pos) (tE X.K R (.dzero ii ia)) :=
  (pe_dcg (put_step cc.wd hu) cc.calm (by rw [cc.N]; exact cc.nd) hi ok hg (fun _ _ _ _ _ => pts_nil) hk (fun _ _ _ _ _ => pe_int) hs).imp fun σ H Q q => by
    rw [ho]
    exact dz_read cc q
end
end Wt
set_option maxRecDepth 100000
set_option maxHeartbeats 1000000
namespace Wt
open PySem L2
variable [Wd]
theorem fset_of {iter : Expr} {env : PySem.Env} (h : noSet iter = true) : ∀ x, foldedSetIterable iter env x = pure x := by
  cases iter <;> first
    | (intro x; rfl)
    | cases h
theorem _root_.Wt.PTW.imp {X : Cx} {x : Expr} {t t' : TT} (h : PTW X x t) (k : ∀ σ H Q, t' σ H Q → t σ H Q) : PTW X x t' := by
  cases x <;> first
    | exact True.intro
    | exact PW.imp h k
    | exact PT.imp h k
theorem both {X : Cx} {x : Expr} {t : TE} {t2 : TT} (h : PE X x t) (k : PE X x t → PTW X x t2) : PE X x t ∧ PTW X x t2 := ⟨h, k h⟩
theorem chkEs_len {G : Gc} : ∀ (n : Nat) (C : Cc) (es : List Expr) (is : List E), chkEs G n C es is = true → is.length = es.length ∧ ∀ e ∈ es, noStar e = true
  | 0, _, _, _, h => by simp [chkEs] at h
  | _ + 1, _, [], [], _ => ⟨rfl, fun _ h => nomatch h⟩
  | n + 1, C, e :: es, i :: is, h => by
    simp only [chkEs, Bool.and_eq_true] at h
    obtain ⟨h1, h2⟩ := chkEs_len n C es is h.2
    refine ⟨by simp [h1], fun x hx => ?_⟩
    rcases List.mem_cons.mp hx with rfl | hx
    · exact h.1.1
    · exact h2 x hx
  | _ + 1, _, [], _ :: _, h => by simp [chkEs] at h
  | _ + 1, _, _ :: _, [], h => by simp [chkEs] at h
section
variable {G : Gc}
theorem snd_E : ∀ n : Nat,
    (∀ (X : Cx) (R : Rt) (C : Cc) (x : Expr) (e : E), XOk X R G → Cok X R C → chkE G n C x e = true → PE X x (tE X.K R e) ∧ PTW X x (tT X.K R e)) ∧
    (∀ (X : Cx) (R : Rt) (C : Cc) (xs : List Expr) (es : List E), XOk X R G → Cok X R C → chkEs G n C xs es = true → PA X xs (tA X.K R es)) ∧
    (∀ (X : Cx) (R : Rt) (C : Cc) (x : Option Expr) (e : E), XOk X R G → Cok X R C → chkO G n C x e = true → PO X x (tO X.K R e)) ∧
    (∀ (X : Cx) (R : Rt) (C : Cc) (tg x : Expr) (it : Wt.It) (es : List E), XOk X R G → Cok X R C → chkI G n C tg x it es = true → PI X tg x (tI X.K R it es))
  | 0 => by
    refine ⟨?_, ?_, ?_, ?_⟩
    · intro X R C x e _ _ h; simp [chkE] at h
    · intro X R C x e _ _ h; simp [chkEs] at h
    · intro X R C x e _ _ h; simp [chkO] at h
    · intro X R C tg x it es _ _ h; simp [chkI] at h
  | n + 1 => by
    obtain ⟨ihE, ihA, ihO, ihI⟩ := snd_E n
    refine ⟨?_, ?_, ?_, ?_⟩
    · intro X R C x e g c h
      have hu : X.A.units + 65 < cLine := by
        have := c.room.units
        have := c.room.un
        omega
      have E1 : ∀ {y : Expr} {i : E}, chkE G n C y i = true → PE X y (tE X.K R i) := fun {y i} h => (ihE X R C y i g c h).1
      have T1 : ∀ {y : Expr} {i : E}, chkE G n C y i = true → noIf y = true → PT X y (tT X.K R i) := fun {y i} h hn => (ihE X R C y i g c h).2.pt hn
      unfold chkE at h
      split at h
      · -- fz
        rename_i i
        have hh := ihE X R C _ i g c h
        refine ⟨x_fz hh.1, hh.2.imp fun σ H Q q => ?_⟩
        obtain ⟨hd, ad, S, ρ, sr, er, p⟩ := q
        refine ⟨hd, ad, S, ρ, sr, er, ?_⟩
        simp only [ev, asB_bind] at p
        cases e : ev (callF R.T R.k) i ρ S with
        | ok d S1 =>
          rw [e, Out.bind_ok] at p
          exfalso
          split at p
          · split at p
            · rename_i m _
              cases m <;> exact p
            · exact p
          · exact p
        | ex x2 S1 => rw [e] at p; exact p
        | no => rw [e] at p; exact p
      · -- var
        simp only [Bool.and_eq_true, decide_eq_true_eq] at h
        refine both ?_ (fun q => val_pt q (fun _ => rfl))
        exact x_var c h.1.1 h.1.2 h.2
      · -- global constant
        simp only [Bool.and_eq_true] at h
        obtain ⟨⟨h1, h2⟩, h3⟩ := h
        split at h1
        · rename_i d' e
          have := D.same_eq _ _ h1
          subst this
          obtain ⟨u, v, e1, e2, e3⟩ := g.gls _ _ e
          refine both ?_ (fun q => val_pt q (fun _ => rfl))
          exact (pe_glob (X := X) (c.glb h2) e1 e2 (okN_1 h3)).imp fun σ H Q q => tC_of (R := R) e3 q
        · cases h1
      · have := of_decide_eq_true h
        subst this
        refine both ?_ (fun q => val_pt q (fun _ => rfl))
        exact (pe_int (X := X)).imp fun σ H Q q => tC_of (R := R) (fun _ _ => .int _) q
      · have := of_decide_eq_true h
        subst this
        refine both ?_ (fun q => val_pt q (fun _ => rfl))
        exact (pe_bl (X := X)).imp fun σ H Q q => tC_of (R := R) (fun _ _ => .bl _) q
      · have := of_decide_eq_true h
        subst this
        refine both ?_ (fun q => val_pt q (fun _ => rfl))
        exact (pe_str (X := X)).imp fun σ H Q q => tC_of (R := R) (fun _ _ => .str _) q
      · refine both ?_ (fun q => val_pt q (fun _ => rfl))
        exact (pe_non (X := X)).imp fun σ H Q q => tC_of (R := R) (fun _ _ => .non) q
      · -- tuple
        rw [Bool.and_eq_true] at h
        refine both ?_ (fun q => val_pt q (fun _ => rfl))
        exact x_tup (ihA X R C _ _ g c h.1) (chkEs_len _ _ _ _ h.1).1 h.2
      · rw [Bool.and_eq_true] at h
        refine both ?_ (fun q => val_pt q (fun _ => rfl))
        exact x_lst (ihA X R C _ _ g c h.1) (chkEs_len _ _ _ _ h.1).1 h.2
      · rw [Bool.and_eq_true] at h
        refine both ?_ (fun q => val_pt q (fun _ => rfl))
        exact x_new (ihA X R C _ _ g c h.1) (chkEs_len _ _ _ _ h.1).1 h.2
      · -- op
        simp only [Bool.and_eq_true, decide_eq_true_eq] at h
        obtain ⟨⟨rfl, h1⟩, h2⟩ := h
        refine both ?_ (fun q => val_pt q (fun _ => rfl))
        exact x_op (E1 h1) (E1 h2)
      · refine both ?_ (fun q => val_pt q (fun _ => rfl))
        exact x_neg (E1 h)
      · rw [Bool.and_eq_true] at h
        exact x_not (E1 h.1) (T1 h.1 h.2)
      · simp only [Bool.and_eq_true, decide_eq_true_eq, Bool.not_eq_true'] at h
        obtain ⟨⟨⟨rfl, h1⟩, h2⟩, h3⟩ := h
        exact x_cmp hu (E1 h1) (E1 h2) h3
      · simp only [Bool.and_eq_true, decide_eq_true_eq, Bool.not_eq_true'] at h
        obtain ⟨⟨⟨⟨⟨rfl, rfl⟩, h1⟩, h2⟩, h3⟩, h4⟩ := h
        exact x_chain hu (E1 h1) (E1 h2) (E1 h3) h4
      · rw [Bool.and_eq_true] at h
        exact x_one (E1 h.1) (T1 h.1 h.2)
      · simp only [Bool.and_eq_true] at h
        have hr := ihE X R C _ _ g c h.2
        exact x_and (E1 h.1.1) (T1 h.1.1 h.1.2) hr.1 hr.2
      · simp only [Bool.and_eq_true] at h
        have hr := ihE X R C _ _ g c h.2
        exact x_or (E1 h.1.1) (T1 h.1.1 h.1.2) hr.1 hr.2
      · simp only [Bool.and_eq_true] at h
        exact ⟨x_ite (T1 h.1.1.1 h.1.1.2) (E1 h.1.2) (E1 h.2), True.intro⟩
      · simp only [Bool.and_eq_true] at h
        refine both ?_ (fun q => val_pt q (fun _ => rfl))
        exact x_sl (E1 h.1.1) (ihO X R C _ _ g c h.1.2) (ihO X R C _ _ g c h.2)
      · -- rev
        refine both ?_ (fun q => val_pt q (fun _ => rfl))
        exact x_rev (E1 h)
      · simp only [Bool.and_eq_true] at h
        refine both ?_ (fun q => val_pt q (fun _ => rfl))
        exact x_ix c.wd (by have := c.room.un; omega) (E1 h.1.1) (E1 h.1.2) h.2
      · -- isinstance
        simp only [Bool.and_eq_true] at h
        obtain ⟨⟨⟨h1, h2⟩, h3⟩, h4⟩ := h
        obtain ⟨rfl, hg, hm⟩ := c.bln g h1
        split at h4
        · obtain ⟨rfl, hgt, hmt⟩ := c.bln g h4
          refine both ?_ (fun q => val_pt q (fun _ => rfl))
          exact x_isi1 hg hm hgt hmt (E1 h2) h3
        · simp only [Bool.and_eq_true, Bool.not_eq_true'] at h4
          refine both ?_ (fun q => val_pt q (fun _ => rfl))
          exact x_isiT g c hg hm h4.1.1 (by intro z; subst z; simp at h4) h4.2 (E1 h2) h3
        · cases h4
      · -- built-in
        simp only [Bool.and_eq_true] at h
        obtain ⟨rfl, hg, hm⟩ := c.bln g h.1
        refine both ?_ (fun q => val_pt q (fun _ => rfl))
        exact x_prim c.wd c.calm hg hm (ihA X R C _ _ g c h.2) (chkEs_len _ _ _ _ h.2).2
      · -- call
        simp only [Bool.and_eq_true, decide_eq_true_eq] at h
        refine both ?_ (fun q => val_pt q (fun _ => rfl))
        exact x_call g c h.1.1.1 (c.glb h.1.1.2) h.1.2 (ihA X R C _ _ g c h.2) (chkEs_len _ _ _ _ h.2).1 (chkEs_len _ _ _ _ h.2).2
      · -- append
        simp only [Bool.and_eq_true, decide_eq_true_eq] at h
        obtain ⟨⟨⟨⟨⟨rfl, h1⟩, h2⟩, h3⟩, h4⟩, h5⟩ := h
        refine both ?_ (fun q => val_pt q (fun _ => rfl))
        exact x_app (E1 h1) (E1 h2) h3 h4 h5
      · -- toll
        simp only [Bool.and_eq_true, decide_eq_true_eq] at h
        obtain ⟨⟨⟨⟨⟨rfl, rfl⟩, rfl⟩, h1⟩, h2⟩, h3⟩ := h
        refine both ?_ (fun q => val_pt q (fun _ => rfl))
        exact x_toll (by omega) (E1 h1) h2 h3
      · -- comprehension
        simp only [Bool.and_eq_true, decide_eq_true_eq] at h
        obtain ⟨⟨⟨⟨⟨⟨⟨h1, h2⟩, h3⟩, h4⟩, h5⟩, h6⟩, h7⟩, h8⟩ := h
        refine both ?_ (fun q => val_pt q (fun _ => rfl))
        have gb : ∀ (s : Shared) (H : Hp) (A : Addr) (cl : List (Str × Addr)) (fp : List Addr) (sc : Scope), XOk (X.blk s H sc (compEnvC sc cl A X.env) fp) R.nox G := fun _ _ _ _ _ _ => ⟨g.fns, g.gls, g.bls, g.exs⟩
        have fin : ∀ (elt tg iter : Expr) (ifs : List Expr) (scope : Scope) (ie ic : E) (gt : Tg) (it : Wt.It) (is : List E) (own : List Nat) (tt : TT) (pos : Pos), chkI G n C tg iter it is = true → noSet iter = true → blkC C.N C.sc scope (ownL C.N own) = true → (ownL C.N own).map (·.2) = own →
            chkT (C.blk scope) tg gt = true → (gt.slots.all fun i => own.contains i) = true → chkE G n (C.blk scope) elt ie = true →
            (∀ (s : Shared) (H : Hp) (A : Addr) (cl : List (Str × Addr)) (fp : List Addr), PTs (X.blk s H scope (compEnvC scope cl A X.env) fp) ifs tt) → (∀ σ H Q, tT X.K R.nox ic σ H Q → tt σ H Q) →
            PE X (.ListComp elt [⟨tg, iter, ifs, 0⟩] scope pos) (tE X.K R (.lc ie gt it is ic own)) := by
          intro elt tg iter ifs scope ie ic gt it is own tt pos h1 h2 h3 h4 h5 h6 h7 h8 h9
          have q := x_lc (pos := pos) (g := gt) (own := ownL C.N own) (ie := ie) (ic := ic) c (by rw [c.N, c.sc]; exact blkOk_by h3) (ihI X R C _ _ _ _ g c h1)
            (fun s H A cl fp => snd_T (c.blk s H scope A cl fp) _ _ h5) h8 h9 (fun s H A cl fp => (ihE _ _ _ _ _ (gb s H A cl fp scope) (c.blk s H scope A cl fp) h7).1)
            (fun q hq => by rw [h4]; simpa using List.all_eq_true.mp h6 q hq) (fset_of h2)
          rw [h4] at q
          exact q
        split at h8
        · refine fin _ _ _ _ _ _ _ _ _ _ _ tYes _ h1 h2 h3 h4 h5 h6 h7 (fun _ _ _ _ _ => pts_nil) fun σ H Q q => ?_
          obtain ⟨hd, ad, S, ρ, sr, er, p⟩ := q
          simp only [ev, asB_bl] at p
          exact p true ad H (Good.refl sr) rfl
        · simp only [Bool.and_eq_true] at h8
          exact fin _ _ _ _ _ _ _ _ _ _ _ _ _ h1 h2 h3 h4 h5 h6 h7 (fun s H A cl fp => pts_one ((ihE _ _ _ _ _ (gb s H A cl fp _) (c.blk s H _ A cl fp) h8.1).2.pt h8.2)) fun σ H Q q => q
        · cases h8
      · simp only [Bool.and_eq_true, decide_eq_true_eq, Bool.not_eq_true'] at h
        obtain ⟨⟨⟨rfl, h1⟩, h2⟩, h3⟩ := h
        exact x_din c.wd (by have := c.room.un; omega) (E1 h1) (E1 h2) h3
      · exact x_nemp hu (E1 h)
      · simp only [Bool.and_eq_true, decide_eq_true_eq] at h
        obtain ⟨⟨⟨rfl, h1⟩, h2⟩, h3⟩ := h
        refine both ?_ (fun q => val_pt q (fun _ => rfl))
        exact x_pop (E1 h1) h2 h3
      · refine both ?_ (fun q => val_pt q (fun _ => rfl))
        exact x_dic0
      · simp only [Bool.and_eq_true] at h
        obtain ⟨rfl, hg, hm⟩ := c.bln g h.1.1
        refine both ?_ (fun q => val_pt q (fun _ => rfl))
        exact x_copy c.wd (by omega) hg hm (E1 h.1.2) h.2
      · simp only [Bool.and_eq_true] at h
        obtain ⟨rfl, hg, hm⟩ := c.bln g h.1.1
        refine both ?_ (fun q => val_pt q (fun _ => rfl))
        exact x_pairs c.wd c.calm (by omega) hg hm (E1 h.1.2) h.2
      · simp only [Bool.and_eq_true, decide_eq_true_eq] at h
        obtain ⟨⟨⟨⟨h1, rfl⟩, h3⟩, h4⟩, h5⟩ := h
        obtain ⟨rfl, hg, hm⟩ := c.bln g h1
        refine both ?_ (fun q => val_pt q (fun _ => rfl))
        exact x_maxv c.wd c.calm hg hm (E1 h3) h4 h5
      · simp only [Bool.and_eq_true] at h
        obtain ⟨⟨⟨h1, h2⟩, h3⟩, h4⟩ := h
        obtain ⟨rfl, hg, hm⟩ := c.bln g h1
        obtain ⟨rfl, hg2, hm2⟩ := c.bln g h2
        refine both ?_ (fun q => val_pt q (fun _ => rfl))
        exact x_sset c.calm hg2 hm2 hg hm (E1 h3) h4
      · simp only [Bool.and_eq_true, decide_eq_true_eq] at h
        obtain ⟨⟨⟨⟨⟨⟨⟨h1, h2⟩, h3⟩, h4⟩, h5⟩, h6⟩, h7⟩, h8⟩ := h
        refine both ?_ (fun q => val_pt q (fun _ => rfl))
        exact x_dzero c (by omega) (by rw [c.N, c.sc]; exact blkOk_by h3) h4 (x_dat (E1 h1)) (fun s H A cl fp => snd_T (c.blk s H _ A cl fp) _ _ h5) (fun s H A cl fp => x_var (c.blk s H _ A cl fp) h6 h7 h8) (fset_of h2)
      · rw [Bool.and_eq_true] at h
        refine both ?_ (fun q => val_pt q (fun _ => rfl))
        exact x_dic1 c.wd (by have := c.room.un; omega) (E1 h.1) (E1 h.2)
      · simp only [Bool.and_eq_true, decide_eq_true_eq] at h
        obtain ⟨⟨⟨⟨⟨rfl, h1⟩, h2⟩, h3⟩, h4⟩, h5⟩ := h
        refine both ?_ (fun q => val_pt q (fun _ => rfl))
        exact x_get1 c.wd (by have := c.room.un; omega) (E1 h1) (E1 h2) h3 h4 h5
      · simp only [Bool.and_eq_true, decide_eq_true_eq] at h
        obtain ⟨⟨⟨⟨⟨⟨⟨rfl, h1⟩, h2⟩, h2'⟩, h3⟩, h3'⟩, h4⟩, h5⟩ := h
        refine both ?_ (fun q => val_pt q (fun _ => rfl))
        exact x_get2 c.wd (by have := c.room.un; omega) (E1 h1) (E1 h2) (E1 h2') h3 h3' h4 h5
      · cases h
    · intro X R C xs es g c h
      cases xs with
      | nil =>
        cases es with
        | nil => exact x_nil
        | cons _ _ => simp [chkEs] at h
      | cons x xs =>
        cases es with
        | nil => simp [chkEs] at h
        | cons e es =>
          simp only [chkEs, Bool.and_eq_true] at h
          exact x_cons (ihE X R C x e g c h.1.2).1 (ihA X R C xs es g c h.2) h.1.1
    · intro X R C x e g c h
      cases x with
      | none =>
        cases e with
        | k d =>
          cases d with
          | non => exact x_noPart
          | _ => simp [chkO] at h
        | _ => simp [chkO] at h
      | some x =>
        simp only [chkO, Bool.and_eq_true, Bool.not_eq_true'] at h
        exact x_part (ihE X R C x e g c h.1).1 h.2
    · intro X R C tg x it es g c h
      have E1 : ∀ {y : Expr} {i : E}, chkE G n C y i = true → PE X y (tE X.K R i) := fun {y i} h => (ihE X R C y i g c h).1
      unfold chkI at h
      split at h
      · cases h
      · rename_i e; cases e
        simp only [Bool.and_eq_true] at h
        obtain ⟨rfl, hg, hm⟩ := c.bln g h.1.1
        exact x_rng1 hg hm (E1 h.1.2) h.2
      · rename_i e; cases e
        simp only [Bool.and_eq_true] at h
        obtain ⟨rfl, hg, hm⟩ := c.bln g h.1.1.1.1
        exact x_rng2 hg hm (E1 h.1.1.1.2) h.1.2 (E1 h.1.1.2) h.2
      · rename_i e; cases e
        simp only [Bool.and_eq_true] at h
        obtain ⟨rfl, hg, hm⟩ := c.bln g h.1.1.1.1
        exact x_zip hg hm (E1 h.1.1.1.2) h.1.2 (E1 h.1.1.2) h.2
      · rename_i e; cases e
        simp only [Bool.and_eq_true, decide_eq_true_eq] at h
        obtain ⟨⟨⟨rfl, h1⟩, h2⟩, h3⟩ := h
        exact x_vals (E1 h1) h2 h3
      · rename_i e; cases e
        simp only [Bool.and_eq_true, decide_eq_true_eq] at h
        obtain ⟨⟨⟨rfl, h1⟩, h2⟩, h3⟩ := h
        exact x_items (E1 h1) h2 h3
      · rename_i e; cases e
        exact x_dat (E1 h)
      · cases h
end
end Wt
set_option maxRecDepth 100000
set_option maxHeartbeats 1000000
/-! Statements: the look, and that it is sound. -/
namespace Wt
open PySem L2

def swLine (ts : List Expr) : Nat := (ts.head?.map (·.pos.line)).getD 0
def swNames (C : Cc) (ts : List Expr) : List Str := ts.filterMap fun
  | .Name id pos => if C.sc.names.lookup id == some .local && pos.line == swLine ts then some id else none
  | _ => none
def isStar : Expr → Bool
  | .Starred .. => true
  | _ => false
/-- the stores of a tuple display to a tuple go one by one -/
def swNone (C : Cc) (ts vs : List Expr) : Bool :=
  (!(ts.length == 2 || ts.length == 3) || vs.length != ts.length) || vs.any isStar || ((swNames C ts).length != ts.length || (swNames C ts).eraseDups.length != (swNames C ts).length) || vs.all (foldedForSure 8)
theorem sw_none {C : Cc} {ts vs : List Expr} {env : PySem.Env} {k k2 : Nat} {p p2 : Pos} (hs : env.scope = C.sc) (hb : env.blockKind = .function) (h : swNone C ts vs = true) : swappedStores [.Tuple ts k p] (.Tuple vs k2 p2) env = pure none := by
  have e2 : vs.any (fun | .Starred .. => true | _ => false) = vs.any isStar := by
    congr 1
  have e3 : (ts.filterMap fun
    | .Name id pos => if env.kindOf id == some .local && pos.line == (ts.head?.map (·.pos.line)).getD 0 then some id else none
    | _ => none) = swNames C ts := by
    unfold swNames swLine
    congr 1
    funext x
    cases x <;> first
      | rfl
      | (simp only []; unfold PySem.Env.kindOf; rw [hs])
  unfold swappedStores
  unfold swNone at h
  simp only [hb]
  simp only [Bool.or_eq_true] at h
  split
  · rfl
  · split
    · rfl
    · split
      · rfl
      · split
        · rfl
        · rename_i a1 a2 a3 a4
          exfalso
          rcases h with ((h | h) | h) | h
          · exact a1 (by simpa using h)
          · exact a2 (e2.trans h)
          · refine a3 ?_
            rw [Bool.or_eq_true]
            rcases h with h | h
            · left
              refine Eq.trans ?_ h
              rw [← e3]
              rfl
            · right
              refine Eq.trans ?_ h
              rw [← e3]
              rfl
          · exact a4 h
theorem sw_some {C : Cc} {ts vs : List Expr} {env : PySem.Env} {k k2 : Nat} {p p2 : Pos} {ns : List Str} (hs : env.scope = C.sc) (hb : env.blockKind = .function) (hn : swNames C ts = ns) (h : swNone C ts vs = false) (h2 : vs.all (constantsAlone 8) = false) :
    swappedStores [.Tuple ts k p] (.Tuple vs k2 p2) env = pure (some ns) := by
  subst hn
  have e2 : vs.any (fun | .Starred .. => true | _ => false) = vs.any isStar := by
    congr 1
  have e3 : (ts.filterMap fun
    | .Name id pos => if env.kindOf id == some .local && pos.line == (ts.head?.map (·.pos.line)).getD 0 then some id else none
    | _ => none) = swNames C ts := by
    unfold swNames swLine
    congr 1
    funext x
    cases x <;> first
      | rfl
      | (simp only []; unfold PySem.Env.kindOf; rw [hs])
  unfold swappedStores
  unfold swNone at h
  simp only [hb]
  simp only [Bool.or_eq_false_iff] at h
  obtain ⟨⟨⟨h1, h3⟩, h4⟩, h5⟩ := h
  split
  · rename_i a
    simp [h1.1, h1.2] at a
  · split
    · rename_i a
      rw [e2.symm.trans rfl] at h3
      exact absurd (a.symm.trans h3) (by decide)
    · split
      · rename_i a
        exfalso
        rw [Bool.or_eq_true] at a
        rcases a with a | a
        · have := h4.1
          rw [← e3] at this
          exact absurd (a.symm.trans this) (by decide)
        · have := h4.2
          rw [← e3] at this
          exact absurd (a.symm.trans this) (by decide)
      · split
        · rename_i a
          rw [h5] at a
          cases a
        · split
          · rename_i a
            rw [h2] at a
            cases a
          · exact congrArg (fun z => pure (some z)) e3

/-! ### the look -/
/-- plain local names, two or three, at these slots -/
def parOk (C : Cc) (ns : List Str) : List Expr → List Nat → Bool
  | [.Name x _, .Name y _], [i, j] => decide (ns = [x, y]) && decide (C.N[i]? = some x) && decide (C.N[j]? = some y) && C.lcl x && C.lcl y && decide (i ≠ j)
  | [.Name x _, .Name y _, .Name z _], [i, j, l] => decide (ns = [x, y, z]) && decide (C.N[i]? = some x) && decide (C.N[j]? = some y) && decide (C.N[l]? = some z) && C.lcl x && C.lcl y && C.lcl z && decide (i ≠ j) && decide (i ≠ l) && decide (j ≠ l)
  | _, _ => false
def noTup : Expr → Bool
  | .Tuple .. => false
  | _ => true
section
variable (G : Gc)
/-- targets among several: names, o[i] -/
def chkM (n : Nat) (C : Cc) : List Expr → List Tt → Bool
  | [], [] => true
  | .Name x _ :: ts, .nm i :: us => decide (C.N[i]? = some x) && C.loc x && chkM n C ts us
  | .Subscript o j _ :: ts, .sub a i :: us => noSlice j && chkE G n C o a && chkE G n C j i && chkM n C ts us
  | _, _ => false
mutual
def chkS : Nat → Cc → Stmt → S → Bool
  | 0, _, _, _ => false
  | n + 1, C, x, s => match s, x with
    | .asg (.nm i) e, .Assign [.Name x px] (.ListComp elt gs scope lp) sp =>
      decide (C.N[i]? = some x) && C.lcl x && (px.line == lp.line) && !(scope.names.any fun (m, k) => m == x && (k == .local || k == .cell)) && (match e with
        | .lc .. => true
        | _ => false) && (match gs with
        | [⟨_, _, _, 0⟩] => true
        | _ => false) && chkE G n C (.ListComp elt gs scope lp) e
    | .asg (.nm i) e, .Assign [.Name x _] v _ => decide (C.N[i]? = some x) && C.loc x && noComp v && chkE G n C v e
    | .par is es, .Assign [.Tuple ts _ _] (.Tuple vs _ _) _ => !swNone C ts vs && !(vs.all (constantsAlone 8)) && chkEs G n C vs es && parOk C (swNames C ts) ts is
    | .asg (.tup gs) e, .Assign [.Tuple ts k p] (.Tuple vs k2 p2) _ => swNone C ts vs && chkT C (.Tuple ts k p) (.tup gs) && chkE G n C (.Tuple vs k2 p2) e
    | .asg (.tup gs) e, .Assign [.Tuple ts k p] v _ => noTup v && noComp v && chkT C (.Tuple ts k p) (.tup gs) && chkE G n C v e
    | .mul us e, .Assign [.Tuple ts k p] (.Tuple vs k2 p2) _ => swNone C ts vs && chkM G n C ts us && chkE G n C (.Tuple vs k2 p2) e
    | .set a i e, .Assign [.Subscript o j _] v _ => noSlice j && chkE G n C o a && chkE G n C j i && chkE G n C v e
    | .ite c a b, .If t ts us _ => chkE G n C t c && noIf t && chkL n C ts a && chkL n C us b
    | .for_ g it es b, .For tg iter body [] _ => chkI G n C tg iter it es && noSet iter && chkT C tg g && chkL n C body b
    | .whl c b, .While t body [] _ => chkE G n C t c && noIf t && chkL n C body b
    | .retz e, .Return (some v) _ => chkE G n C v e
    | .ret e, .Return (some v) _ => chkE G n C v e
    | .ret (.k .non), .Return none _ => true
    | .raise c, .Raise (some (.Call (.Name x _) [.Constant (.str _) _ _] [] _)) none _ => decide (G.exs.lookup x = some c) && C.glb x && okN x
    | .exp e, .Expr v _ => noComp v && chkE G n C v e
    | .brk, .Break _ => true
    | .cnt, .Continue _ => true
    | _, _ => false
def chkL : Nat → Cc → List Stmt → List S → Bool
  | 0, _, _, _ => false
  | n + 1, C, xs, .fzs _ :: ss => chkL n C xs ss
  | _ + 1, _, [], [] => true
  | n + 1, C, x :: xs, s :: ss => chkS n C x s && chkL n C xs ss
  | _, _, _, _ => false
end
end
end Wt
set_option maxRecDepth 100000
set_option maxHeartbeats 1000000
namespace Wt
open PySem L2
variable [Wd]
section
variable {G : Gc}
/-- the parts of a comprehension that the look has taken -/
theorem snd_lc {n : Nat} {X : Cx} {R : Rt} {C : Cc} {elt tg iter : Expr} {ifs : List Expr} {scope : Scope} {pos : Pos} {ie ic : E} {gt : Tg} {it : Wt.It} {is : List E} {own : List Nat} (g : XOk X R G) (c : Cok X R C)
    (h : chkE G n C (.ListComp elt [⟨tg, iter, ifs, 0⟩] scope pos) (.lc ie gt it is ic own) = true) :
    ∃ (ow : List (Str × Nat)) (tt : TT), ow.map (·.2) = own ∧ BlkOk X.N X.env.scope scope ow ∧ PI X tg iter (tI X.K R it is) ∧
      (∀ (s : Shared) (H : Hp) (A : Addr) (cl : List (Str × Addr)) (fp : List Addr), PG (X.blk s H scope (compEnvC scope cl A X.env) fp) tg (tG X.K gt)) ∧
      (∀ (s : Shared) (H : Hp) (A : Addr) (cl : List (Str × Addr)) (fp : List Addr), PTs (X.blk s H scope (compEnvC scope cl A X.env) fp) ifs tt) ∧
      (∀ σ H Q, tT X.K R.nox ic σ H Q → tt σ H Q) ∧
      (∀ (s : Shared) (H : Hp) (A : Addr) (cl : List (Str × Addr)) (fp : List Addr), PE (X.blk s H scope (compEnvC scope cl A X.env) fp) elt (tE X.K R.nox ie)) ∧
      (∀ q ∈ gt.slots, q ∈ ow.map (·.2)) ∧ ∀ x, foldedSetIterable iter X.env x = pure x := by
  cases n with
  | zero => simp [chkE] at h
  | succ n =>
    obtain ⟨ihE, ihA, ihO, ihI⟩ := snd_E (G := G) n
    simp only [chkE, Bool.and_eq_true, decide_eq_true_eq] at h
    obtain ⟨⟨⟨⟨⟨⟨⟨h1, h2⟩, h3⟩, h4⟩, h5⟩, h6⟩, h7⟩, h8⟩ := h
    have gb : ∀ (s : Shared) (H : Hp) (A : Addr) (cl : List (Str × Addr)) (fp : List Addr) (sc : Scope), XOk (X.blk s H sc (compEnvC sc cl A X.env) fp) R.nox G := fun _ _ _ _ _ _ => ⟨g.fns, g.gls, g.bls, g.exs⟩
    have base : ∀ tt : TT, (∀ (s : Shared) (H : Hp) (A : Addr) (cl : List (Str × Addr)) (fp : List Addr), PTs (X.blk s H scope (compEnvC scope cl A X.env) fp) ifs tt) → (∀ σ H Q, tT X.K R.nox ic σ H Q → tt σ H Q) → _ := fun tt h8 h9 =>
      (⟨ownL C.N own, tt, h4, by rw [c.N, c.sc]; exact blkOk_by h3, ihI X R C _ _ _ _ g c h1, fun s H A cl fp => snd_T (c.blk s H scope A cl fp) _ _ h5, h8, h9,
        fun s H A cl fp => (ihE _ _ _ _ _ (gb s H A cl fp scope) (c.blk s H scope A cl fp) h7).1, fun q hq => by rw [h4]; simpa using List.all_eq_true.mp h6 q hq, fset_of h2⟩ : ∃ (ow : List (Str × Nat)) (tt : TT), ow.map (·.2) = own ∧ BlkOk X.N X.env.scope scope ow ∧ PI X tg iter (tI X.K R it is) ∧
      (∀ (s : Shared) (H : Hp) (A : Addr) (cl : List (Str × Addr)) (fp : List Addr), PG (X.blk s H scope (compEnvC scope cl A X.env) fp) tg (tG X.K gt)) ∧
      (∀ (s : Shared) (H : Hp) (A : Addr) (cl : List (Str × Addr)) (fp : List Addr), PTs (X.blk s H scope (compEnvC scope cl A X.env) fp) ifs tt) ∧
      (∀ σ H Q, tT X.K R.nox ic σ H Q → tt σ H Q) ∧
      (∀ (s : Shared) (H : Hp) (A : Addr) (cl : List (Str × Addr)) (fp : List Addr), PE (X.blk s H scope (compEnvC scope cl A X.env) fp) elt (tE X.K R.nox ie)) ∧
      (∀ q ∈ gt.slots, q ∈ ow.map (·.2)) ∧ ∀ x, foldedSetIterable iter X.env x = pure x)
    split at h8
    · refine base tYes (fun _ _ _ _ _ => pts_nil) fun σ H Q q => ?_
      obtain ⟨hd, ad, S, ρ, sr, er, p⟩ := q
      simp only [ev, asB_bl] at p
      exact p true ad H (Good.refl sr) rfl
    · simp only [Bool.and_eq_true] at h8
      exact base _ (fun s H A cl fp => pts_one ((ihE _ _ _ _ _ (gb s H A cl fp _) (c.blk s H _ A cl fp) h8.1).2.pt h8.2)) fun σ H Q q => q
    · cases h8
end
/-! ### outcomes of statements -/
def PostS (K : PySem.W.Frag) (xv : Nat → Value) (W : XK) (hd ad : List Addr) (S : Store) (H : Hp) (o : OutS) (Dd : Ends) : Prop := match o with
  | .nx ρ' S' => ∀ σ' ad' H', Good K hd ad S H ad' S' H' → ER K (era hd ad' S' H') ad' σ' ρ' → Dd.nx σ' H'
  | .rt d S' => ∀ v ad' H', Good K hd ad S H ad' S' H' → Rp K (era hd ad' S' H') ad' v d → Dd.rt v H'
  | .rz d S' => ∀ v ad' H', Good K hd ad S H ad' S' H' → Rp K (era hd ad' S' H') ad' v d → Dd.rt v H'
  | .bk ρ' S' => ∀ σ' ad' H', Good K hd ad S H ad' S' H' → ER K (era hd ad' S' H') ad' σ' ρ' → Dd.bk σ' H'
  | .ct ρ' S' => ∀ σ' ad' H', Good K hd ad S H ad' S' H' → ER K (era hd ad' S' H') ad' σ' ρ' → Dd.ct σ' H'
  | .ex x S' => ∀ ad' H', Good K hd ad S H ad' S' H' → PX K xv W hd ad' S' H' x
  | .no => False
section
variable {K : PySem.W.Frag} {xv : Nat → Value} {W : XK} {hd ad ad1 : List Addr} {S S1 : Store} {H H1 : Hp} {α β : Type} {rel : Hp → List Addr → β → α → Prop} {Dd : Ends}
theorem PostS.mono {o : OutS} (h : PostS K xv W hd ad S H o Dd) (g : Good K hd ad S H ad1 S1 H1) : PostS K xv W hd ad1 S1 H1 o Dd := by
  cases o with
  | nx ρ S' => exact fun σ' ad' H' g' r => h σ' ad' H' (g.trans g') r
  | rt d S' => exact fun v ad' H' g' r => h v ad' H' (g.trans g') r
  | rz d S' => exact fun v ad' H' g' r => h v ad' H' (g.trans g') r
  | bk ρ S' => exact fun σ' ad' H' g' r => h σ' ad' H' (g.trans g') r
  | ct ρ S' => exact fun σ' ad' H' g' r => h σ' ad' H' (g.trans g') r
  | ex x S' => exact fun ad' H' g' => h ad' H' (g.trans g')
  | no => exact h
theorem PostS.bind {o : Out α} {f : α → Store → OutS} {Q : β → Hp → Prop} (h : PostS K xv W hd ad S H (o.thenS f) Dd)
    (k : ∀ a S1 b ad1 H1, Good K hd ad S H ad1 S1 H1 → rel (era hd ad1 S1 H1) ad1 b a → PostS K xv W hd ad1 S1 H1 (f a S1) Dd → Q b H1) : Post K xv W hd rel ad S H o Q := by
  cases o with
  | ok a S' => exact fun b ad' H' g' r => k a S' b ad' H' g' r (PostS.mono (o := f a S') h g')
  | ex x S' => exact h
  | no => exact h
end
def tS (K : PySem.W.Frag) (R : Rt) (s : S) : TS := fun Dd σ H => ∃ hd ad S ρ, SR K hd ad S H ∧ ER K (era hd ad S H) ad σ ρ ∧ PostS K R.xv R.W hd ad S H (exS (callF R.T R.k) s ρ S) Dd
def tL (K : PySem.W.Frag) (R : Rt) (s : List S) : TS := fun Dd σ H => ∃ hd ad S ρ, SR K hd ad S H ∧ ER K (era hd ad S H) ad σ ρ ∧ PostS K R.xv R.W hd ad S H (exL (callF R.T R.k) s ρ S) Dd
theorem _root_.L2.PS.imp {X : Cx} {s : Stmt} {t t' : TS} (h : PS X s t) (k : ∀ D σ H, t' D σ H → t D σ H) : PS X s t' := ⟨fun pins s σ H D I q => h.run pins s σ H D I (k D σ H q)⟩
theorem _root_.L2.PSs.imp {X : Cx} {s : List Stmt} {t t' : TS} (h : PSs X s t) (k : ∀ D σ H, t' D σ H → t D σ H) : PSs X s t' := ⟨fun pins s σ H D I q => h.run pins s σ H D I (k D σ H q)⟩
theorem swap_no {e : Expr} {t : Option Expr} {l : Nat} {env : PySem.Env} (h : noComp e = true) : swapsWith e t l env = pure false := by
  cases e <;> first
    | rfl
    | cases h
section
variable {X : Cx} {R : Rt} {C : Cc} {G : Gc}
variable {a b c v : Expr} {i j l e : E} {pos : Pos}
theorem s_asg {tg : Expr} {g : Tg} (ha : PE X v (tE X.K R e)) (hg : PG X tg (tG X.K g)) (hs : swapsWithSole [tg] v pos.line X.env = pure false) (hw : swappedStores [tg] v X.env = pure none) (h1 : (assignEach [tg] X.env).map (·.2) = [assign tg X.env]) :
    PS X (.Assign [tg] v pos) (tS X.K R (.asg g e)) := (ps_asg ha hg hs hw h1).imp fun Dd σ H q => by
  obtain ⟨hd, ad, S, ρ, sr, er, p⟩ := q
  simp only [exS] at p
  refine ⟨hd, ad, S, ρ, sr, er, p.bind fun d S1 x ad1 H1 g1 r1 p1 => ?_⟩
  split at p1
  · rename_i ρ1 eb
    exact ⟨hd, ad1, S1, ρ, d, ρ1, g1.sr, er.go g1, r1, eb, fun σ' er' _ => p1 σ' ad1 H1 (Good.refl g1.sr) er'⟩
  · exact False.elim p1
theorem s_par2 {x y : Str} {m n : Nat} {px py pt : Pos} {kt k2 : Nat} {pt2 : Pos} {es : List E} (cc : Cok X R C) (hi : C.N[m]? = some x) (hj : C.N[n]? = some y) (hij : m ≠ n) (hx : X.env.scope.names.lookup x = some .local) (hy : X.env.scope.names.lookup y = some .local)
    (ha : PA X [a, b] (tA X.K R es)) (hw : swappedStores [.Tuple [.Name x px, .Name y py] kt pt] (.Tuple [a, b] k2 pt2) X.env = pure (some [x, y])) :
    PS X (.Assign [.Tuple [.Name x px, .Name y py] kt pt] (.Tuple [a, b] k2 pt2) pos) (tS X.K R (.par [m, n] es)) :=
  (ps_par (i := m) (j := n) cc.calm (by rw [cc.N]; exact cc.nd) (by rw [cc.N]; exact hi) (by rw [cc.N]; exact hj) hij hx hy ha hw).imp fun Dd σ H q => by
    obtain ⟨hd, ad, S, ρ, sr, er, p⟩ := q
    simp only [exS] at p
    refine ⟨hd, ad, S, ρ, sr, er, p.bind fun ds S1 xs ad1 H1 g1 r1 p1 => ?_⟩
    cases r1 with
    | nil => exact False.elim p1
    | cons r1 r2 =>
      cases r2 with
      | nil => exact False.elim p1
      | cons r2 r3 =>
        cases r3 with
        | cons _ _ => exact False.elim p1
        | nil => exact ⟨_, _, rfl, p1 _ ad1 H1 (Good.refl g1.sr) (((er.go g1).set m r1).set n r2)⟩
theorem s_par3 {x y z : Str} {m n k : Nat} {px py pz pt : Pos} {kt k2 : Nat} {pt2 : Pos} {es : List E} (cc : Cok X R C) (hi : C.N[m]? = some x) (hj : C.N[n]? = some y) (hk : C.N[k]? = some z) (hij : m ≠ n) (hik : m ≠ k) (hjk : n ≠ k)
    (hx : X.env.scope.names.lookup x = some .local) (hy : X.env.scope.names.lookup y = some .local) (hz : X.env.scope.names.lookup z = some .local)
    (ha : PA X [a, b, c] (tA X.K R es)) (hw : swappedStores [.Tuple [.Name x px, .Name y py, .Name z pz] kt pt] (.Tuple [a, b, c] k2 pt2) X.env = pure (some [x, y, z])) :
    PS X (.Assign [.Tuple [.Name x px, .Name y py, .Name z pz] kt pt] (.Tuple [a, b, c] k2 pt2) pos) (tS X.K R (.par [m, n, k] es)) :=
  (ps_par3 (i := m) (j := n) (l := k) cc.calm (by rw [cc.N]; exact cc.nd) (by rw [cc.N]; exact hi) (by rw [cc.N]; exact hj) (by rw [cc.N]; exact hk) hij hik hjk hx hy hz ha hw).imp fun Dd σ H q => by
    obtain ⟨hd, ad, S, ρ, sr, er, p⟩ := q
    simp only [exS] at p
    refine ⟨hd, ad, S, ρ, sr, er, p.bind fun ds S1 xs ad1 H1 g1 r1 p1 => ?_⟩
    cases r1 with
    | nil => exact False.elim p1
    | cons r1 r2 =>
      cases r2 with
      | nil => exact False.elim p1
      | cons r2 r3 =>
        cases r3 with
        | nil => exact False.elim p1
        | cons r3 r4 =>
          cases r4 with
          | cons _ _ => exact False.elim p1
          | nil => exact ⟨_, _, _, rfl, p1 _ ad1 H1 (Good.refl g1.sr) ((((er.go g1).set m r1).set n r2).set k r3)⟩
theorem sub_asg {o jx : Expr} {spos : Pos} (hs : noSlice jx = true) : ∀ v, assign (.Subscript o jx spos) X.env v = (do
      let ov ← holding [v] (eval o X.env)
      let iv ← holding [v, ov] (eval jx X.env)
      standAt spos
      holding [v, ov, iv] (setItem ov iv v)
      release [v, ov, iv] []) := by
  cases jx <;> first
    | exact fun _ => rfl
    | cases hs
def rSetD (K : PySem.W.Frag) : V → V → V → Hp → (Hp → Prop) → Prop := fun o i v H Q => rSetL o i v H Q ∨ ∃ hd ad S n kvs kd vd a, SR K hd ad S H ∧ ad[n]? = some a ∧ o = .ref a ∧ S[n]? = some (some (M.dc kvs)) ∧ Rp K (era hd ad S H) ad i kd ∧ Rp K (era hd ad S H) ad v vd ∧
  keyOk kvs kd = true ∧ roomy kvs.length = true ∧ ∀ H', Good K hd ad S H ad (S.set n (some (.dc (dPutD kvs kd vd)))) H' → Q H'
theorem set_D (hw : X.w = Wd.w) (hu : X.A.units + 9 < cLine) : PSet X (rSetD X.K) := by
  intro pins s σ H o i v ov iv u Q I ro ri rv h
  rcases h with h | ⟨hd, ad, S, n, kvs, kd, vd, a, sr, hn, rfl, hS, rk, rd, hk, hz, q⟩
  · exact set_list pins s σ H o i v ov iv u Q I ro ri rv h
  · cases ro
    unfold keyOk at hk
    simp only [Bool.and_eq_true] at hk
    obtain ⟨⟨h1, h2⟩, h3⟩ := hk
    obtain ⟨nq, hq⟩ := Option.isSome_iff_exists.mp h1
    have lt : kvs.length < sizeLine := sz_lt hz
    rcases sr.ms n a _ hn hS with ⟨xs, hx, h0, p⟩ | ⟨xs, hx, p⟩
    · cases p with
      | nil => exact absurd rfl h0
      | @cons p0 r0 ps rs hp t =>
        simp only [erel_T hp] at h3
        cases kd with
        | tup ks =>
          obtain ⟨kb, kdp⟩ := nk_is era_ex 8 rk hq
          cases rk with | tup ht hr =>
          cases ri
          have pp : Paired (ERel X.K (era hd ad S H) ad) (p0 :: ps) (r0 :: rs) := .cons hp t
          refine nd_setItem hw hu I (by rw [hx]; exact True.intro) (atN hw I (.of hx) (dkeys_of era_ex pp)) kb kdp (by rw [Paired.length pp]; exact lt) rv fun s' I' => ⟨_, I', q _ (sr.writeM hn hS (.inl ⟨_, upd_same, dPut_ne, dPut_rel pp hq (.tup ht hr) rd⟩))⟩
        | _ => cases h3
    · split at h2
      · obtain ⟨kb, kdp⟩ := nk_is era_ex 8 rk hq
        cases rk with | tup ht hr =>
        cases ri
        cases p with
        | nil => exact nd_setItem hw hu I (by rw [hx]; exact True.intro) (atN0 I (.of hx)) kb kdp lt rv fun s' I' => ⟨_, I', q _ (sr.writeM hn hS (.inl ⟨_, upd_same, dPut_ne, dPut_rel .nil hq (.tup ht hr) rd⟩))⟩
        | @cons p0 r0 ps rs hp t =>
          simp only [hp.1] at h3
          cases p0 with
          | mk k0 v0 => cases k0 <;> cases h3
      · cases rk
        exact d_setItem (by omega) I (.inl ⟨xs, .inl _, hx, rfl, by rw [Paired.length p]; exact lt, rfl⟩) ri rv fun s' I' => ⟨_, I', q _ (sr.writeM hn hS (.inr ⟨_, upd_same, kPut_rel (k := .inl _) p rd⟩))⟩
      · cases rk
        exact d_setItem (by omega) I (.inl ⟨xs, .inr _, hx, rfl, by rw [Paired.length p]; exact lt, rfl⟩) ri rv fun s' I' => ⟨_, I', q _ (sr.writeM hn hS (.inr ⟨_, upd_same, kPut_rel (k := .inr _) p rd⟩))⟩
      · cases h2
theorem setD_rel {hd ad : List Addr} {S T : Store} {H : Hp} {K : PySem.W.Frag} {y z x : V} {o k d : D} {Q : Hp → Prop} (sr : SR K hd ad S H) (ro : Rp K (era hd ad S H) ad y o) (rk : Rp K (era hd ad S H) ad z k) (rv : Rp K (era hd ad S H) ad x d)
    (e : setD o k d S = some T) (q : ∀ H', Good K hd ad S H ad T H' → Q H') : rSetD K y z x H Q := by
  unfold setD at e
  split at e
  · rename_i n
    cases ro with | @loc a0 n h2 =>
    split at e
    · rename_i xs hS
      split at e
      · rename_i zz
        obtain ⟨m, hm, e⟩ := Option.map_eq_some_iff.mp e
        subst e
        cases rk
        obtain ⟨ws, h4, h5⟩ := sr.ls _ _ _ h2 hS
        have g4 := sr.write h2 hS (h5.set rv m)
        exact .inl ⟨_, ws, _, m, rfl, rfl, h4, by rw [h5.length]; exact hm, q _ g4⟩
      · cases e
    · rename_i kvs hS
      split at e
      · rename_i hk
        cases e
        rw [Bool.and_eq_true] at hk
        exact .inr ⟨hd, ad, S, n, kvs, k, d, a0, sr, h2, rfl, hS, rk, rv, hk.1, hk.2, q⟩
      · cases e
    · cases e
  · cases e
theorem s_set {o jx : Expr} {spos : Pos} {io : E} (hw : X.w = Wd.w) (hu : X.A.units + 9 < cLine) (hv : PE X v (tE X.K R e)) (ho : PE X o (tE X.K R io)) (hj : PE X jx (tE X.K R j)) (hs : noSlice jx = true) : PS X (.Assign [.Subscript o jx spos] v pos) (tS X.K R (.set io j e)) :=
  (ps_asg hv (pg_sub ho hj (set_D hw hu) (sub_asg hs)) (by cases v <;> rfl) (by cases v <;> rfl) (by rfl)).imp fun Dd σ H q => by
    obtain ⟨hd, ad, S, ρ, sr, er, p⟩ := q
    simp only [exS] at p
    refine ⟨hd, ad, S, ρ, sr, er, p.bind fun d S1 x ad1 H1 g1 r1 p1 => ?_⟩
    refine ⟨hd, ad1, S1, ρ, g1.sr, er.go g1, p1.bind fun d2 S2 y ad2 H2 g2 r2 p2 => ?_⟩
    have g12 := g1.trans g2
    refine ⟨hd, ad2, S2, ρ, g2.sr, er.go g12, p2.bind fun d3 S3 z ad3 H3 g3 r3 p3 => ?_⟩
    have g13 := g12.trans g3
    have g23 := g2.trans g3
    cases hT : setD d2 d3 d S3 with
    | none => rw [hT] at p3; exact False.elim p3
    | some T =>
      rw [hT] at p3
      exact setD_rel g3.sr (r2.mono g3.ex g3.pre) r3 (r1.mono g23.ex g23.pre) hT fun H' g => p3 σ ad3 H' g ((er.go g13).go g)
/-! ### several targets -/
def tM1 (K : PySem.W.Frag) (R : Rt) (t : Tt) : TG := fun v σ H Q => ∃ hd ad S ρ d, SR K hd ad S H ∧ ER K (era hd ad S H) ad σ ρ ∧ Rp K (era hd ad S H) ad v d ∧ PostS K R.xv R.W hd ad S H (mul1 (callF R.T R.k) t d ρ S) { nx := Q, rt := fun _ _ => False }
def tMs (K : PySem.W.Frag) (R : Rt) (ts : List Tt) : TGs := fun vs σ H Q => ∃ hd ad S ρ ds, SR K hd ad S H ∧ ER K (era hd ad S H) ad σ ρ ∧ RpAll K (era hd ad S H) ad vs ds ∧ PostS K R.xv R.W hd ad S H (mulL (callF R.T R.k) ts ds ρ S) { nx := Q, rt := fun _ _ => False }
theorem m_nm {x : Str} {m : Nat} {px : Pos} (cc : Cok X R C) (h1 : C.N[m]? = some x) (h2 : C.loc x = true) : PG X (.Name x px) (tM1 X.K R (.nm m)) := by
  obtain ⟨l1, l2⟩ := cc.loc h2
  refine ⟨fun pins s σ H v u Q I r q => ?_⟩
  obtain ⟨hd, ad, S, ρ, d, sr, er, rv, p⟩ := q
  exact (pg_name (i := m) (by rw [cc.N]; exact cc.nd) (by rw [cc.N]; exact h1) l1 l2).run pins s σ H v u Q I r (p _ ad H (Good.refl sr) (er.set m rv))
theorem m_sub {o jx : Expr} {spos : Pos} {io : E} (hw : X.w = Wd.w) (hu : X.A.units + 9 < cLine) (ho : PE X o (tE X.K R io)) (hj : PE X jx (tE X.K R j)) (hs : noSlice jx = true) : PG X (.Subscript o jx spos) (tM1 X.K R (.sub io j)) := by
  refine ⟨fun pins s σ H v u Q I r q => (pg_sub ho hj (set_D hw hu) (sub_asg hs)).run pins s σ H v u Q I r ?_⟩
  obtain ⟨hd, ad, S, ρ, d, sr, er, rv, p⟩ := q
  simp only [mul1] at p
  refine ⟨hd, ad, S, ρ, sr, er, p.bind fun d2 S2 y ad2 H2 g2 r2 p2 => ?_⟩
  refine ⟨hd, ad2, S2, ρ, g2.sr, er.go g2, p2.bind fun d3 S3 z ad3 H3 g3 r3 p3 => ?_⟩
  have g23 := g2.trans g3
  cases hT : setD d2 d3 d S3 with
  | none => rw [hT] at p3; exact False.elim p3
  | some T =>
    rw [hT] at p3
    exact setD_rel g3.sr (r2.mono g3.ex g3.pre) r3 (rv.mono g23.ex g23.pre) hT fun H' g => p3 σ ad3 H' g ((er.go g23).go g)
/-- goes on, raises or is none -/
def plainO : OutS → Bool
  | .nx _ _ => true
  | .ex _ _ => true
  | .no => true
  | _ => false
theorem thenS_plain {α : Type} {o : Out α} {f : α → Store → OutS} (h : ∀ a S, plainO (f a S) = true) : plainO (o.thenS f) = true := by
  cases o with
  | ok a S => exact h a S
  | _ => rfl
theorem mul1_plain {F : Nat → List D → Store → Out D} (t : Tt) (d : D) (ρ : Slots) (S : Store) : plainO (mul1 F t d ρ S) = true := by
  cases t with
  | nm i => rfl
  | sub a i =>
    simp only [mul1]
    refine thenS_plain fun o S1 => thenS_plain fun j S2 => ?_
    cases setD o j d S2 <;> rfl
theorem mulL_plain {F : Nat → List D → Store → Out D} : ∀ (ts : List Tt) (ds : List D) (ρ : Slots) (S : Store), plainO (mulL F ts ds ρ S) = true
  | [], [], _, _ => rfl
  | [], _ :: _, _, _ => rfl
  | _ :: _, [], _, _ => rfl
  | t :: ts, d :: ds, ρ, S => by
    simp only [mulL]
    have h := mul1_plain (F := F) t d ρ S
    split
    · exact mulL_plain ts ds _ _
    · exact h
theorem PostS.plain {K : PySem.W.Frag} {xv : Nat → Value} {W : XK} {hd ad : List Addr} {S : Store} {H : Hp} {o : OutS} {Dd : Ends} (h : PostS K xv W hd ad S H o Dd) (hp : plainO o = true) : PostS K xv W hd ad S H o { nx := Dd.nx, rt := fun _ _ => False } := by
  cases o <;> first
    | exact h
    | cases hp
theorem snd_M {n : Nat} (hw : X.w = Wd.w) (hu : X.A.units + 9 < cLine) (cc : Cok X R C) (ih : ∀ {y : Expr} {i : E}, chkE G n C y i = true → PE X y (tE X.K R i)) : ∀ (ts : List Expr) (us : List Tt), chkM G n C ts us = true → PGs X ts (tMs X.K R us) ∧ us.length = ts.length ∧ ∀ e ∈ ts, noStar e = true
  | [], [], _ => ⟨⟨fun pins s σ H vs u Q I r q => by
    obtain ⟨hd, ad, S, ρ, ds, sr, er, rv, p⟩ := q
    cases rv with
    | nil => exact pgs_nil.run pins s σ H _ u Q I r ⟨rfl, p σ ad H (Good.refl sr) er⟩
    | cons _ _ => exact False.elim p⟩, rfl, fun _ z => nomatch z⟩
  | t :: ts, g :: us, h => by
    have key : PG X t (tM1 X.K R g) ∧ chkM G n C ts us = true ∧ noStar t = true := by
      unfold chkM at h
      split at h
      · rename_i e _; cases e
      · rename_i e1 e2
        cases e1; cases e2
        simp only [Bool.and_eq_true, decide_eq_true_eq] at h
        exact ⟨m_nm cc h.1.1 h.1.2, h.2, rfl⟩
      · rename_i e1 e2
        cases e1; cases e2
        simp only [Bool.and_eq_true] at h
        exact ⟨m_sub hw hu (ih h.1.1.2) (ih h.1.2) h.1.1.1, h.2, rfl⟩
      · cases h
    obtain ⟨k1, k2, k3⟩ := key
    obtain ⟨h2, l2, s2⟩ := snd_M hw hu cc ih ts us k2
    refine ⟨⟨fun pins s σ H vs u Q I r q => ?_⟩, by simp [l2], fun e he => ?_⟩
    · obtain ⟨hd, ad, S, ρ, ds, sr, er, rv, p⟩ := q
      cases rv with
      | nil => exact False.elim p
      | cons r1 rr =>
        refine (pgs_cons k1 h2 (each_cons k3)).run pins s σ H _ u Q I r ⟨_, _, rfl, hd, ad, S, ρ, _, sr, er, r1, ?_⟩
        simp only [mulL] at p
        cases e : mul1 (callF R.T R.k) g _ ρ S with
        | nx ρ1 S1 =>
          rw [e] at p
          exact fun σ' ad' H' g' er' => ⟨hd, ad', S1, ρ1, _, g'.sr, er', rr.mono g'.ex g'.pre, PostS.mono (o := mulL _ us _ ρ1 S1) p g'⟩
        | ex x S1 => rw [e] at p; exact p
        | rt _ _ => rw [e] at p; exact fun v ad' H' g r => p v ad' H' g r
        | rz _ _ => rw [e] at p; exact fun v ad' H' g r => p v ad' H' g r
        | bk _ _ => rw [e] at p; exact fun v ad' H' g r => p v ad' H' g r
        | ct _ _ => rw [e] at p; exact fun v ad' H' g r => p v ad' H' g r
        | no => rw [e] at p; exact p
    · rcases List.mem_cons.mp he with rfl | he
      · exact k3
      · exact s2 e he
  | [], _ :: _, h => by simp [chkM] at h
  | _ :: _, [], h => by unfold chkM at h; split at h <;> simp_all
theorem s_mul {ts : List Expr} {us : List Tt} {n k : Nat} {pt : Pos} (hw : X.w = Wd.w) (hu : X.A.units + 9 < cLine) (cc : Cok X R C) (ih : ∀ {y : Expr} {i : E}, chkE G n C y i = true → PE X y (tE X.K R i)) (hm : chkM G n C ts us = true)
    (ha : PE X v (tE X.K R e)) (hs : swapsWithSole [.Tuple ts k pt] v pos.line X.env = pure false) (hw2 : swappedStores [.Tuple ts k pt] v X.env = pure none) : PS X (.Assign [.Tuple ts k pt] v pos) (tS X.K R (.mul us e)) := by
  obtain ⟨h1, h2, h3⟩ := snd_M hw hu cc ih ts us hm
  refine (ps_asg ha (pg_tup (n := ts.length) cc.calm h1 (each_len ts) (each_star h3)) hs hw2 (by rfl)).imp fun Dd σ H q => ?_
  obtain ⟨hd, ad, S, ρ, sr, er, p⟩ := q
  simp only [exS] at p
  refine ⟨hd, ad, S, ρ, sr, er, p.bind fun d S1 x ad1 H1 g1 r1 p1 => ?_⟩
  split at p1
  · rename_i ds
    split at p1
    · rename_i hl
      cases r1 with | @tup a0 vs _ h4 a1 => exact ⟨a0, vs, rfl, ex_t era_ex h4, by rw [a1.length, ← h2]; exact hl.symm, hd, ad1, S1, ρ, ds, g1.sr, er.go g1, a1, p1.plain (mulL_plain us ds ρ S1)⟩
    · exact False.elim p1
  · exact False.elim p1
theorem s_ite {ts us : List Stmt} {sa sb : List S} (hc : PT X c (tT X.K R i)) (ha : PSs X ts (tL X.K R sa)) (hb : PSs X us (tL X.K R sb)) : PS X (.If c ts us pos) (tS X.K R (.ite i sa sb)) := (ps_if hc ha hb).imp fun Dd σ H q => by
  obtain ⟨hd, ad, S, ρ, sr, er, p⟩ := q
  simp only [exS] at p
  refine ⟨hd, ad, S, ρ, sr, er, PostS.bind (rel := relB) p fun t S1 x ad1 H1 g1 r1 p1 => ?_⟩
  have r1 : x = t := r1
  subst r1
  cases x with
  | true => exact ⟨hd, ad1, S1, ρ, g1.sr, er.go g1, p1⟩
  | false => exact ⟨hd, ad1, S1, ρ, g1.sr, er.go g1, p1⟩
theorem s_ret (ha : PE X v (tE X.K R e)) : PS X (.Return (some v) pos) (tS X.K R (.ret e)) := (ps_ret ha).imp fun Dd σ H q => by
  obtain ⟨hd, ad, S, ρ, sr, er, p⟩ := q
  simp only [exS] at p
  exact ⟨hd, ad, S, ρ, sr, er, p.bind fun d S1 x ad1 H1 g1 r1 p1 => p1 x ad1 H1 (Good.refl g1.sr) r1⟩
theorem s_retz (ha : PE X v (tE X.K R e)) : PS X (.Return (some v) pos) (tS X.K R (.retz e)) := (ps_ret ha).imp fun Dd σ H q => by
  obtain ⟨hd, ad, S, ρ, sr, er, p⟩ := q
  simp only [exS] at p
  exact ⟨hd, ad, S, ρ, sr, er, p.bind fun d S1 x ad1 H1 g1 r1 p1 => p1 x ad1 H1 (Good.refl g1.sr) r1⟩
theorem s_retN : PS X (.Return none pos) (tS X.K R (.ret (.k .non))) := ps_retN.imp fun Dd σ H q => by
  obtain ⟨hd, ad, S, ρ, sr, er, p⟩ := q
  simp only [exS, ev, Out.thenS_ok] at p
  exact p _ ad H (Good.refl sr) .non
theorem s_exp (ha : PE X v (tE X.K R e)) (hc : noComp v = true) : PS X (.Expr v pos) (tS X.K R (.exp e)) := (ps_expr ha (swap_no hc)).imp fun Dd σ H q => by
  obtain ⟨hd, ad, S, ρ, sr, er, p⟩ := q
  simp only [exS] at p
  exact ⟨hd, ad, S, ρ, sr, er, p.bind fun d S1 x ad1 H1 g1 r1 p1 => p1 σ ad1 H1 (Good.refl g1.sr) (er.go g1)⟩
theorem s_brk : PS X (.Break pos) (tS X.K R .brk) := ps_break.imp fun Dd σ H q => by
  obtain ⟨hd, ad, S, ρ, sr, er, p⟩ := q
  simp only [exS] at p
  exact p σ ad H (Good.refl sr) er
theorem s_cnt : PS X (.Continue pos) (tS X.K R .cnt) := ps_continue.imp fun Dd σ H q => by
  obtain ⟨hd, ad, S, ρ, sr, er, p⟩ := q
  simp only [exS] at p
  exact p σ ad H (Good.refl sr) er
theorem _root_.L2.PSs.pre {xs : List Stmt} {t : TS} (h : PSs X xs t) : PSs X xs (fun D σ H => Upd X H fun H2 => t D σ H2) := ⟨fun pins s σ H D I q => by
  obtain ⟨H2, I2, q2⟩ := q pins σ s I
  exact h.run pins s σ H2 D I2 q2⟩
theorem s_fzs {sts : List Stmt} {ss : List S} {k : Nat} (h : PSs X sts (tL X.K R ss)) : PSs X sts (tL X.K R (.fzs k :: ss)) := h.pre.imp fun Dd σ H q => by
  obtain ⟨hd, ad, S, ρ, sr, er, p⟩ := q
  simp only [exL, exS] at p
  cases hk : ρ[k]? with
  | none => simp only [hk] at p; exact False.elim p
  | some o =>
    cases o with
    | none => simp only [hk] at p; exact False.elim p
    | some d =>
      obtain ⟨v, h1, r⟩ := er.2 k d hk
      have other : (exL (callF R.T R.k) ss ρ S) = (exL (callF R.T R.k) ss ρ S) → PostS X.K R.xv R.W hd ad S H (exL (callF R.T R.k) ss ρ S) Dd → Upd X H fun H2 => tL X.K R ss Dd σ H2 := fun _ p => Upd.pure ⟨hd, ad, S, ρ, sr, er, p⟩
      cases d with
      | loc n =>
        simp only [hk] at p
        cases hS : S[n]? with
        | none => simp only [hS] at p; exact False.elim p
        | some om =>
          cases om with
          | none => simp only [hS] at p; exact False.elim p
          | some m =>
            simp only [hS] at p
            cases r with | @loc a0 n h2 =>
            intro pins σ' s I
            have hn : n < S.length := (List.getElem?_eq_some_iff.mp hS).1
            obtain ⟨H2, I2, kk⟩ := upd_one sr hn rfl Kill.refl pins σ' s I
            have g := kk.good sr
            have rr := (kk.fr sr h2 hS (by rw [List.getElem?_set_self hn])).rp
            have es : σ.set k (some (.ref a0)) = σ := by
              apply List.ext_getElem?
              intro j
              by_cases hj : k = j
              · subst hj
                rw [List.getElem?_set_self (List.getElem?_eq_some_iff.mp h1).1, h1]
              · rw [List.getElem?_set_ne hj]
            have er2 := (er.go g).set k rr
            rw [es] at er2
            exact ⟨H2, I2, hd, ad, _, _, g.sr, er2, PostS.mono p g⟩
      | _ =>
        simp only [hk] at p
        exact other rfl p
theorem s_nil : PSs X [] (tL X.K R []) := pss_nil.imp fun Dd σ H q => by
  obtain ⟨hd, ad, S, ρ, sr, er, p⟩ := q
  simp only [exL] at p
  exact p σ ad H (Good.refl sr) er
theorem s_cons {st : Stmt} {sts : List Stmt} {s : S} {ss : List S} (h1 : PS X st (tS X.K R s)) (h2 : PSs X sts (tL X.K R ss)) : PSs X (st :: sts) (tL X.K R (s :: ss)) := (pss_cons h1 h2).imp fun Dd σ H q => by
  obtain ⟨hd, ad, S, ρ, sr, er, p⟩ := q
  simp only [exL] at p
  refine ⟨hd, ad, S, ρ, sr, er, ?_⟩
  cases eo : exS (callF R.T R.k) s ρ S with
  | nx ρ1 S1 =>
    rw [eo] at p
    exact fun σ' ad' H' g r => ⟨hd, ad', S1, ρ1, g.sr, r, PostS.mono (o := exL (callF R.T R.k) ss ρ1 S1) p g⟩
  | rt d S1 => rw [eo] at p; exact p
  | rz d S1 => rw [eo] at p; exact p
  | bk ρ1 S1 => rw [eo] at p; exact p
  | ct ρ1 S1 => rw [eo] at p; exact p
  | ex x S1 => rw [eo] at p; exact p
  | no => rw [eo] at p; exact p
theorem s_for {tg iter : Expr} {body : List Stmt} {g : Tg} {it : Wt.It} {is : List E} {b : List S} (cc : Cok X R C) (hi : PI X tg iter (tI X.K R it is)) (hg : PG X tg (tG X.K g)) (hb : PSs X body (tL X.K R b)) (hs : noSet iter = true) :
    PS X (.For tg iter body [] pos) (tS X.K R (.for_ g it is b)) := (ps_for cc.own cc.calm hi hg hb (fset_of hs)).imp fun Dd σ H q => by
  obtain ⟨hd, ad, S, ρ, sr, er, p⟩ := q
  have e0 : exS (callF R.T R.k) (.for_ g it is b) ρ S = (itO (callF R.T R.k) it is ρ S).thenS fun items S1 => forL (exL (callF R.T R.k) b) g items ρ S1 := by
    simp only [exS]
    unfold itO
    cases evs (callF R.T R.k) is ρ S with
    | ok ds S1 =>
      simp only [Out.thenS_ok, Out.bind_ok]
      cases itD it ds <;> rfl
    | ex x S1 => rfl
    | no => rfl
  rw [e0] at p
  refine ⟨hd, ad, S, ρ, sr, er, p.bind fun items S1 J ad1 H1 g1 r1 p1 => ?_⟩
  obtain ⟨G0, Y, wk, hG, hY⟩ := r1
  refine for_it wk (fun n σ' H' => ∃ ad' S' ρ', SR X.K hd ad' S' H' ∧ Pre ad1 ad' ∧ Ex (era hd ad1 S1 H1) (era hd ad' S' H') ∧ ER X.K (era hd ad' S' H') ad' σ' ρ' ∧ PostS X.K R.xv R.W hd ad' S' H' (forL (exL (callF R.T R.k) b) g (items.drop n) ρ' S') Dd)
    ⟨ad1, S1, ρ, g1.sr, Pre.refl _, Ex.refl _, er.go g1, p1⟩ ?_ ?_ ?_
  · rintro n σ' H' _ ⟨ad', S', ρ', _, _, ex, _⟩
    exact hG H' (ex.trans era_ex)
  · rintro n x σ' H' H2 hn ⟨ad', S', ρ', sr', pr, ex, er', p'⟩ y
    obtain ⟨d, hd1, k⟩ := hY n H' x H2 y (ex.trans era_ex)
    obtain ⟨g2, rx⟩ := k hd ad' S' sr' ex pr
    have ed : items.drop n = d :: items.drop (n + 1) := by
      obtain ⟨h1, h2⟩ := List.getElem?_eq_some_iff.mp hd1
      rw [List.drop_eq_getElem_cons h1, h2]
    rw [ed] at p'
    unfold forL at p'
    split at p'
    · exact False.elim p'
    · rename_i ρ1 eb
      refine ⟨hd, ad', S', ρ', d, ρ1, g2.sr, er'.go g2, rx, eb, fun σ2 er2 _ => ⟨hd, ad', S', ρ1, g2.sr, er2, ?_⟩⟩
      have p2 := PostS.mono p' g2
      cases eo : exL (callF R.T R.k) b ρ1 S' with
      | nx ρ2 S2 =>
        rw [eo] at p2
        exact fun σ3 ad3 H3 g3 r3 => ⟨ad3, S2, ρ2, g3.sr, pr.trans g3.pre, (ex.trans g2.ex).trans g3.ex, r3, PostS.mono (o := forL (exL (callF R.T R.k) b) g (items.drop (n + 1)) ρ2 S2) p2 g3⟩
      | ct ρ2 S2 =>
        rw [eo] at p2
        exact fun σ3 ad3 H3 g3 r3 => ⟨ad3, S2, ρ2, g3.sr, pr.trans g3.pre, (ex.trans g2.ex).trans g3.ex, r3, PostS.mono (o := forL (exL (callF R.T R.k) b) g (items.drop (n + 1)) ρ2 S2) p2 g3⟩
      | bk ρ2 S2 => rw [eo] at p2; exact p2
      | rt d2 S2 => rw [eo] at p2; exact p2
      | rz d2 S2 => rw [eo] at p2; exact p2
      | ex x2 S2 => rw [eo] at p2; exact p2
      | no => rw [eo] at p2; exact p2
  · rintro σ' H' ⟨ad', S', ρ', sr', pr, ex, er', p'⟩
    rw [List.drop_length] at p'
    unfold forL at p'
    exact p' σ' ad' H' (Good.refl sr') er'
theorem s_whl {body : List Stmt} {b : List S} (cc : Cok X R C) (hc : PT X c (tT X.K R i)) (hb : PSs X body (tL X.K R b)) : PS X (.While c body [] pos) (tS X.K R (.whl i b)) := (ps_while cc.own hc hb).imp fun Dd σ H q => by
  obtain ⟨hd, ad, S, ρ, sr, er, p⟩ := q
  simp only [exS] at p
  refine ⟨fun m σ' H' => ∃ ad' S' ρ', SR X.K hd ad' S' H' ∧ ER X.K (era hd ad' S' H') ad' σ' ρ' ∧ PostS X.K R.xv R.W hd ad' S' H' (whlL (ev (callF R.T R.k) i) (exL (callF R.T R.k) b) m ρ' S') Dd, ⟨fuel, ad, S, ρ, sr, er, p⟩, ?_⟩
  rintro m σ' H' ⟨ad', S', ρ', sr', er', p'⟩
  cases m with
  | zero => exact False.elim p'
  | succ m =>
    unfold whlL at p'
    refine ⟨hd, ad', S', ρ', sr', er', PostS.bind (rel := relB) p' fun t S1 x ad1 H1 g1 r1 p1 => ?_⟩
    have r1 : x = t := r1
    subst r1
    cases x with
    | false =>
      rw [if_neg Bool.false_ne_true] at p1 ⊢
      exact p1 σ' ad1 H1 (Good.refl g1.sr) (er'.go g1)
    | true =>
      rw [if_pos rfl] at p1 ⊢
      refine ⟨fun σ2 H2 => ∃ ad2 S2 ρ2, SR X.K hd ad2 S2 H2 ∧ ER X.K (era hd ad2 S2 H2) ad2 σ2 ρ2 ∧ PostS X.K R.xv R.W hd ad2 S2 H2 (whlL (ev (callF R.T R.k) i) (exL (callF R.T R.k) b) m ρ2 S2) Dd, fun σ2 H2 q => ⟨m, Nat.lt_succ_self _, q⟩, hd, ad1, S1, ρ', g1.sr, er'.go g1, ?_⟩
      cases eo : exL (callF R.T R.k) b ρ' S1 with
      | nx ρ2 S2 =>
        rw [eo] at p1
        exact fun σ3 ad3 H3 g3 r3 => ⟨ad3, S2, ρ2, g3.sr, r3, PostS.mono (o := whlL (ev (callF R.T R.k) i) (exL (callF R.T R.k) b) m ρ2 S2) p1 g3⟩
      | ct ρ2 S2 =>
        rw [eo] at p1
        exact fun σ3 ad3 H3 g3 r3 => ⟨ad3, S2, ρ2, g3.sr, r3, PostS.mono (o := whlL (ev (callF R.T R.k) i) (exL (callF R.T R.k) b) m ρ2 S2) p1 g3⟩
      | bk ρ2 S2 => rw [eo] at p1; exact p1
      | rt d2 S2 => rw [eo] at p1; exact p1
      | rz d2 S2 => rw [eo] at p1; exact p1
      | ex x2 S2 => rw [eo] at p1; exact p1
      | no => rw [eo] at p1; exact p1
end
end Wt
set_option maxRecDepth 100000
set_option maxHeartbeats 1000000
namespace Wt
open PySem L2
variable [Wd]
theorem Cok.blkF {X : Cx} {R : Rt} {C : Cc} (c : Cok X R C) (hk : X.env.scope.kind = .function) : X.env.blockKind = .function := by
  unfold PySem.Env.blockKind
  rw [hk]
  rfl
theorem swap_sole {t v : Expr} {l : Nat} {env : PySem.Env} (h : noComp v = true) : swapsWithSole [t] v l env = pure false := by
  unfold swapsWithSole
  exact swap_no h
theorem sw_noTup {ts : List Expr} {v : Expr} {env : PySem.Env} {k : Nat} {p : Pos} (h : noTup v = true) : swappedStores [.Tuple ts k p] v env = pure none := by
  cases v <;> first
    | rfl
    | cases h
theorem swNone_len {C : Cc} {ts vs : List Expr} (h : swNone C ts vs = false) : vs.length = ts.length := by
  unfold swNone at h
  simp only [Bool.or_eq_false_iff] at h
  simpa using h.1.1.1.2
section
variable {X : Cx} {R : Rt} {C : Cc} {G : Gc} {pos : Pos}
theorem s_par2' {x y : Str} {m n : Nat} {px py pt : Pos} {kt k2 : Nat} {pt2 : Pos} {es : List E} {vs : List Expr} (cc : Cok X R C) (hi : C.N[m]? = some x) (hj : C.N[n]? = some y) (hij : m ≠ n) (hx : X.env.scope.names.lookup x = some .local) (hy : X.env.scope.names.lookup y = some .local)
    (hl : vs.length = 2) (ha : PA X vs (tA X.K R es)) (hw : swappedStores [.Tuple [.Name x px, .Name y py] kt pt] (.Tuple vs k2 pt2) X.env = pure (some [x, y])) :
    PS X (.Assign [.Tuple [.Name x px, .Name y py] kt pt] (.Tuple vs k2 pt2) pos) (tS X.K R (.par [m, n] es)) := by
  match vs, hl with
  | [a, b], _ => exact s_par2 cc hi hj hij hx hy ha hw
theorem s_par3' {x y z : Str} {m n k : Nat} {px py pz pt : Pos} {kt k2 : Nat} {pt2 : Pos} {es : List E} {vs : List Expr} (cc : Cok X R C) (hi : C.N[m]? = some x) (hj : C.N[n]? = some y) (hk : C.N[k]? = some z) (hij : m ≠ n) (hik : m ≠ k) (hjk : n ≠ k)
    (hx : X.env.scope.names.lookup x = some .local) (hy : X.env.scope.names.lookup y = some .local) (hz : X.env.scope.names.lookup z = some .local)
    (hl : vs.length = 3) (ha : PA X vs (tA X.K R es)) (hw : swappedStores [.Tuple [.Name x px, .Name y py, .Name z pz] kt pt] (.Tuple vs k2 pt2) X.env = pure (some [x, y, z])) :
    PS X (.Assign [.Tuple [.Name x px, .Name y py, .Name z pz] kt pt] (.Tuple vs k2 pt2) pos) (tS X.K R (.par [m, n, k] es)) := by
  match vs, hl with
  | [a, b, c], _ => exact s_par3 cc hi hj hk hij hik hjk hx hy hz ha hw
theorem s_raise {x m : Str} {c j : Nat} {p p2 p3 : Pos} (g : XOk X R G) (cc : Cok X R C) (hx : G.exs.lookup x = some c) (hg : Gl X x) (hk : okN x = true) : PS X (.Raise (some (.Call (.Name x p) [.Constant (.str m) j p2] [] p3)) none pos) (tS X.K R (.raise c)) := by
  obtain ⟨B, newId, initId, bmB, Ca, F, q, h1, h2, h3, h4, h5⟩ := g.exs x c hx
  refine (ps_raise cc.calm cc.tk (pmk_own F q h1 h2 (raises_own h3 h4) hg (okN_1 hk))).imp fun Dd σ H q => ?_
  obtain ⟨hd, ad, S, ρ, sr, er, p⟩ := q
  simp only [exS] at p
  have := p ad H (Good.refl sr)
  unfold PX at this
  simp only [h5] at this
  exact this
end
section
variable {G : Gc}
theorem snd_S : ∀ n : Nat,
    (∀ (X : Cx) (R : Rt) (C : Cc) (x : Stmt) (e : S), XOk X R G → Cok X R C → X.env.scope.kind = .function → chkS G n C x e = true → PS X x (tS X.K R e)) ∧
    (∀ (X : Cx) (R : Rt) (C : Cc) (xs : List Stmt) (es : List S), XOk X R G → Cok X R C → X.env.scope.kind = .function → chkL G n C xs es = true → PSs X xs (tL X.K R es))
  | 0 => by
    refine ⟨?_, ?_⟩
    · intro X R C x e _ _ _ h; simp [chkS] at h
    · intro X R C x e _ _ _ h; simp [chkL] at h
  | n + 1 => by
    obtain ⟨ihS, ihL⟩ := snd_S n
    refine ⟨?_, ?_⟩
    · intro X R C x e g c hk h
      have E1 : ∀ {y : Expr} {i : E}, chkE G n C y i = true → PE X y (tE X.K R i) := fun {y i} h => ((snd_E (G := G) n).1 X R C y i g c h).1
      have T1 : ∀ {y : Expr} {i : E}, chkE G n C y i = true → noIf y = true → PT X y (tT X.K R i) := fun {y i} h hn => ((snd_E (G := G) n).1 X R C y i g c h).2.pt hn
      have L1 : ∀ {xs : List Stmt} {es : List S}, chkL G n C xs es = true → PSs X xs (tL X.K R es) := fun {xs es} h => ihL X R C xs es g c hk h
      have lc : ∀ {y : Str}, C.lcl y = true → X.env.scope.names.lookup y = some .local := fun {y} h => by
        rw [c.sc]
        unfold Cc.lcl at h
        split at h
        · assumption
        · cases h
      unfold chkS at h
      split at h
      · -- name = [..]
        simp only [Bool.and_eq_true, decide_eq_true_eq, Bool.not_eq_true'] at h
        obtain ⟨⟨⟨⟨⟨⟨h1, h2⟩, h3⟩, h4⟩, h5⟩, h6⟩, h7⟩ := h
        split at h5
        · split at h6
          · obtain ⟨ow, tt, h8, ok, hi, hg, ht, htt, he, hsl, hs⟩ := snd_lc g c h7
            subst h8
            refine (ps_setLc c.calm (by rw [c.N]; exact c.nd) (by rw [c.N]; exact h1) (lc h2) (sw_true hk (lc h2) h3 h4) hi ok hg ht he hs).imp fun Dd σ H q => ?_
            obtain ⟨hd, ad, S, ρ, sr, er, p⟩ := q
            simp only [exS] at p
            refine lc_read c htt hsl ⟨hd, ad, S, ρ, sr, er, p.bind fun d S1 x ad1 H1 g1 r1 p1 => ?_⟩
            simp only [bindT] at p1
            exact p1 _ ad1 H1 (Good.refl g1.sr) ((er.go g1).set _ r1)
          · cases h6
        · cases h5
      · simp only [Bool.and_eq_true, decide_eq_true_eq] at h
        obtain ⟨⟨⟨h1, h2⟩, h3⟩, h4⟩ := h
        exact s_asg (E1 h4) (snd_T c _ _ (by simp only [chkT, Bool.and_eq_true, decide_eq_true_eq]; exact ⟨h1, h2⟩)) (swap_sole h3) (by rfl) (by rfl)
      · -- a, b = x, y
        simp only [Bool.and_eq_true, Bool.not_eq_true'] at h
        obtain ⟨⟨⟨h1, h2⟩, h3⟩, h4⟩ := h
        have hA := (snd_E (G := G) n).2.1 X R C _ _ g c h3
        have hl := swNone_len h1
        unfold parOk at h4
        split at h4
        · simp only [Bool.and_eq_true, decide_eq_true_eq] at h4
          obtain ⟨⟨⟨⟨⟨e1, h5⟩, h6⟩, h7⟩, h8⟩, h9⟩ := h4
          exact s_par2' c h5 h6 h9 (lc h7) (lc h8) hl hA (sw_some c.sc (c.blkF hk) e1 h1 h2)
        · simp only [Bool.and_eq_true, decide_eq_true_eq] at h4
          obtain ⟨⟨⟨⟨⟨⟨⟨⟨⟨e1, h5⟩, h6⟩, h6'⟩, h7⟩, h8⟩, h8'⟩, h9⟩, h9'⟩, h9''⟩ := h4
          exact s_par3' c h5 h6 h6' h9 h9' h9'' (lc h7) (lc h8) (lc h8') hl hA (sw_some c.sc (c.blkF hk) e1 h1 h2)
        · cases h4
      · -- (a, b) = (x, y), one by one
        simp only [Bool.and_eq_true] at h
        obtain ⟨⟨h1, h2⟩, h3⟩ := h
        exact s_asg (E1 h3) (snd_T c _ _ h2) (swap_sole rfl) (sw_none c.sc (c.blkF hk) h1) (by rfl)
      · simp only [Bool.and_eq_true] at h
        obtain ⟨⟨⟨h1, h2⟩, h3⟩, h4⟩ := h
        exact s_asg (E1 h4) (snd_T c _ _ h3) (swap_sole h2) (sw_noTup h1) (by rfl)
      · simp only [Bool.and_eq_true] at h
        obtain ⟨⟨h1, h2⟩, h3⟩ := h
        exact s_mul c.wd (by have := c.room.un; have := c.room.units; omega) c E1 h2 (E1 h3) (swap_sole rfl) (sw_none c.sc (c.blkF hk) h1)
      · simp only [Bool.and_eq_true] at h
        obtain ⟨⟨⟨h1, h3⟩, h4⟩, h5⟩ := h
        exact s_set c.wd (by have := c.room.un; have := c.room.units; omega) (E1 h5) (E1 h3) (E1 h4) h1
      · simp only [Bool.and_eq_true] at h
        obtain ⟨⟨⟨h1, h2⟩, h3⟩, h4⟩ := h
        exact s_ite (T1 h1 h2) (L1 h3) (L1 h4)
      · simp only [Bool.and_eq_true] at h
        obtain ⟨⟨⟨h1, h2⟩, h3⟩, h4⟩ := h
        exact s_for c ((snd_E (G := G) n).2.2.2 X R C _ _ _ _ g c h1) (snd_T c _ _ h3) (L1 h4) h2
      · simp only [Bool.and_eq_true] at h
        obtain ⟨⟨h1, h2⟩, h3⟩ := h
        exact s_whl c (T1 h1 h2) (L1 h3)
      · exact s_retz (E1 h)
      · exact s_ret (E1 h)
      · exact s_retN
      · -- raise
        simp only [Bool.and_eq_true, decide_eq_true_eq] at h
        exact s_raise g c h.1.1 (c.glb h.1.2) h.2
      · rw [Bool.and_eq_true] at h
        exact s_exp (E1 h.2) h.1
      · exact s_brk
      · exact s_cnt
      · cases h
    · intro X R C xs es g c hk h
      by_cases hz : ∃ i ss, es = .fzs i :: ss
      · obtain ⟨i, ss, rfl⟩ := hz
        have h' : chkL G n C xs ss = true := by cases xs <;> simpa only [chkL] using h
        exact s_fzs (ihL X R C xs ss g c hk h')
      have hz : ∀ i ss, es ≠ .fzs i :: ss := fun i ss z => hz ⟨i, ss, z⟩
      cases xs with
      | nil =>
        cases es with
        | nil => exact s_nil
        | cons e es =>
          cases e <;> first
            | (exact absurd rfl (hz _ _))
            | (simp [chkL] at h)
      | cons x xs =>
        cases es with
        | nil => simp [chkL] at h
        | cons e es =>
          have h : (chkS G n C x e && chkL G n C xs es) = true := by
            cases e <;> first
              | (exact absurd rfl (hz _ _))
              | (simpa only [chkL] using h)
          simp only [Bool.and_eq_true] at h
          exact s_cons (ihS X R C x e g c hk h.1) (ihL X R C xs es g c hk h.2)
end
end Wt
set_option maxRecDepth 100000
set_option maxHeartbeats 1000000
/-! Defs: a def that the look has taken keeps its promise; the end of a law. -/
namespace Wt
open PySem L2
variable [Wd]
def scOk (N ps : List Str) (sc : Scope) : Bool :=
  (match sc.kind with | .function => true | _ => false) && !sc.isCoroutine && !sc.isGenerator && decide N.Nodup && decide (N.take ps.length = ps) &&
    (ps.all fun x => match sc.names.lookup x with | some .local => true | some .cell => true | _ => false) && (sc.names.all fun y => match y.2 with | .free => false | _ => true)
theorem scOk_of {N ps : List Str} {sc : Scope} (h : scOk N ps sc = true) : FnScope N ps sc := by
  unfold scOk at h
  simp only [Bool.and_eq_true, Bool.not_eq_true', decide_eq_true_eq, List.all_eq_true] at h
  obtain ⟨⟨⟨⟨⟨⟨h1, h2⟩, h3⟩, h4⟩, h5⟩, h6⟩, h7⟩ := h
  refine ⟨?_, h2, h3, h4, h5, fun x hx => ?_, fun y hy e => ?_⟩
  · split at h1
    · assumption
    · cases h1
  · have q := h6 x hx
    split at q
    · rename_i e; exact .inl e
    · rename_i e; exact .inr e
    · cases q
  · have q := h7 y hy
    rw [e] at q
    cases q
def chkDef (G : Gc) (n : Nat) (N ps : List Str) (st : Stmt) (d : Df) : Bool :=
  scOk N ps (defScope st) && chkL G n ⟨N, defScope st, fun _ => true⟩ (defBody st) d.body && decide (ps.length = d.ps) && decide (N.length = d.ns)
theorem trim_good {K : PySem.W.Frag} {hd ad ad' : List Addr} {S S' T : Store} {H H' : Hp} (sr : SR K hd ad S H) (g : Good K hd ad S H ad' S' H') (h : trim S.length S' = some T) :
    ∃ ad2, Good K hd ad S H ad2 T H' ∧ Ex (era hd ad' S' H') (era hd ad2 T H') ∧ ∀ (d : D) (v : V), (S'.length ≤ S.length ∨ d.low S.length = true) → Rp K (era hd ad' S' H') ad' v d → Rp K (era hd ad2 T H') ad2 v d := by
  unfold trim at h
  split at h
  · cases h
    exact ⟨ad', g, Ex.refl _, fun d v _ r => r⟩
  · rename_i hn
    split at h
    · rename_i hb
      cases h
      obtain ⟨g2, e2, ea⟩ := g.cut (fun m hm => List.all_eq_true.mp hb m hm) sr
      refine ⟨ad, g2, e2, fun d v hl r => ?_⟩
      have hl := hl.resolve_left hn
      have q := Rp.cut (n := S.length) e2 d v hl r
      rw [← ea] at q
      exact q
    · cases h
section
variable {K : PySem.W.Frag} {P : Program} {w : World} {mg : Str → Option Value} {base : Heap} {T : Nat → Option Df} {k : Nat} {xv : Nat → Value} {G : Gc}
theorem er_start {Hb : Hp} {ad : List Addr} {N : List Str} {vs : List V} {ds : List D} {ps ns : Nat} (r : RpAll K Hb ad vs ds) (h1 : ds.length = ps) (h2 : N.length = ns) : ER K Hb ad (L2.start N vs) (ds.map some ++ List.replicate (ns - ps) none) := by
  unfold L2.start
  refine ⟨by simp [r.length, h1, h2], fun i d h => ?_⟩
  by_cases hi : i < ds.length
  · rw [List.getElem?_append_left (by simpa using hi), List.getElem?_map] at h
    cases q : ds[i]? with
    | none => rw [q] at h; cases h
    | some d' =>
      rw [q] at h
      cases h
      obtain ⟨v, h3, h4⟩ := r.get q
      refine ⟨v, ?_, h4⟩
      rw [List.getElem?_append_left (by simpa [r.length] using hi), List.getElem?_map, h3]
      rfl
  · rw [List.getElem?_append_right (by simpa using hi), List.getElem?_replicate] at h
    split at h <;> cases h
theorem fn_ok (hwd : w = Wd.w) {x qual : Str} {st : Stmt} {f : Addr} {fd : FuncData} {N ps : List Str} {m n : Nat} {d : Df} (F : Fun K x qual st f fd) (hT : T m = some d) (hc : chkDef G n N ps st d = true) (g : GOk K P w mg base T k xv G) :
    FnOk P w K mg base (L2.CX P w) (k + 1) f fd ps (spI K T xv (k + 1) m) := by
  unfold chkDef at hc
  simp only [Bool.and_eq_true, decide_eq_true_eq] at hc
  obtain ⟨⟨⟨h1, h2⟩, h3⟩, h4⟩ := hc
  have S0 := scOk_of h1
  refine F.okX S0 (fun vs H Q E h => ?_) (fun cdv A outer s H vs Q E hr h => ?_)
  · obtain ⟨hd, ad, S, ds, sr, ra, p⟩ := h
    unfold callF at p
    rw [hT] at p
    by_cases hl : ds.length = d.ps
    · rw [ra.length, hl, h3]
    · simp only [if_neg hl] at p
      exact False.elim p
  · obtain ⟨hd, ad, S, ds, sr, ra, p⟩ := h
    unfold callF at p
    rw [hT] at p
    by_cases hl : ds.length = d.ps
    case neg =>
      simp only [if_neg hl] at p
      exact False.elim p
    simp only [if_pos hl] at p
    have cc : Cok (cxOf (L2.CX P w) P w K mg base N qual (defScope st) f cdv A outer s H E) ⟨T, k, xv, E⟩ ⟨N, defScope st, fun _ => true⟩ :=
      ⟨rfl, rfl, S0.nd, rfl, rfl, hr, takes_of rfl rfl rfl rfl, passes_of rfl, hwd⟩
    refine ⟨_, pss_upd ((snd_S (G := G) n).2 _ ⟨T, k, xv, E⟩ _ _ _ g cc S0.kind h2), hd, ad, S, _, sr, er_start ra hl h4, ?_⟩
    show PostS K xv E hd ad S H (exL (callF T k) d.body (ds.map some ++ List.replicate (d.ns - d.ps) none) S) _
    cases eo : exL (callF T k) d.body (ds.map some ++ List.replicate (d.ns - d.ps) none) S with
    | no => rw [eo] at p; exact p
    | bk ρ' S' => rw [eo] at p; exact False.elim p
    | ct ρ' S' => rw [eo] at p; exact False.elim p
    | nx ρ' S' =>
      rw [eo] at p
      intro σ' ad' H' g' er'
      cases et : trim S.length S' with
      | none => simp only [leave, et, Option.map_none, lift_none, Out.bind_no] at p; exact False.elim p
      | some T' =>
        simp only [leave, et, Option.map_some, lift_some, Out.bind_ok] at p
        obtain ⟨ad2, g2, e2, k2⟩ := trim_good sr g' et
        exact p _ ad2 H' g2 .non
    | rz dd S' =>
      rw [eo] at p
      intro v ad' H' g' r' pins σ' s' I'
      obtain ⟨H2, I2, k2⟩ := upd_above g'.sr S.length pins σ' s' I'
      refine ⟨H2, I2, ?_⟩
      have gk := k2.good g'.sr
      have g2 := g'.trans gk
      have rk : Rp K (era hd ad' (killAb S.length S') H2) ad' v (resW (resN S' S.length 8) dd) := by
        refine Rp.res (resN_ok (fun i a m hi ha hm => k2.fr g'.sr ha hm ?_) 8) _ _ (r'.mono gk.ex (Pre.refl _))
        rw [killAb_at, if_neg (by omega), if_pos (List.getElem?_eq_some_iff.mp hm).1]
      simp only [leave] at p
      split at p
      · rename_i T' et
        split at et
        · rename_i hlow
          obtain ⟨ad2, g3, e3, k3⟩ := trim_good sr g2 et
          refine p v ad2 H2 g3 (k3 _ _ ?_ rk)
          rw [Bool.or_eq_true] at hlow
          exact hlow.imp of_decide_eq_true id
        · cases et
      · exact p v ad' H2 g2 rk
    | rt dd S' =>
      rw [eo] at p
      intro v ad' H' g' r'
      refine Upd.pure ?_
      simp only [leave] at p
      split at p
      · rename_i T' et
        split at et
        · rename_i hlow
          obtain ⟨ad2, g2, e2, k2⟩ := trim_good sr g' et
          refine p v ad2 H' g2 (k2 _ _ ?_ r')
          rw [Bool.or_eq_true] at hlow
          exact hlow.imp of_decide_eq_true id
        · cases et
      · exact p v ad' H' g' r'
    | ex xx S' =>
      rw [eo] at p
      intro ad' H' g'
      simp only [leave] at p
      split at p
      · rename_i T' et
        split at et
        · rename_i hlow
          obtain ⟨ad2, g2, e2, k2⟩ := trim_good sr g' et
          have q := p ad2 H' g2
          unfold PX at q ⊢
          cases e0 : xx.by_ with
          | none => simp only [e0] at q ⊢; exact q
          | some d0 =>
            simp only [e0] at q ⊢
            rw [Bool.or_eq_true] at hlow
            have hl2 : S'.length ≤ S.length ∨ d0.low S.length = true := hlow.imp of_decide_eq_true (fun z => by unfold Xn.low at z; rw [e0] at z; exact z)
            exact fun dx v h1 h2 => q dx v (e2 _ _ h1) (k2 d0 v hl2 h2)
        · cases et
      · exact False.elim p
/-- the module's text as it stands behind the top -/
structure TabOk (K : PySem.W.Frag) (mg : Str → Option Value) (T : Nat → Option Df) (xv : Nat → Value) (G : Gc) : Prop where
  fns : ∀ x m, G.fns.lookup x = some m → ∃ a fd qual st N ps n d, mg x = some (.ref a) ∧ Fun K x qual st a fd ∧ Binds K fd ps [] ∧ T m = some d ∧ chkDef G n N ps st d = true
  gls : ∀ x d, G.gls.lookup x = some d → ∃ u v, mg x = some u ∧ RelV v u ∧ ∀ H ad, Rp K H ad v d
  bls : ∀ x ∈ blNames, mg x = none
  exs : ∀ x c, G.exs.lookup x = some c → ∃ (B newId initId : String) (bmB : List Value) (C : Addr), PySem.ExcBaseFacts B newId initId bmB ∧ PySem.W.excIn K C bmB newId = true ∧ mg x = some (.ref C) ∧ PySem.W.keepIn K (.ref C) = true ∧
    PySem.W.subIn K (.ref C) (.type "BaseException") = some true ∧ PySem.W.typeIn K (.ref C) = some (.type "type") ∧ xv c = .ref C
theorem TabOk.gok (hwd : w = Wd.w) (t : TabOk K mg T xv G) : ∀ k : Nat, GOk K P w mg base T k xv G
  | 0 => ⟨fun x f h => by
      obtain ⟨a, fd, qual, st, N, ps, n, d, h1, h2, h3, h4, h5⟩ := t.fns x f h
      refine ⟨a, fd, ps, h1, h2.kp, h3, ⟨fun vs H Q E q => ?_, fun A outer s H args us vs Q E _ _ _ _ q => ?_⟩⟩
      · obtain ⟨_, _, _, _, _, _, p⟩ := q
        exact False.elim p
      · obtain ⟨_, _, _, _, _, _, p⟩ := q
        exact False.elim p, t.gls, t.bls, t.exs⟩
  | k + 1 => ⟨fun x f h => by
      obtain ⟨a, fd, qual, st, N, ps, n, d, h1, h2, h3, h4, h5⟩ := t.fns x f h
      exact ⟨a, fd, ps, h1, h2.kp, h3, fn_ok hwd h2 h4 h5 (t.gok hwd k)⟩, t.gls, t.bls, t.exs⟩
end
/-- law's promise: a list of at most 63 ints is handed in, True comes out -/
def spLaw (K : PySem.W.Frag) : Sp := fun vs H Q _ => ∃ (a : Addr) (ns : List Int), vs = [.ref a] ∧ SqL K H a (ns.map V.int) ∧ ns.length ≤ 63 ∧ ∀ H', Q (.bl true) H'
theorem sr_nil {K : PySem.W.Frag} {H : Hp} : SR K [] [] [] H := ⟨rfl, List.nodup_nil, (fun _ h => nomatch h), (fun _ h => nomatch h), (fun _ h => nomatch h), fun n a xs h => by simp at h⟩
theorem era_nil {H : Hp} : era [] [] [] H = H := by
  funext b
  rw [era_not (by simp) (fun ⟨n, m, h, _⟩ => by simp at h)]
/-- what the head tells of law -/
structure LawOk (K : PySem.W.Frag) (mg : Str → Option Value) (T : Nat → Option Df) (G : Gc) (x nm : Str) (m : Nat) : Prop where
  ex : ∃ fa fd qual st N n dd, mg nm = some (.ref fa) ∧ (∀ (s : Shared) (u : Value), BindsTo s fd ⟨[u], []⟩ [(x, u)]) ∧ Fun K nm qual st fa fd ∧ T m = some dd ∧ chkDef G n N [x] st dd = true
omit [Wd] in
/-- the end of a law: what the small syntax yields is True for every script -/
theorem law_end {l : PySem.W.OpenLaw} {q : Program} {loose : List Str} {XP : (Str → Option Value) → Heap → Prop} {YP : World → Heap → Prop} {d : DefRec} {K : Params → PySem.W.Frag} {T : Nat → Option Df} {G : Gc} {k m : Nat} {x : Str}
    (hn : l.most = some 63) (hdf : d.params.defaults = []) (hr : Room (k + 1) callerA)
    (hY : ∀ (w : World) (h : Heap), YP w h → (K w.params).In h)
    (F : ∀ (_ : Wd) (w : World) (mg : Str → Option Value) (h : Heap), (K w.params).In h → h.Ns mainGlobals mg → ∃ xv, TabOk (K w.params) mg T xv G ∧ LawOk (K w.params) mg T G x d.name m)
    (pure : ∀ ns : List Int, ns.length ≤ 63 → ∃ S, callF T (k + 1) m [.scr ns] [] = .ok (.bl true) S) :
    PySem.W.WalkO q loose XP YP l.row.toRowW d [] (fun f vs => PySem.call f vs) := by
  refine L2.walk_of (n := 63) (k := k + 1) (x := x) (CX := fun w => L2.CX l.prog w) (sp := fun w => spLaw (K w.params)) hn (by decide) hdf hr hY (fun w mg fa h KX G0 hmg => ?_) (fun _ _ a ns hl _ hS => ⟨a, ns, rfl, hS, hl, fun _ => rfl⟩) fun w H s e s' z => ?_
  · letI i0 : Wd := ⟨w⟩
    obtain ⟨xv, t, ⟨fa', fd, qual, st, N, n, dd, h1, h2, h3, h4, h5⟩⟩ := F i0 w mg h KX G0
    rw [hmg] at h1
    cases h1
    refine ⟨fd, h2, fun base _ _ => (fn_ok rfl h3 h4 h5 (t.gok rfl k)).imp fun vs H Q E q => ?_⟩
    obtain ⟨a, ns, rfl, hS, hl, kk⟩ := q
    obtain ⟨S, e⟩ := pure ns hl
    refine ⟨[], [], [], [.scr ns], sr_nil, .cons (.scr (by rw [era_nil]; exact hS)) .nil, ?_⟩
    rw [e]
    intro v ad' H' _ r
    cases r
    exact kk H'
  · obtain ⟨_, _, _, _, _, _, _, _, _, _, _, _, z⟩ := z
    exact z
end Wt
set_option maxRecDepth 100000
set_option maxHeartbeats 1000000
/-! From what the top has written to what law_end asks for. -/
namespace Wt
open PySem L2
variable [Wd]
/-- a def of the module, under its name -/
def FE (K : PySem.W.Frag) (mg : Str → Option Value) (x : Str) (st : Stmt) : Prop := ∃ (a : Addr) (fd : FuncData) (q : Str), mg x = some (.ref a) ∧ Fun K x q st a fd
section
variable {K : PySem.W.Frag} {mg : Str → Option Value} {h : Heap}
theorem fe_mk {x : Str} {st : Stmt} {f : Addr} {oc : Value} {od an : Option Addr} {osl : Array (Option Value)} {kV doc pm cdv ct : Value} (X : K.In h) (G : h.Ns mainGlobals mg) (a : PySem.W.nsIn K mainGlobals x = some (some (.ref f)))
    (l : K.lookup f = some ⟨oc, od, .func (PySem.W.fnOf x x (defArgs st) (defBody st) (defScope st) .none kV doc pm an cdv ct), osl⟩) (c : PySem.W.codeIn K cdv x = true) (k : PySem.W.keepIn K (.ref f) = true) : FE K mg x st :=
  ⟨f, _, x, PySem.W.mg_of X G a, fun_mk l c k⟩
def AllE {α : Type} (P : Str → α → Prop) : List (Str × α) → Prop
  | [] => True
  | p :: r => P p.1 p.2 ∧ AllE P r
theorem AllE.get {α : Type} {P : Str → α → Prop} {x : Str} {m : α} : ∀ {l : List (Str × α)}, AllE P l → l.lookup x = some m → P x m
  | [], _, e => by cases e
  | p :: r, ⟨h1, h2⟩, e => by
    obtain ⟨y, z⟩ := p
    rw [List.lookup_cons] at e
    by_cases q : x = y
    · subst q
      rw [beq_self_eq_true] at e
      cases e
      exact h1
    · rw [beq_eq_false_iff_ne.mpr q] at e
      exact AllE.get h2 e
def FnE (K : PySem.W.Frag) (mg : Str → Option Value) (T : Nat → Option Df) (G : Gc) (x : Str) (m : Nat) : Prop :=
  ∃ (a : Addr) (fd : FuncData) (qual : Str) (st : Stmt) (N ps : List Str) (n : Nat) (d : Df), mg x = some (.ref a) ∧ Fun K x qual st a fd ∧ Binds K fd ps [] ∧ T m = some d ∧ chkDef G n N ps st d = true
theorem fnE {T : Nat → Option Df} {G : Gc} {x : Str} {m n : Nat} {st : Stmt} {N ps : List Str} {d : Df} (f : FE K mg x st) (hc : chkDef G n N ps st d = true) (hT : T m = some d)
    (b : ∀ {a : Addr} {fd : FuncData} {q : Str}, Fun K x q st a fd → Binds K fd ps []) : FnE K mg T G x m := by
  obtain ⟨a, fd, q, h1, h2⟩ := f
  exact ⟨a, fd, q, st, N, ps, n, d, h1, h2, b h2, hT, hc⟩
def GlE (K : PySem.W.Frag) (mg : Str → Option Value) (x : Str) (d : D) : Prop := ∃ u v, mg x = some u ∧ RelV v u ∧ ∀ H ad, Rp K H ad v d
theorem gl_int {x : Str} {z : Int} {p} (X : K.In h) (G : h.Ns mainGlobals mg) (a : PySem.W.nsIn K mainGlobals x = some (some (.int z p))) : GlE K mg x (.int z) :=
  ⟨_, .int z, PySem.W.mg_of X G a, ⟨_, rfl⟩, fun _ _ => .int z⟩
theorem gl_str {x y : Str} {p} (X : K.In h) (G : h.Ns mainGlobals mg) (a : PySem.W.nsIn K mainGlobals x = some (some (.str y p))) : GlE K mg x (.str y) :=
  ⟨_, .str y, PySem.W.mg_of X G a, ⟨_, rfl⟩, fun _ _ => .str y⟩
def strVals : List Str → List Value → Bool
  | [], [] => true
  | x :: xs, .str y _ :: us => decide (x = y) && strVals xs us
  | _, _ => false
theorem strVals_ok : ∀ {xs : List Str} {us : List Value}, strVals xs us = true → Vals (xs.map V.str) us
  | [], [], _ => .nil
  | x :: xs, .str y t :: us, e => by
    simp only [strVals, Bool.and_eq_true, decide_eq_true_eq] at e
    obtain ⟨rfl, e⟩ := e
    exact .cons ⟨t, rfl⟩ (strVals_ok e)
  | [], u :: us, e => by simp [strVals] at e
  | x :: xs, [], e => by simp [strVals] at e
  | x :: xs, .none :: us, e => by simp [strVals] at e
  | x :: xs, u :: us, e => by
    cases u with
    | str y t =>
      simp only [strVals, Bool.and_eq_true, decide_eq_true_eq] at e
      obtain ⟨rfl, e⟩ := e
      exact .cons ⟨t, rfl⟩ (strVals_ok e)
    | _ => simp [strVals] at e
theorem rpall_strs {H : Hp} {ad : List Addr} : ∀ xs : List Str, RpAll K H ad (xs.map V.str) (xs.map D.str)
  | [] => .nil
  | x :: xs => .cons (.str x) (rpall_strs xs)
theorem gl_tup {x : Str} {xs : List Str} {a : Addr} {od : Option Addr} {its : Array Value} {n : Nat} {sl : Array (Option Value)} (X : K.In h) (G : h.Ns mainGlobals mg) (hn : PySem.W.nsIn K mainGlobals x = some (some (.ref a)))
    (l : K.lookup a = some ⟨.type "tuple", od, .seq its n, sl⟩) (hz : decide (its.size ≤ 1000) = true) (e : strVals xs its.toList = true) : GlE K mg x (.tup (xs.map D.str)) :=
  ⟨_, .ref a, PySem.W.mg_of X G hn, rfl, fun _ _ => .tup (.inr ⟨_, its, n, l, rfl, rfl, Nat.le_trans (of_decide_eq_true hz) (by decide), strVals_ok e⟩) (rpall_strs xs)⟩
def XE (K : PySem.W.Frag) (mg : Str → Option Value) (x : Str) : Prop := ∃ C : Addr, PySem.W.excIn K C [.type "ValueError", .type "Exception", .type "BaseException", .type "object"] "ValueError.__new__" = true ∧ mg x = some (.ref C) ∧ PySem.W.keepIn K (.ref C) = true ∧
    PySem.W.subIn K (.ref C) (.type "BaseException") = some true ∧ PySem.W.typeIn K (.ref C) = some (.type "type")
theorem xe_mk {x : Str} {C : Addr} (X : K.In h) (G : h.Ns mainGlobals mg) (a : PySem.W.nsIn K mainGlobals x = some (some (.ref C))) (q : PySem.W.excIn K C [.type "ValueError", .type "Exception", .type "BaseException", .type "object"] "ValueError.__new__" = true)
    (k : PySem.W.keepIn K (.ref C) = true) (b : PySem.W.subIn K (.ref C) (.type "BaseException") = some true) (t : PySem.W.typeIn K (.ref C) = some (.type "type")) : XE K mg x := ⟨C, q, PySem.W.mg_of X G a, k, b, t⟩
/-- the classes of errors, by their numbers -/
def xvOf (mg : Str → Option Value) (exs : List (Str × Nat)) (c : Nat) : Value := match exs.find? (fun p => p.2 == c) with
  | some p => (mg p.1).getD .none
  | none => .none
def exsOk (all : List (Str × Nat)) : List (Str × Nat) → Bool
  | [] => true
  | p :: r => (match all.find? (fun q => q.2 == p.2) with | some q => decide (q.1 = p.1) | none => false) && exsOk all r
theorem exs_mk {all : List (Str × Nat)} : ∀ {l : List (Str × Nat)}, AllE (fun x (_ : Nat) => XE K mg x) l → exsOk all l = true →
    AllE (fun x (c : Nat) => ∃ (B newId initId : String) (bmB : List Value) (C : Addr), PySem.ExcBaseFacts B newId initId bmB ∧ PySem.W.excIn K C bmB newId = true ∧ mg x = some (.ref C) ∧ PySem.W.keepIn K (.ref C) = true ∧
      PySem.W.subIn K (.ref C) (.type "BaseException") = some true ∧ PySem.W.typeIn K (.ref C) = some (.type "type") ∧ xvOf mg all c = .ref C) l
  | [], _, _ => trivial
  | p :: r, ⟨⟨C, h1, h2, h3, h4, h5⟩, hr⟩, e => by
    simp only [exsOk, Bool.and_eq_true] at e
    refine ⟨⟨_, _, _, _, C, PySem.F.excBase_ValueError, h1, h2, h3, h4, h5, ?_⟩, exs_mk hr e.2⟩
    have e1 := e.1
    unfold xvOf
    split at e1
    · rename_i q hq
      rw [of_decide_eq_true e1, h2]
      rfl
    · cases e1
abbrev FX (_ : K.In h) (mg : Str → Option Value) (x : Str) (st : Stmt) : Prop := FE K mg x st
abbrev GX (_ : K.In h) (mg : Str → Option Value) (x : Str) (d : D) : Prop := GlE K mg x d
abbrev XX (_ : K.In h) (mg : Str → Option Value) (x : Str) : Prop := XE K mg x
theorem tab_ok {T : Nat → Option Df} {G : Gc} (f : AllE (FnE K mg T G) G.fns) (g : AllE (GlE K mg) G.gls) (b : ∀ x ∈ blNames, mg x = none) (e : AllE (fun x (_ : Nat) => XE K mg x) G.exs) (he : exsOk G.exs G.exs = true) : TabOk K mg T (xvOf mg G.exs) G :=
  ⟨fun x m q => f.get q, fun x d q => g.get q, b, fun x c q => (exs_mk e he).get q⟩
theorem law_ok {T : Nat → Option Df} {G : Gc} {x : Str} {nm : Str} {m n : Nat} {st : Stmt} {N : List Str} {d : Df} (f : FE K mg nm st) (hc : chkDef G n N [x] st d = true) (hT : T m = some d)
    (b : ∀ {a : Addr} {fd : FuncData} {q : Str}, Fun K nm q st a fd → ∀ (s : Shared) (u : Value), BindsTo s fd ⟨[u], []⟩ [(x, u)]) : LawOk K mg T G x nm m := by
  obtain ⟨a, fd, q, h1, h2⟩ := f
  exact ⟨a, fd, q, st, N, n, d, h1, b h2, h2, hT, hc⟩
end
end Wt
set_option maxRecDepth 100000
set_option maxHeartbeats 4000000
namespace Wt
open PySem L2
abbrev s_all : Str := "all"
abbrev s_cheap : Str := "cheap"
abbrev s_cold : Str := "cold"
abbrev s_lost : Str := "lost"
abbrev s_dear : Str := "dear"
abbrev s_empty : Str := "empty"
abbrev s_empty2 : Str := ""
abbrev s_hand : Str := "hand"
abbrev n_is_within : Nat := 1
abbrev n_is_row : Nat := 2
abbrev n_is_program : Nat := 3
abbrev n_is_plan : Nat := 4
abbrev n_look_at_plan : Nat := 5
abbrev n_fits : Nat := 6
abbrev n_is_stand : Nat := 7
abbrev n_look_at_stand : Nat := 8
abbrev n_drawn : Nat := 9
abbrev n_passed : Nat := 10
abbrev n_choices_of : Nat := 11
abbrev n_is_like : Nat := 12
abbrev n_look_at_choice : Nat := 13
abbrev n_choices_at : Nat := 14
abbrev n_after : Nat := 15
abbrev n_told : Nat := 16
abbrev n__law_spring : Nat := 17
abbrev n__law_pick : Nat := 18
abbrev n__law_kind : Nat := 19
abbrev n__law_twins : Nat := 20
abbrev n__law_program : Nat := 21
abbrev n__law_plan : Nat := 22
abbrev n__law_tick : Nat := 23
abbrev n__law_choices : Nat := 24
abbrev n__law_any_stand : Nat := 25
abbrev n_law_k03 : Nat := 26
abbrev n_programs_of : Nat := 30
abbrev n_all_programs : Nat := 31
abbrev n_begin_of : Nat := 32
abbrev n_first_stand : Nat := 33
abbrev n__law_begin : Nat := 34
abbrev n__law_int : Nat := 35
abbrev n__law_made : Nat := 36
abbrev n__law_good_program : Nat := 37
abbrev n__law_good_plan : Nat := 38
abbrev n__law_good_stand : Nat := 39
abbrev n__law_bent : Nat := 40
abbrev n_law_k01 : Nat := 41
abbrev n_steps_of : Nat := 42
abbrev n_fits_run : Nat := 43
abbrev n_look_at_run : Nat := 44
abbrev n_price : Nat := 45
abbrev n_is_run : Nat := 46
abbrev n_stand_behind : Nat := 47
abbrev n_cost : Nat := 48
abbrev n__law_price : Nat := 49
abbrev n_law_k02 : Nat := 50
abbrev n_look_at_harm : Nat := 52
abbrev n_net_of : Nat := 53
abbrev n_firsts_by : Nat := 54
abbrev n_harms_by : Nat := 55
abbrev n_count_stands : Nat := 56
abbrev n_run_to : Nat := 57
abbrev n_harms : Nat := 58
abbrev n_first_harm : Nat := 59
abbrev n__law_small : Nat := 60
abbrev n__law_ways : Nat := 61
abbrev n__law_firsts : Nat := 62
abbrev n__law_harms : Nat := 63
abbrev n_law_k04 : Nat := 64
abbrev n_look_at_ticks : Nat := 66
abbrev n_ring_along : Nat := 67
abbrev n_grown : Nat := 68
abbrev n_cold_rows : Nat := 69
abbrev n_cold_draws : Nat := 70
abbrev n_longest_cold : Nat := 71
abbrev n__law_most : Nat := 72
abbrev n__law_cold : Nat := 73
abbrev n_law_k05 : Nat := 74
abbrev n_reduced : Nat := 76
abbrev n_round_cost : Nat := 77
abbrev n_best_by : Nat := 78
abbrev n_shown : Nat := 79
abbrev n_dearest : Nat := 80
abbrev n_cheapest : Nat := 81
abbrev n_dear_ring : Nat := 82
abbrev n_cheap_ring : Nat := 83
abbrev n__law_is_greatest : Nat := 84
abbrev n__law_ring_right : Nat := 85
abbrev n__law_is_share : Nat := 86
abbrev n_law_k06 : Nat := 87
abbrev n_look_at_program : Nat := 88
abbrev n_pairs_by : Nat := 89
abbrev n_dearer_by : Nat := 90
abbrev n__law_pairs : Nat := 91
abbrev n_law_k07 : Nat := 92
abbrev n_look_at_wishes : Nat := 94
abbrev n_is_good : Nat := 95
abbrev n_good_programs : Nat := 96
abbrev n_least_tank : Nat := 97
abbrev n_law_k08 : Nat := 98
abbrev n_parting_by : Nat := 99
abbrev n_alike : Nat := 100
abbrev n_parting : Nat := 101
abbrev n__law_parting : Nat := 102
abbrev n_law_k09 : Nat := 103
abbrev c_InvalidPlan : Nat := 27
abbrev c_InvalidStand : Nat := 28
abbrev c_InvalidChoice : Nat := 29
abbrev c_InvalidRun : Nat := 51
abbrev c_InvalidHarm : Nat := 65
abbrev c_InvalidNumber : Nat := 75
abbrev c_InvalidProgram : Nat := 93
def ir_is_within : Df := ⟨3, 3, [
 .ret (.and (.isi [.int] (.var 0)) (.and (.not (.isi [.bool] (.var 0))) (.chain .LtE .LtE (.var 1) (.var 0) (.var 2))))]⟩
def ir_is_row : Df := ⟨2, 2, [
 .ret (.and (.isi [.tuple] (.var 0)) (.cmp .Eq (.prim .len [.var 0]) (.var 1)))]⟩
def ir_is_program : Df := ⟨1, 1, [
 .ite (.or (.not (.call n_is_row [.var 0, .k (.int 3)])) (.or (.not (.call n_is_within [.ix (.var 0) (.k (.int 0)), .k (.int 0), .k (.int 3)])) (.not (.isi [.str] (.ix (.var 0) (.k (.int 1))))))) [
  .ret (.k (.bl false))] [],
 .ret (.and (.cmp .In (.ix (.var 0) (.k (.int 1))) (.k (.tup [.str s_all, .str s_cheap]))) (.isi [.bool] (.ix (.var 0) (.k (.int 2)))))]⟩
def ir_is_plan : Df := ⟨1, 1, [
 .ite (.or (.not (.call n_is_row [.var 0, .k (.int 5)])) (.or (.not (.call n_is_within [.ix (.var 0) (.k (.int 0)), .k (.int 1), .k (.int 4)])) (.not (.call n_is_within [.ix (.var 0) (.k (.int 1)), .k (.int 1), .k (.int 3)])))) [
  .ret (.k (.bl false))] [],
 .ite (.or (.not (.call n_is_within [.ix (.var 0) (.k (.int 2)), .k (.int 0), .k (.int 3)])) (.or (.not (.call n_is_program [.ix (.var 0) (.k (.int 3))])) (.not (.call n_is_row [.ix (.var 0) (.k (.int 4)), .k (.int 2)])))) [
  .ret (.k (.bl false))] [],
 .ret (.and (.call n_is_within [.ix (.ix (.var 0) (.k (.int 4))) (.k (.int 0)), .k (.int 1), .k (.int 4)]) (.call n_is_within [.ix (.ix (.var 0) (.k (.int 4))) (.k (.int 1)), .k (.int 0), .k (.int 3)]))]⟩
def ir_look_at_plan : Df := ⟨1, 1, [
 .ite (.not (.call n_is_plan [.var 0])) [
  .raise c_InvalidPlan] []]⟩
def ir_fits : Df := ⟨2, 8, [
 .asg (.tup [(.nm 2), (.nm 3), (.nm 4), (.nm 5), (.tup [(.nm 6), (.nm 7)])]) (.var 0),
 .ite (.or (.not (.call n_is_row [.var 1, .k (.int 7)])) (.or (.not (.call n_is_within [.ix (.var 1) (.k (.int 0)), .k (.int 0), .var 2])) (.not (.call n_is_within [.ix (.var 1) (.k (.int 2)), .k (.int 0), .op .Sub (.var 3) (.k (.int 1))])))) [
  .ret (.k (.bl false))] [],
 .ite (.or (.not (.isi [.bool] (.ix (.var 1) (.k (.int 1))))) (.or (.not (.isi [.bool] (.ix (.var 1) (.k (.int 6))))) (.not (.call n_is_within [.ix (.var 1) (.k (.int 4)), .k (.int 0), .op .Sub (.k (.int 4)) (.k (.int 1))])))) [
  .ret (.k (.bl false))] [],
 .ret (.and (.call n_is_within [.ix (.var 1) (.k (.int 3)), .k (.int 0), .prim .max [.k (.int 0), .op .Sub (.var 4) (.k (.int 1))]]) (.call n_is_within [.ix (.var 1) (.k (.int 5)), .k (.int 0), .var 7]))]⟩
def ir_is_stand : Df := ⟨2, 2, [
 .exp (.call n_look_at_plan [.var 0]),
 .ret (.call n_fits [.var 0, .var 1])]⟩
def ir_look_at_stand : Df := ⟨2, 2, [
 .ite (.not (.call n_fits [.var 0, .var 1])) [
  .raise c_InvalidStand] []]⟩
def ir_drawn : Df := ⟨3, 12, [
 .asg (.tup [(.nm 4), (.nm 5), (.nm 6), (.nm 7), (.nm 8), (.nm 3), (.nm 9)]) (.var 1),
 .par [10, 11] [.ix (.var 0) (.k (.int 2)), .ix (.ix (.var 0) (.k (.int 4))) (.k (.int 1))],
 .ite (.cmp .Gt (.var 2) (.k (.int 0))) [
  .ret (.tup [.prim .max [.k (.int 0), .op .Sub (.var 4) (.var 2)], .k (.int 0), .k (.int 0), .op .Mult (.lst [.k (.str s_cold)]) (.prim .int [.cmp .Gt (.var 2) (.var 4)])])] [],
 .asg (.nm 3) (.prim .min [.var 11, .op .Add (.var 3) (.k (.int 1))]),
 .ite (.or (.cmp .Eq (.var 4) (.k (.int 0))) (.cmp .Eq (.var 10) (.k (.int 0)))) [
  .ret (.tup [.var 4, .k (.int 0), .var 3, .lst []])] [],
 .ite (.cmp .Eq (.op .Add (.var 7) (.k (.int 1))) (.var 10)) [
  .ret (.tup [.op .Sub (.var 4) (.k (.int 1)), .k (.int 0), .var 3, .lst [.k (.str s_lost)]])] [],
 .ret (.tup [.var 4, .op .Add (.var 7) (.k (.int 1)), .var 3, .lst []])]⟩
def ir_passed : Df := ⟨3, 19, [
 .asg (.tup [(.nm 6), (.nm 7), (.nm 8), (.tup [(.nm 16), (.nm 17), (.nm 18)]), (.nm 9)]) (.var 0),
 .par [10, 11, 12] [.ix (.var 1) (.k (.int 1)), .ix (.var 1) (.k (.int 2)), .ix (.var 1) (.k (.int 4))],
 .asg (.nm 3) (.or (.ix (.var 1) (.k (.int 6))) (.and (.ix (.var 2) (.k (.int 1))) (.var 18))),
 .asg (.tup [(.nm 13), (.nm 14), (.nm 15), (.nm 4)]) (.call n_drawn [.var 0, .var 1, .ix (.var 2) (.k (.int 0))]),
 .ite (.cmp .Eq (.var 13) (.var 6)) [
  .asg (.tup [(.nm 10), (.nm 11)]) (.tup [.k (.bl false), .k (.int 0)])] [
  .ite (.cmp .LtE (.var 13) (.var 16)) [
   .asg (.nm 10) (.k (.bl true))] []],
 .ite (.and (.cmp .Lt (.var 13) (.var 6)) (.or (.var 3) (.and (.var 10) (.or (.cmp .Eq (.var 17) (.k (.str s_all))) (.cmp .Lt (.var 12) (.k (.int 2))))))) [
  .asg (.nm 4) (.op .Add (.var 4) (.lst [.ite (.cmp .Lt (.var 12) (.k (.int 2))) (.k (.str s_cheap)) (.k (.str s_dear))])),
  .asg (.nm 11) (.op .Add (.var 11) (.k (.int 1))),
  .ite (.cmp .Eq (.var 11) (.var 7)) [
   .par [13, 11] [.op .Add (.var 13) (.k (.int 1)), .k (.int 0)],
   .asg (.nm 10) (.and (.var 10) (.cmp .Lt (.var 13) (.var 6)))] []] [],
 .asg (.nm 4) (.op .Add (.var 4) (.op .Mult (.lst [.k (.str s_empty)]) (.prim .int [.cmp .Eq (.var 13) (.k (.int 0))]))),
 .asg (.nm 5) (.op .Mod (.op .Add (.var 12) (.k (.int 1))) (.k (.int 4))),
 .ret (.tup [.tup [.var 13, .var 10, .var 11, .var 14, .var 5, .var 15, .and (.var 3) (.cmp .Gt (.var 5) (.k (.int 0)))], .prim .sorted [.var 4]])]⟩
def ir_choices_of : Df := ⟨2, 6, [
 .asg (.tup [(.nm 4), (.nm 5)]) (.ix (.var 0) (.k (.int 4))),
 .asg (.nm 2) (.lst []),
 .for_ (.nm 3) .rng [.ite (.cmp .Eq (.ix (.var 1) (.k (.int 5))) (.var 5)) (.op .Add (.var 4) (.k (.int 1))) (.k (.int 1))] [
  .asg (.nm 2) (.op .Add (.var 2) (.lst [.tup [.var 3, .k (.bl false)], .tup [.var 3, .k (.bl true)]]))],
 .ret (.var 2)]⟩
def ir_is_like : Df := ⟨2, 2, [
 .ite (.or (.not (.isi [.tuple] (.var 0))) (.or (.cmp .NotEq (.prim .len [.var 0]) (.k (.int 2))) (.not (.call n_is_within [.ix (.var 0) (.k (.int 0)), .k (.int 0), .k (.int 4)])))) [
  .ret (.k (.bl false))] [],
 .ret (.and (.isi [.bool] (.ix (.var 0) (.k (.int 1)))) (.cmp .In (.var 0) (.var 1)))]⟩
def ir_look_at_choice : Df := ⟨3, 3, [
 .exp (.call n_look_at_plan [.var 0]),
 .exp (.call n_look_at_stand [.var 0, .var 1]),
 .ite (.not (.call n_is_like [.var 2, .call n_choices_of [.var 0, .var 1]])) [
  .raise c_InvalidChoice] []]⟩
def ir_choices_at : Df := ⟨2, 2, [
 .exp (.call n_look_at_plan [.var 0]),
 .exp (.call n_look_at_stand [.var 0, .var 1]),
 .ret (.call n_choices_of [.var 0, .var 1])]⟩
def ir_after : Df := ⟨3, 3, [
 .exp (.call n_look_at_choice [.var 0, .var 1, .var 2]),
 .ret (.ix (.call n_passed [.var 0, .var 1, .var 2]) (.k (.int 0)))]⟩
def ir_told : Df := ⟨3, 3, [
 .exp (.call n_look_at_choice [.var 0, .var 1, .var 2]),
 .ret (.ix (.call n_passed [.var 0, .var 1, .var 2]) (.k (.int 1)))]⟩
def ir__law_spring : Df := ⟨2, 4, [
 .asg (.nm 2) (.k (.int 7)),
 .ite (.cmp .Lt (.var 1) (.prim .len [.var 0])) [
  .asg (.nm 2) (.prim .abs [.ix (.var 0) (.var 1)])] [],
 .asg (.nm 3) (.op .Mod (.prim .int [.op .Add (.op .Add (.op .Mult (.var 2) (.k (.int 863))) (.op .Mult (.k (.int 524287)) (.var 1))) (.k (.int 1))]) (.k (.int 999999999989))),
 .ret (.new [.ite (.cmp .GtE (.var 2) (.op .Pow (.k (.int 10)) (.k (.int 18)))) (.var 2) (.k (.int 0)), .var 3])]⟩
def ir__law_pick : Df := ⟨2, 3, [
 .ite (.cmp .Gt (.ix (.var 0) (.k (.int 0))) (.k (.int 0))) [
  .asg (.nm 2) (.op .Mod (.prim .int [.ix (.var 0) (.k (.int 0))]) (.var 1)),
  .set (.var 0) (.k (.int 0)) (.op .FloorDiv (.ix (.var 0) (.k (.int 0))) (.var 1)),
  .ret (.var 2)] [],
 .set (.var 0) (.k (.int 1)) (.op .Mod (.prim .int [.op .Add (.op .Mult (.ix (.var 0) (.k (.int 1))) (.k (.int 393555900739))) (.k (.int 8191))]) (.k (.int 999999999989))),
 .ret (.op .Mod (.prim .int [.op .FloorDiv (.ix (.var 0) (.k (.int 1))) (.k (.int 4093))]) (.var 1))]⟩
def ir__law_kind : Df := ⟨1, 1, [
 .ite (.or (.cmp .Is (.var 0) (.k .non)) (.isi [.bool] (.var 0))) [
  .ret (.ite (.cmp .Is (.var 0) (.k .non)) (.k (.int 0)) (.k (.int 1)))] [],
 .ite (.isi [.list, .tuple] (.var 0)) [
  .ret (.ite (.isi [.list] (.var 0)) (.k (.int 2)) (.k (.int 3)))] [],
 .ret (.ite (.isi [.int] (.var 0)) (.k (.int 4)) (.ite (.isi [.str] (.var 0)) (.k (.int 5)) (.k (.int 6))))]⟩
def ir__law_twins : Df := ⟨2, 4, [
 .ite (.cmp .NotEq (.call n__law_kind [.var 0]) (.call n__law_kind [.var 1])) [
  .ret (.k (.bl false))] [],
 .ite (.cmp .In (.call n__law_kind [.var 0]) (.lst [.k (.int 2), .k (.int 3)])) [
  .ret (.and (.cmp .Eq (.prim .len [.var 0]) (.prim .len [.var 1])) (.cmp .Eq (.lc (.k (.int 1)) (.tup [(.nm 2), (.nm 3)]) .zip [.var 0, .var 1] (.not (.call n__law_twins [.var 2, .var 3])) [2, 3]) (.lst [])))] [],
 .ret (.cmp .Eq (.var 0) (.var 1))]⟩
def ir__law_program : Df := ⟨1, 2, [
 .asg (.nm 1) (.ix (.lst [.k (.str s_all), .k (.str s_cheap)]) (.call n__law_pick [.var 0, .k (.int 2)])),
 .ret (.tup [.call n__law_pick [.var 0, .k (.int 4)], .var 1, .cmp .Eq (.call n__law_pick [.var 0, .k (.int 3)]) (.k (.int 0))])]⟩
def ir__law_plan : Df := ⟨1, 4, [
 .asg (.nm 1) (.tup [.op .Add (.k (.int 1)) (.ix (.lst [.k (.int 0), .k (.int 1), .call n__law_pick [.var 0, .k (.int 4)]]) (.call n__law_pick [.var 0, .k (.int 3)])), .call n__law_pick [.var 0, .k (.int 4)]]),
 .par [2, 3] [.op .Add (.k (.int 1)) (.call n__law_pick [.var 0, .k (.int 4)]), .op .Add (.k (.int 1)) (.call n__law_pick [.var 0, .k (.int 3)])],
 .ret (.tup [.var 2, .var 3, .call n__law_pick [.var 0, .k (.int 4)], .call n__law_program [.var 0], .var 1])]⟩
def ir__law_tick : Df := ⟨3, 21, [
 .asg (.tup [(.nm 4), (.nm 5), (.nm 6), (.tup [(.nm 16), (.nm 17), (.nm 18)]), (.tup [(.nm 19), (.nm 20)])]) (.var 0),
 .asg (.tup [(.nm 7), (.nm 8), (.nm 9), (.nm 10), (.nm 3), (.nm 11), (.nm 12)]) (.var 1),
 .asg (.tup [(.nm 13), (.nm 14)]) (.var 2),
 .par [15, 12] [.lst [], .or (.var 12) (.and (.var 14) (.var 18))],
 .ite (.cmp .NotEq (.var 13) (.k (.int 0))) [
  .asg (.nm 15) (.op .Mult (.lst [.k (.str s_cold)]) (.prim .int [.cmp .Lt (.var 7) (.var 13)])),
  .par [7, 11, 10] [.prim .max [.op .Sub (.var 7) (.var 13), .k (.int 0)], .k (.int 0), .k (.int 0)]] [
  .asg (.nm 11) (.op .Add (.var 11) (.prim .int [.cmp .Lt (.var 11) (.var 20)])),
  .asg (.nm 10) (.ite (.and (.cmp .Gt (.var 7) (.k (.int 0))) (.cmp .Gt (.var 6) (.k (.int 0)))) (.op .Add (.var 10) (.k (.int 1))) (.k (.int 0))),
  .ite (.and (.cmp .Gt (.var 6) (.k (.int 0))) (.cmp .Eq (.var 10) (.var 6))) [
   .par [7, 10, 15] [.op .Sub (.var 7) (.k (.int 1)), .k (.int 0), .lst [.k (.str s_lost)]]] []],
 .ite (.cmp .Eq (.var 7) (.var 4)) [
  .asg (.tup [(.nm 8), (.nm 9)]) (.tup [.k (.bl false), .k (.int 0)])] [
  .asg (.nm 8) (.or (.var 8) (.cmp .LtE (.var 7) (.var 16))),
  .ite (.or (.var 12) (.and (.var 8) (.or (.cmp .In (.var 3) (.lst [.k (.int 0), .k (.int 1)])) (.cmp .Eq (.var 17) (.k (.str s_all)))))) [
   .asg (.nm 15) (.op .Add (.var 15) (.lst [.ix (.lst [.k (.str s_cheap), .k (.str s_cheap), .k (.str s_dear), .k (.str s_dear)]) (.var 3)])),
   .asg (.nm 9) (.op .Mod (.op .Add (.var 9) (.k (.int 1))) (.var 5)),
   .asg (.nm 7) (.op .Add (.var 7) (.prim .int [.cmp .Eq (.var 9) (.k (.int 0))])),
   .asg (.nm 8) (.and (.var 8) (.not (.and (.cmp .Eq (.var 9) (.k (.int 0))) (.cmp .Eq (.var 7) (.var 4)))))] []],
 .ite (.cmp .Eq (.var 7) (.k (.int 0))) [
  .asg (.nm 15) (.op .Add (.var 15) (.lst [.k (.str s_empty)]))] [],
 .asg (.nm 3) (.ix (.lst [.k (.int 1), .k (.int 2), .k (.int 3), .k (.int 0)]) (.var 3)),
 .ret (.tup [.tup [.var 7, .var 8, .var 9, .var 10, .var 3, .var 11, .and (.var 12) (.cmp .NotEq (.var 3) (.k (.int 0)))], .prim .sorted [.var 15]])]⟩
def ir__law_choices : Df := ⟨2, 4, [
 .asg (.nm 2) (.lst [.tup [.k (.int 0), .k (.bl false)], .tup [.k (.int 0), .k (.bl true)]]),
 .ite (.cmp .Eq (.ix (.var 1) (.k (.int 5))) (.ix (.ix (.var 0) (.k (.int 4))) (.k (.int 1)))) [
  .for_ (.nm 3) .rng [.k (.int 1), .op .Add (.ix (.ix (.var 0) (.k (.int 4))) (.k (.int 0))) (.k (.int 1))] [
   .asg (.nm 2) (.op .Add (.var 2) (.lst [.tup [.var 3, .k (.bl false)], .tup [.var 3, .k (.bl true)]]))]] [],
 .ret (.var 2)]⟩
def ir__law_any_stand : Df := ⟨2, 14, [
 .asg (.tup [(.nm 3), (.nm 4), (.nm 5), (.nm 6), (.tup [(.nm 12), (.nm 13)])]) (.var 1),
 .par [7, 8, 9] [.call n__law_pick [.var 0, .op .Add (.var 3) (.k (.int 1))], .call n__law_pick [.var 0, .var 4], .call n__law_pick [.var 0, .prim .max [.k (.int 1), .var 5]]],
 .asg (.nm 2) (.ix (.lst [.var 13, .call n__law_pick [.var 0, .op .Add (.var 13) (.k (.int 1))]]) (.call n__law_pick [.var 0, .k (.int 2)])),
 .par [10, 11] [.cmp .Eq (.call n__law_pick [.var 0, .k (.int 2)]) (.k (.int 0)), .cmp .Eq (.call n__law_pick [.var 0, .k (.int 3)]) (.k (.int 0))],
 .ret (.tup [.var 7, .var 10, .var 8, .var 9, .call n__law_pick [.var 0, .k (.int 4)], .var 2, .var 11])]⟩
def ir_law_k03 : Df := ⟨1, 9, [
 .for_ (.nm 1) .rng [.op .Add (.prim .min [.prim .len [.var 0], .k (.int 6)]) (.k (.int 1))] [
  .asg (.nm 2) (.call n__law_spring [.var 0, .var 1]),
  .asg (.nm 3) (.call n__law_plan [.var 2]),
  .for_ (.nm 4) .rng [.k (.int 20)] [
   .asg (.nm 5) (.call n__law_any_stand [.var 2, .var 3]),
   .asg (.nm 6) (.call n__law_choices [.var 3, .var 5]),
   .ite (.not (.call n__law_twins [.lst [.call n_is_stand [.var 3, .var 5], .call n_choices_at [.var 3, .var 5]], .lst [.k (.bl true), .var 6]])) [
    .ret (.k (.bl false))] [],
   .for_ (.nm 7) .dat [.var 6] [
    .asg (.nm 8) (.tup [.call n_after [.var 3, .var 5, .var 7], .call n_told [.var 3, .var 5, .var 7]]),
    .ite (.not (.call n__law_twins [.var 8, .call n__law_tick [.var 3, .var 5, .var 7]])) [
     .ret (.k (.bl false))] []]]],
 .ret (.k (.bl true))]⟩
def ir_programs_of : Df := ⟨0, 3, [
 .asg (.nm 0) (.lst []),
 .for_ (.nm 1) .rng [.k (.int 4)] [
  .for_ (.nm 2) .dat [.k (.tup [.str s_all, .str s_cheap])] [
   .asg (.nm 0) (.op .Add (.var 0) (.lst [.tup [.var 1, .var 2, .k (.bl false)], .tup [.var 1, .var 2, .k (.bl true)]]))]],
 .ret (.var 0)]⟩
def ir_all_programs : Df := ⟨0, 0, [
 .ret (.call n_programs_of [])]⟩
def ir_begin_of : Df := ⟨1, 1, [
 .ret (.tup [.ix (.var 0) (.k (.int 0)), .k (.bl false), .k (.int 0), .k (.int 0), .k (.int 0), .ix (.ix (.var 0) (.k (.int 4))) (.k (.int 1)), .k (.bl false)])]⟩
def ir_first_stand : Df := ⟨1, 1, [
 .exp (.call n_look_at_plan [.var 0]),
 .ret (.call n_begin_of [.var 0])]⟩
def ir__law_begin : Df := ⟨1, 1, [
 .ret (.tup [.ix (.var 0) (.k (.int 0)), .k (.bl false), .k (.int 0), .k (.int 0), .k (.int 0), .ix (.ix (.var 0) (.k (.int 4))) (.k (.int 1)), .k (.bl false)])]⟩
def ir__law_int : Df := ⟨3, 3, [
 .ret (.and (.isi [.int] (.var 0)) (.and (.not (.isi [.bool] (.var 0))) (.chain .LtE .LtE (.var 1) (.var 0) (.var 2))))]⟩
def ir__law_made : Df := ⟨2, 2, [
 .ret (.and (.isi [.tuple] (.var 0)) (.cmp .Eq (.prim .len [.var 0]) (.var 1)))]⟩
def ir__law_good_program : Df := ⟨1, 1, [
 .ite (.or (.not (.call n__law_made [.var 0, .k (.int 3)])) (.or (.not (.call n__law_int [.ix (.var 0) (.k (.int 0)), .k (.int 0), .k (.int 3)])) (.not (.isi [.str] (.ix (.var 0) (.k (.int 1))))))) [
  .ret (.k (.bl false))] [],
 .ret (.and (.cmp .In (.ix (.var 0) (.k (.int 1))) (.lst [.k (.str s_all), .k (.str s_cheap)])) (.isi [.bool] (.ix (.var 0) (.k (.int 2)))))]⟩
def ir__law_good_plan : Df := ⟨1, 1, [
 .ite (.or (.not (.call n__law_made [.var 0, .k (.int 5)])) (.or (.not (.call n__law_int [.ix (.var 0) (.k (.int 0)), .k (.int 1), .k (.int 4)])) (.not (.call n__law_int [.ix (.var 0) (.k (.int 1)), .k (.int 1), .k (.int 3)])))) [
  .ret (.k (.bl false))] [],
 .ite (.or (.not (.call n__law_int [.ix (.var 0) (.k (.int 2)), .k (.int 0), .k (.int 3)])) (.or (.not (.call n__law_good_program [.ix (.var 0) (.k (.int 3))])) (.not (.call n__law_made [.ix (.var 0) (.k (.int 4)), .k (.int 2)])))) [
  .ret (.k (.bl false))] [],
 .ret (.and (.call n__law_int [.ix (.ix (.var 0) (.k (.int 4))) (.k (.int 0)), .k (.int 1), .k (.int 4)]) (.call n__law_int [.ix (.ix (.var 0) (.k (.int 4))) (.k (.int 1)), .k (.int 0), .k (.int 3)]))]⟩
def ir__law_good_stand : Df := ⟨2, 11, [
 .asg (.tup [(.nm 3), (.nm 4), (.nm 5), (.nm 6), (.tup [(.nm 7), (.nm 8)])]) (.var 0),
 .ite (.or (.not (.call n__law_made [.var 1, .k (.int 7)])) (.or (.not (.isi [.bool] (.ix (.var 1) (.k (.int 1))))) (.not (.isi [.bool] (.ix (.var 1) (.k (.int 6))))))) [
  .ret (.k (.bl false))] [],
 .asg (.nm 2) (.lst [.tup [.k (.int 0), .var 3], .tup [.k (.int 2), .op .Sub (.var 4) (.k (.int 1))], .tup [.k (.int 3), .prim .max [.op .Sub (.var 5) (.k (.int 1)), .k (.int 0)]], .tup [.k (.int 4), .k (.int 3)], .tup [.k (.int 5), .var 8]]),
 .ret (.cmp .Eq (.lc (.var 9) (.tup [(.nm 9), (.nm 10)]) .dat [.var 2] (.not (.call n__law_int [.ix (.var 1) (.var 9), .k (.int 0), .var 10])) [9, 10]) (.lst []))]⟩
def ir__law_bent : Df := ⟨2, 5, [
 .ite (.and (.isi [.tuple] (.var 1)) (.and (.cmp .NotEq (.var 1) (.tup [])) (.cmp .Gt (.call n__law_pick [.var 0, .k (.int 6)]) (.k (.int 0))))) [
  .par [3, 4] [.call n__law_pick [.var 0, .prim .len [.var 1]], .call n__law_pick [.var 0, .k (.int 8)]],
  .ite (.cmp .Eq (.var 4) (.k (.int 0))) [
   .ret (.op .Add (.sl (.var 1) (.k .non) (.var 3)) (.sl (.var 1) (.op .Add (.var 3) (.k (.int 1))) (.k .non)))] [],
  .ite (.cmp .Eq (.var 4) (.k (.int 1))) [
   .ret (.op .Add (.op .Add (.sl (.var 1) (.k .non) (.var 3)) (.sl (.var 1) (.var 3) (.op .Add (.var 3) (.k (.int 1))))) (.sl (.var 1) (.var 3) (.k .non)))] [],
  .ite (.cmp .Eq (.var 4) (.k (.int 2))) [
   .ret (.rev (.var 1))] [],
  .ret (.op .Add (.op .Add (.sl (.var 1) (.k .non) (.var 3)) (.tup [.call n__law_bent [.var 0, .ix (.var 1) (.var 3)]])) (.sl (.var 1) (.op .Add (.var 3) (.k (.int 1))) (.k .non)))] [],
 .asg (.nm 2) (.lst [.k .non, .k (.bl true), .k (.bl false), .k (.int 0), .k (.int 1), .k (.int 2), .k (.int 3), .k (.int 4), .k (.int 5), .neg (.k (.int 1)), .op .Pow (.k (.int 10)) (.k (.int 30)), .k (.str s_empty2), .k (.str s_all), .k (.str s_cheap), .k (.str s_dear), .k (.str s_hand)]),
 .asg (.nm 2) (.op .Add (.var 2) (.lst [.tup [], .lst [], .tup [.k (.int 1), .k (.int 0)], .tup [.k (.int 4), .k (.int 3)], .tup [.k (.int 0), .k (.str s_all), .k (.bl true)], .tup [.k (.int 2), .k (.bl false), .k (.int 0), .k (.int 0), .k (.int 0), .k (.int 1), .k (.bl false)], .lst [.k (.int 1), .k (.int 0)]])),
 .ret (.ix (.var 2) (.call n__law_pick [.var 0, .prim .len [.var 2]]))]⟩
def ir_law_k01 : Df := ⟨1, 12, [
 .for_ (.nm 1) .rng [.op .Add (.prim .min [.prim .len [.var 0], .k (.int 8)]) (.k (.int 1))] [
  .asg (.nm 4) (.call n__law_spring [.var 0, .var 1]),
  .asg (.nm 5) (.call n__law_plan [.var 4]),
  .ite (.not (.call n__law_good_plan [.var 5])) [
   .ret (.k (.bl false))] [],
  .asg (.nm 6) (.op .Add (.lst [.var 5, .prim .list [.var 5], .ix (.var 5) (.k (.int 3))]) (.lc (.call n__law_bent [.var 4, .var 5]) (.nm 9) .rng [.k (.int 35)] (.k (.bl true)) [9])),
  .asg (.nm 6) (.op .Add (.var 6) (.lc (.call n__law_bent [.var 4, .ix (.var 5) (.k (.int 3))]) (.nm 9) .rng [.k (.int 15)] (.k (.bl true)) [9])),
  .for_ (.nm 7) .dat [.var 6] [
   .asg (.nm 2) (.lst [.call n__law_good_plan [.var 7], .call n__law_good_program [.var 7]]),
   .ite (.not (.call n__law_twins [.lst [.call n_is_plan [.var 7], .call n_is_program [.var 7]], .var 2])) [
    .ret (.k (.bl false))] []],
  .asg (.nm 8) (.call n__law_begin [.var 5]),
  .ite (.not (.call n__law_twins [.call n_first_stand [.var 5], .var 8])) [
   .ret (.k (.bl false))] [],
  .for_ (.nm 9) .rng [.call n__law_pick [.var 4, .k (.int 12)]] [
   .asg (.nm 11) (.call n__law_choices [.var 5, .var 8]),
   .asg (.nm 8) (.ix (.call n__law_tick [.var 5, .var 8, .ix (.var 11) (.call n__law_pick [.var 4, .prim .len [.var 11]])]) (.k (.int 0)))],
  .asg (.nm 6) (.op .Add (.lst [.var 8, .prim .list [.var 8]]) (.lc (.call n__law_bent [.var 4, .var 8]) (.nm 9) .rng [.k (.int 45)] (.k (.bl true)) [9])),
  .ite (.cmp .NotEq (.lc (.k (.int 1)) (.nm 7) .dat [.var 6] (.not (.call n__law_twins [.call n_is_stand [.var 5, .var 7], .call n__law_good_stand [.var 5, .var 7]])) [7]) (.lst [])) [
   .ret (.k (.bl false))] []],
 .asg (.nm 2) (.lst []),
 .for_ (.nm 3) .rng [.k (.int 4)] [
  .for_ (.nm 10) .dat [.lst [.k (.str s_all), .k (.str s_cheap)]] [
   .asg (.nm 2) (.op .Add (.var 2) (.lst [.tup [.var 3, .var 10, .k (.bl false)], .tup [.var 3, .var 10, .k (.bl true)]]))]],
 .ret (.call n__law_twins [.call n_all_programs [], .var 2])]⟩
def ir_steps_of : Df := ⟨3, 5, [
 .asg (.nm 3) (.new []),
 .for_ (.nm 4) .dat [.var 2] [
  .ite (.not (.call n_is_like [.var 4, .call n_choices_of [.var 0, .var 1]])) [
   .ret (.fz (.var 3))] [],
  .exp (.meth .append (.var 3) [.call n_passed [.var 0, .var 1, .var 4]]),
  .asg (.nm 1) (.ix (.ix (.var 3) (.neg (.k (.int 1)))) (.k (.int 0)))],
 .ret (.fz (.var 3))]⟩
def ir_fits_run : Df := ⟨2, 2, [
 .ite (.or (.not (.isi [.tuple] (.var 1))) (.cmp .Gt (.prim .len [.var 1]) (.k (.int 60)))) [
  .ret (.k (.bl false))] [],
 .ret (.cmp .Eq (.prim .len [.call n_steps_of [.var 0, .call n_begin_of [.var 0], .var 1]]) (.prim .len [.var 1]))]⟩
def ir_look_at_run : Df := ⟨2, 2, [
 .exp (.call n_look_at_plan [.var 0]),
 .ite (.not (.call n_fits_run [.var 0, .var 1])) [
  .raise c_InvalidRun] []]⟩
def ir_price : Df := ⟨1, 1, [
 .ret (.op .Add (.prim .int [.cmp .In (.k (.str s_cheap)) (.var 0)]) (.op .Mult (.k (.int 2)) (.prim .int [.cmp .In (.k (.str s_dear)) (.var 0)])))]⟩
def ir_is_run : Df := ⟨2, 2, [
 .exp (.call n_look_at_plan [.var 0]),
 .ret (.call n_fits_run [.var 0, .var 1])]⟩
def ir_stand_behind : Df := ⟨2, 2, [
 .exp (.call n_look_at_run [.var 0, .var 1]),
 .ret (.ix (.ix (.op .Add (.lst [.tup [.call n_begin_of [.var 0], .lst []]]) (.call n_steps_of [.var 0, .call n_begin_of [.var 0], .var 1])) (.neg (.k (.int 1)))) (.k (.int 0)))]⟩
def ir_cost : Df := ⟨2, 4, [
 .exp (.call n_look_at_run [.var 0, .var 1]),
 .ret (.prim .sum [.lc (.call n_price [.var 3]) (.tup [(.nm 2), (.nm 3)]) .dat [.call n_steps_of [.var 0, .call n_begin_of [.var 0], .var 1]] (.k (.bl true)) [2, 3]])]⟩
def ir__law_price : Df := ⟨1, 2, [
 .ret (.toll (.ix (.op .Add (.lc (.var 1) (.nm 1) .dat [.var 0] (.cmp .In (.var 1) (.lst [.k (.str s_cheap), .k (.str s_dear)])) [1]) (.lst [.k (.str s_empty2)])) (.k (.int 0))))]⟩
def ir_law_k02 : Df := ⟨1, 17, [
 .for_ (.nm 1) .rng [.op .Add (.prim .min [.prim .len [.var 0], .k (.int 8)]) (.k (.int 1))] [
  .asg (.nm 2) (.call n__law_spring [.var 0, .var 1]),
  .par [6, 7, 8] [.call n__law_plan [.var 2], .tup [], .k (.int 0)],
  .par [9, 10] [.call n__law_begin [.var 6], .ix (.lst [.k (.int 6), .k (.int 25), .k (.int 60)]) (.call n__law_pick [.var 2, .k (.int 3)])],
  .for_ (.nm 3) .rng [.call n__law_pick [.var 2, .op .Add (.var 10) (.k (.int 1))]] [
   .asg (.nm 11) (.call n__law_choices [.var 6, .var 9]),
   .asg (.nm 12) (.ix (.var 11) (.call n__law_pick [.var 2, .prim .len [.var 11]])),
   .ite (.cmp .Gt (.call n__law_pick [.var 2, .k (.int 3)]) (.k (.int 0))) [
    .asg (.nm 12) (.tup [.ix (.var 12) (.k (.int 0)), .k (.bl false)])] [],
   .asg (.tup [(.nm 14), (.nm 15)]) (.call n__law_tick [.var 6, .var 9, .var 12]),
   .ite (.not (.call n__law_twins [.lst [.call n_choices_at [.var 6, .var 9], .call n_after [.var 6, .var 9, .var 12]], .lst [.var 11, .var 14]])) [
    .ret (.k (.bl false))] [],
   .ite (.not (.call n__law_twins [.call n_told [.var 6, .var 9, .var 12], .var 15])) [
    .ret (.k (.bl false))] [],
   .par [7, 9, 8] [.op .Add (.var 7) (.tup [.var 12]), .var 14, .op .Add (.var 8) (.call n__law_price [.var 15])]],
  .ite (.not (.call n__law_twins [.lst [.call n_is_run [.var 6, .var 7], .call n_stand_behind [.var 6, .var 7], .call n_cost [.var 6, .var 7]], .lst [.k (.bl true), .var 9, .var 8]])) [
   .ret (.k (.bl false))] [],
  .asg (.nm 4) (.lst [.tup [.k (.int 0), .k (.bl false)], .tup [.k (.int 1), .k (.bl false)], .tup [.k (.int 4), .k (.bl true)], .tup [.k (.int 5), .k (.bl false)], .tup [.k (.int 0), .k (.int 0)], .tup [.k (.bl true), .k (.bl false)], .tup [.k (.int 0)], .lst [.k (.int 0), .k (.bl false)]]),
  .for_ (.nm 5) .dat [.op .Add (.var 4) (.lst [.k .non, .tup [.neg (.k (.int 1)), .k (.bl true)]])] [
   .asg (.nm 13) (.cmp .NotEq (.lc (.var 16) (.nm 16) .dat [.call n__law_choices [.var 6, .var 9]] (.call n__law_twins [.var 16, .var 5]) [16]) (.lst [])),
   .ite (.not (.call n__law_twins [.call n_is_run [.var 6, .op .Add (.var 7) (.tup [.var 5])], .and (.var 13) (.cmp .Lt (.prim .len [.var 7]) (.k (.int 60)))])) [
    .ret (.k (.bl false))] []]],
 .ret (.k (.bl true))]⟩
def ir_look_at_harm : Df := ⟨1, 1, [
 .ite (.or (.not (.isi [.str] (.var 0))) (.cmp .NotIn (.var 0) (.k (.tup [.str s_cold, .str s_dear, .str s_empty, .str s_lost])))) [
  .raise c_InvalidHarm] []]⟩
def ir_net_of : Df := ⟨1, 11, [
 .asg (.nm 1) (.call n_begin_of [.var 0]),
 .par [2, 3, 4] [.dic1 (.var 1) (.tup [.tup [], .new []]), .new [.var 1], .k (.int 0)],
 .whl (.cmp .Lt (.var 4) (.prim .len [.var 3])) [
  .asg (.nm 5) (.ix (.var 3) (.var 4)),
  .asg (.nm 4) (.op .Add (.var 4) (.k (.int 1))),
  .asg (.tup [(.nm 7), (.nm 8)]) (.ix (.var 2) (.var 5)),
  .for_ (.nm 6) .dat [.call n_choices_of [.var 0, .var 5]] [
   .asg (.tup [(.nm 9), (.nm 10)]) (.call n_passed [.var 0, .var 5, .var 6]),
   .exp (.meth .append (.var 8) [.tup [.var 6, .var 9, .var 10]]),
   .ite (.din true (.var 9) (.var 2)) [
    .set (.var 2) (.var 9) (.tup [.op .Add (.var 7) (.tup [.var 6]), .new []]),
    .exp (.meth .append (.var 3) [.var 9])] []]],
 .retz (.var 2)]⟩
def ir_firsts_by : Df := ⟨1, 8, [
 .asg (.nm 1) (.dic0),
 .for_ (.tup [(.nm 2), (.nm 3)]) .vals [.call n_net_of [.var 0]] [
  .for_ (.tup [(.nm 4), (.nm 5), (.nm 6)]) .dat [.var 3] [
   .for_ (.nm 7) .dat [.var 6] [
    .ite (.din true (.var 7) (.var 1)) [
     .set (.var 1) (.var 7) (.op .Add (.var 2) (.tup [.var 4]))] []]]],
 .retz (.var 1)]⟩
def ir_harms_by : Df := ⟨1, 3, [
 .asg (.nm 1) (.call n_firsts_by [.var 0]),
 .ret (.lc (.var 2) (.nm 2) .dat [.k (.tup [.str s_cold, .str s_dear, .str s_empty, .str s_lost])] (.din false (.var 2) (.var 1)) [2])]⟩
def ir_count_stands : Df := ⟨1, 1, [
 .exp (.call n_look_at_plan [.var 0]),
 .ret (.prim .len [.call n_net_of [.var 0]])]⟩
def ir_run_to : Df := ⟨2, 3, [
 .exp (.call n_look_at_plan [.var 0]),
 .exp (.call n_look_at_stand [.var 0, .var 1]),
 .asg (.nm 2) (.call n_net_of [.var 0]),
 .ret (.ite (.din false (.var 1) (.var 2)) (.ix (.ix (.var 2) (.var 1)) (.k (.int 0))) (.k .non))]⟩
def ir_harms : Df := ⟨1, 1, [
 .exp (.call n_look_at_plan [.var 0]),
 .ret (.call n_harms_by [.var 0])]⟩
def ir_first_harm : Df := ⟨2, 2, [
 .exp (.call n_look_at_plan [.var 0]),
 .exp (.call n_look_at_harm [.var 1]),
 .ret (.get1 (.call n_firsts_by [.var 0]) (.var 1))]⟩
def ir__law_small : Df := ⟨1, 6, [
 .asg (.tup [(.nm 1), (.nm 2), (.nm 3), (.nm 4), (.nm 5)]) (.call n__law_plan [.var 0]),
 .ret (.tup [.prim .min [.k (.int 2), .var 1], .prim .min [.k (.int 2), .var 2], .prim .min [.k (.int 2), .var 3], .var 4, .tup [.prim .min [.k (.int 2), .ix (.var 5) (.k (.int 0))], .prim .min [.k (.int 1), .ix (.var 5) (.k (.int 1))]]])]⟩
def ir__law_ways : Df := ⟨1, 9, [
 .asg (.nm 1) (.call n__law_begin [.var 0]),
 .par [2, 3, 4] [.dic1 (.var 1) (.tup [.tup [], .new []]), .new [.var 1], .k (.int 0)],
 .whl (.cmp .Lt (.var 4) (.prim .len [.var 3])) [
  .asg (.nm 5) (.ix (.var 3) (.var 4)),
  .asg (.nm 4) (.op .Add (.var 4) (.k (.int 1))),
  .for_ (.nm 6) .dat [.call n__law_choices [.var 0, .var 5]] [
   .asg (.tup [(.nm 7), (.nm 8)]) (.call n__law_tick [.var 0, .var 5, .var 6]),
   .exp (.meth .append (.ix (.ix (.var 2) (.var 5)) (.k (.int 1))) [.tup [.var 6, .var 7, .var 8]]),
   .ite (.din true (.var 7) (.var 2)) [
    .set (.var 2) (.var 7) (.tup [.op .Add (.ix (.ix (.var 2) (.var 5)) (.k (.int 0))) (.tup [.var 6]), .new []]),
    .exp (.meth .append (.var 3) [.var 7])] []]],
 .retz (.var 2)]⟩
def ir__law_firsts : Df := ⟨1, 8, [
 .par [2, 3] [.call n__law_ways [.var 0], .dic0],
 .for_ (.nm 1) .dat [.var 2] [
  .for_ (.tup [(.nm 4), (.nm 5), (.nm 6)]) .dat [.ix (.ix (.var 2) (.var 1)) (.k (.int 1))] [
   .for_ (.nm 7) .dat [.var 6] [
    .ite (.din true (.var 7) (.var 3)) [
     .set (.var 3) (.var 7) (.op .Add (.ix (.ix (.var 2) (.var 1)) (.k (.int 0))) (.tup [.var 4]))] []]]],
 .retz (.var 3)]⟩
def ir__law_harms : Df := ⟨1, 3, [
 .asg (.nm 1) (.call n__law_firsts [.var 0]),
 .ret (.lc (.var 2) (.nm 2) .dat [.lst [.k (.str s_cold), .k (.str s_dear), .k (.str s_empty), .k (.str s_lost)]] (.din false (.var 2) (.var 1)) [2])]⟩
def ir_law_k04 : Df := ⟨1, 12, [
 .for_ (.nm 1) .rng [.op .Add (.prim .min [.prim .len [.var 0], .k (.int 3)]) (.k (.int 1))] [
  .asg (.nm 2) (.call n__law_spring [.var 0, .var 1]),
  .asg (.nm 3) (.call n__law_small [.var 2]),
  .par [8, 9] [.call n__law_ways [.var 3], .call n__law_firsts [.var 3]],
  .ite (.not (.call n__law_twins [.lst [.call n_count_stands [.var 3], .call n_harms [.var 3]], .lst [.prim .len [.var 8], .call n__law_harms [.var 3]]])) [
   .ret (.k (.bl false))] [],
  .for_ (.nm 4) .dat [.lst [.k (.str s_cold), .k (.str s_dear), .k (.str s_empty), .k (.str s_lost)]] [
   .ite (.not (.call n__law_twins [.call n_first_harm [.var 3, .var 4], .get1 (.var 9) (.var 4)])) [
    .ret (.k (.bl false))] []],
  .asg (.nm 5) (.prim .list [.var 8]),
  .par [10, 11] [.ix (.var 5) (.call n__law_pick [.var 2, .prim .len [.var 5]]), .ix (.var 5) (.call n__law_pick [.var 2, .prim .len [.var 5]])],
  .asg (.nm 6) (.op .Add (.sl (.var 10) (.k .non) (.k (.int 3))) (.sl (.var 11) (.k (.int 3)) (.k .non))),
  .asg (.nm 7) (.ite (.din false (.var 6) (.var 8)) (.ix (.ix (.var 8) (.var 6)) (.k (.int 0))) (.k .non)),
  .ite (.not (.call n__law_twins [.lst [.call n_run_to [.var 3, .var 10], .call n_run_to [.var 3, .var 6]], .lst [.ix (.ix (.var 8) (.var 10)) (.k (.int 0)), .var 7]])) [
   .ret (.k (.bl false))] []],
 .ret (.k (.bl true))]⟩
def ir_look_at_ticks : Df := ⟨1, 1, [
 .ite (.not (.call n_is_within [.var 0, .k (.int 0), .k (.int 60)])) [
  .raise c_InvalidNumber] []]⟩
def ir_ring_along : Df := ⟨2, 4, [
 .par [2, 3] [.new [], .dic0],
 .whl (.and (.din false (.var 1) (.var 0)) (.din true (.var 1) (.var 3))) [
  .set (.var 3) (.var 1) (.prim .len [.var 2]),
  .exp (.meth .append (.var 2) [.ix (.var 0) (.var 1)]),
  .asg (.nm 1) (.ix (.ix (.var 0) (.var 1)) (.k (.int 0)))],
 .ret (.ite (.din false (.var 1) (.var 3)) (.rev (.sl (.fz (.var 2)) (.ix (.var 3) (.var 1)) (.k .non))) (.k .non))]⟩
def ir_grown : Df := ⟨2, 10, [
 .par [1, 2, 3] [.dcopy (.var 1), .dic0, .k (.bl true)],
 .whl (.var 3) [
  .asg (.nm 3) (.k (.bl false)),
  .for_ (.nm 4) .dat [.var 0] [
   .for_ (.tup [(.nm 5), (.nm 6), (.nm 7)]) .dat [.ite (.din false (.var 4) (.var 1)) (.ix (.var 0) (.var 4)) (.lst [])] [
    .asg (.nm 8) (.op .Add (.ix (.var 1) (.var 4)) (.var 7)),
    .ite (.or (.din true (.var 6) (.var 1)) (.cmp .Gt (.var 8) (.ix (.var 1) (.var 6)))) [
     .mul [.sub (.var 1) (.var 6), .sub (.var 2) (.var 6), .nm 3] (.tup [.var 8, .tup [.var 4, .var 5], .k (.bl true)]),
     .asg (.nm 9) (.call n_ring_along [.var 2, .var 6]),
     .ite (.cmp .IsNot (.var 9) (.k .non)) [
      .retz (.tup [.k .non, .var 9])] []] []]]],
 .retz (.tup [.var 1, .k .non])]⟩
def ir_cold_rows : Df := ⟨1, 10, [
 .asg (.nm 1) (.dic0),
 .for_ (.tup [(.nm 2), (.tup [(.nm 4), (.nm 5)])]) .items [.var 0] [
  .asg (.nm 3) (.lc (.var 6) (.nm 6) .dat [.var 5] (.or (.cmp .Eq (.ix (.ix (.var 6) (.k (.int 0))) (.k (.int 0))) (.k (.int 0))) (.cmp .In (.k (.str s_cold)) (.ix (.var 6) (.k (.int 2))))) [6]),
  .set (.var 1) (.var 2) (.lc (.tup [.var 7, .var 8, .prim .int [.cmp .In (.k (.str s_cold)) (.var 9)]]) (.tup [(.nm 7), (.nm 8), (.nm 9)]) .dat [.var 3] (.k (.bl true)) [7, 8, 9])],
 .retz (.var 1)]⟩
def ir_cold_draws : Df := ⟨2, 11, [
 .exp (.call n_look_at_plan [.var 0]),
 .exp (.call n_look_at_ticks [.var 1]),
 .par [3, 4] [.call n_net_of [.var 0], .dic1 (.call n_begin_of [.var 0]) (.k (.int 0))],
 .for_ (.nm 2) .rng [.var 1] [
  .asg (.nm 5) (.dic0),
  .fzs 4,
  .for_ (.tup [(.nm 6), (.nm 7)]) .items [.var 4] [
   .for_ (.tup [(.nm 8), (.nm 9), (.nm 10)]) .dat [.ix (.ix (.var 3) (.var 6)) (.k (.int 1))] [
    .set (.var 5) (.var 9) (.prim .max [.get2 (.var 5) (.var 9) (.k (.int 0)), .op .Add (.var 7) (.prim .int [.cmp .In (.k (.str s_cold)) (.var 10)])])]],
  .asg (.nm 4) (.var 5)],
 .ret (.maxv (.var 4))]⟩
def ir_longest_cold : Df := ⟨1, 4, [
 .exp (.call n_look_at_plan [.var 0]),
 .asg (.nm 1) (.call n_net_of [.var 0]),
 .asg (.nm 2) (.ix (.call n_grown [.call n_cold_rows [.var 1], .dzero 3 (.var 1)]) (.k (.int 0))),
 .ret (.ite (.cmp .Is (.var 2) (.k .non)) (.k .non) (.maxv (.var 2)))]⟩
def ir__law_most : Df := ⟨2, 8, [
 .asg (.nm 2) (.dpairs (.lc (.tup [.var 5, .k (.int 0)]) (.nm 5) .dat [.var 1] (.k (.bl true)) [5])),
 .for_ (.nm 3) .rng [.op .Add (.prim .len [.var 0]) (.k (.int 2))] [
  .asg (.nm 4) (.k (.bl false)),
  .for_ (.nm 5) .dat [.var 0] [
   .ite (.din false (.var 5) (.var 2)) [
    .for_ (.tup [(.nm 6), (.nm 7)]) .dat [.ix (.var 0) (.var 5)] [
     .ite (.or (.din true (.var 6) (.var 2)) (.cmp .Lt (.ix (.var 2) (.var 6)) (.op .Add (.ix (.var 2) (.var 5)) (.var 7)))) [
      .mul [.sub (.var 2) (.var 6), .nm 4] (.tup [.op .Add (.ix (.var 2) (.var 5)) (.var 7), .k (.bl true)])] []]] []],
  .ite (.not (.var 4)) [
   .ret (.maxv (.var 2))] [],
  .ite (.cmp .Gt (.maxv (.var 2)) (.op .Add (.op .Mult (.k (.int 2)) (.prim .len [.var 0])) (.k (.int 2)))) [
   .ret (.k .non)] []],
 .ret (.k .non)]⟩
def ir__law_cold : Df := ⟨3, 11, [
 .asg (.nm 3) (.dic1 (.var 1) (.k (.int 0))),
 .for_ (.nm 4) .rng [.var 2] [
  .asg (.nm 5) (.dic0),
  .fzs 3,
  .for_ (.nm 6) .dat [.var 3] [
   .for_ (.tup [(.nm 7), (.nm 8), (.nm 9)]) .dat [.ix (.ix (.var 0) (.var 6)) (.k (.int 1))] [
    .asg (.nm 10) (.op .Add (.ix (.var 3) (.var 6)) (.prim .int [.cmp .In (.k (.str s_cold)) (.var 9)])),
    .ite (.or (.din true (.var 8) (.var 5)) (.cmp .Lt (.ix (.var 5) (.var 8)) (.var 10))) [
     .set (.var 5) (.var 8) (.var 10)] []]],
  .asg (.nm 3) (.var 5)],
 .ret (.maxv (.var 3))]⟩
def ir_law_k05 : Df := ⟨1, 15, [
 .for_ (.nm 1) .rng [.op .Add (.prim .min [.prim .len [.var 0], .k (.int 3)]) (.k (.int 1))] [
  .asg (.nm 2) (.call n__law_spring [.var 0, .var 1]),
  .asg (.nm 3) (.call n__law_small [.var 2]),
  .par [6, 7] [.call n__law_ways [.var 3], .dic0],
  .for_ (.nm 4) .dat [.var 6] [
   .set (.var 7) (.var 4) (.lst []),
   .for_ (.tup [(.nm 10), (.nm 11), (.nm 12)]) .dat [.ix (.ix (.var 6) (.var 4)) (.k (.int 1))] [
    .ite (.or (.cmp .Eq (.ix (.var 10) (.k (.int 0))) (.k (.int 0))) (.cmp .In (.k (.str s_cold)) (.var 12))) [
     .set (.var 7) (.var 4) (.op .Add (.ix (.var 7) (.var 4)) (.lst [.tup [.var 11, .prim .int [.cmp .In (.k (.str s_cold)) (.var 12)]]]))] []]],
  .fzs 7,
  .ite (.not (.call n__law_twins [.call n_longest_cold [.var 3], .call n__law_most [.var 7, .prim .list [.var 7]]])) [
   .ret (.k (.bl false))] [],
  .for_ (.nm 5) .dat [.lst [.call n__law_pick [.var 2, .k (.int 12)], .ix (.lst [.k (.int 0), .k (.int 20), .k (.int 60)]) (.call n__law_pick [.var 2, .k (.int 3)])]] [
   .asg (.nm 8) (.call n__law_cold [.var 6, .call n__law_begin [.var 3], .var 5]),
   .ite (.not (.call n__law_twins [.call n_cold_draws [.var 3, .var 5], .var 8])) [
    .ret (.k (.bl false))] [],
   .par [4, 13] [.call n__law_begin [.var 3], .k (.int 0)],
   .for_ (.nm 9) .rng [.var 5] [
    .asg (.nm 14) (.call n__law_choices [.var 3, .var 4]),
    .asg (.nm 10) (.ix (.var 14) (.prim .max [.call n__law_pick [.var 2, .prim .len [.var 14]], .call n__law_pick [.var 2, .prim .len [.var 14]]])),
    .asg (.nm 13) (.op .Add (.var 13) (.prim .int [.cmp .In (.k (.str s_cold)) (.call n_told [.var 3, .var 4, .var 10])])),
    .asg (.nm 4) (.ix (.call n__law_tick [.var 3, .var 4, .var 10]) (.k (.int 0)))],
   .ite (.cmp .Gt (.var 13) (.var 8)) [
    .ret (.k (.bl false))] []]],
 .ret (.k (.bl true))]⟩
def ir_reduced : Df := ⟨2, 4, [
 .par [2, 3] [.var 0, .var 1],
 .whl (.cmp .Gt (.var 3) (.k (.int 0))) [
  .par [2, 3] [.var 3, .op .Mod (.var 2) (.var 3)]],
 .ret (.tup [.op .FloorDiv (.var 0) (.var 2), .op .FloorDiv (.var 1) (.var 2)])]⟩
def ir_round_cost : Df := ⟨2, 8, [
 .asg (.nm 2) (.k (.int 0)),
 .for_ (.tup [(.nm 3), (.nm 4)]) .dat [.var 1] [
  .asg (.nm 2) (.op .Add (.var 2) (.ix (.lc (.call n_price [.var 7]) (.tup [(.nm 5), (.nm 6), (.nm 7)]) .dat [.ix (.ix (.var 0) (.var 3)) (.k (.int 1))] (.cmp .Eq (.var 5) (.var 4)) [5, 6, 7]) (.k (.int 0))))],
 .ret (.var 2)]⟩
def ir_best_by : Df := ⟨2, 13, [
 .asg (.tup [(.nm 2), (.nm 3)]) (.tup [.tup [.ite (.cmp .Lt (.var 1) (.k (.int 0))) (.k (.int 3)) (.neg (.k (.int 1))), .k (.int 1)], .k .non]),
 .whl (.k (.bl true)) [
  .asg (.nm 4) (.dic0),
  .for_ (.tup [(.nm 6), (.tup [(.nm 8), (.nm 9)])]) .items [.var 0] [
   .asg (.nm 7) (.lc (.tup [.var 10, .var 11, .op .Mult (.var 1) (.op .Sub (.op .Mult (.call n_price [.var 12]) (.ix (.var 2) (.k (.int 1)))) (.ix (.var 2) (.k (.int 0))))]) (.tup [(.nm 10), (.nm 11), (.nm 12)]) .dat [.var 9] (.k (.bl true)) [10, 11, 12]),
   .set (.var 4) (.var 6) (.var 7)],
  .fzs 4,
  .asg (.nm 5) (.ix (.call n_grown [.var 4, .dzero 6 (.var 0)]) (.k (.int 1))),
  .ite (.cmp .Is (.var 5) (.k .non)) [
   .ret (.tup [.var 2, .var 3])] [],
  .asg (.tup [(.nm 2), (.nm 3)]) (.tup [.call n_reduced [.call n_round_cost [.var 0, .var 5], .prim .len [.var 5]], .var 5])]]⟩
def ir_shown : Df := ⟨2, 4, [
 .ret (.tup [.ix (.ix (.var 0) (.ix (.ix (.var 1) (.k (.int 0))) (.k (.int 0)))) (.k (.int 0)), .prim .tuple [.lc (.var 3) (.tup [(.nm 2), (.nm 3)]) .dat [.var 1] (.k (.bl true)) [2, 3]]])]⟩
def ir_dearest : Df := ⟨1, 1, [
 .exp (.call n_look_at_plan [.var 0]),
 .ret (.ix (.call n_best_by [.call n_net_of [.var 0], .k (.int 1)]) (.k (.int 0)))]⟩
def ir_cheapest : Df := ⟨1, 1, [
 .exp (.call n_look_at_plan [.var 0]),
 .ret (.ix (.call n_best_by [.call n_net_of [.var 0], .neg (.k (.int 1))]) (.k (.int 0)))]⟩
def ir_dear_ring : Df := ⟨1, 2, [
 .exp (.call n_look_at_plan [.var 0]),
 .asg (.nm 1) (.call n_net_of [.var 0]),
 .ret (.call n_shown [.var 1, .ix (.call n_best_by [.var 1, .k (.int 1)]) (.k (.int 1))])]⟩
def ir_cheap_ring : Df := ⟨1, 2, [
 .exp (.call n_look_at_plan [.var 0]),
 .asg (.nm 1) (.call n_net_of [.var 0]),
 .ret (.call n_shown [.var 1, .ix (.call n_best_by [.var 1, .neg (.k (.int 1))]) (.k (.int 1))])]⟩
def ir__law_is_greatest : Df := ⟨3, 12, [
 .asg (.nm 3) (.dic0),
 .for_ (.nm 4) .dat [.var 0] [
  .set (.var 3) (.var 4) (.lst []),
  .for_ (.tup [(.nm 8), (.nm 9), (.nm 10)]) .dat [.ix (.ix (.var 0) (.var 4)) (.k (.int 1))] [
   .set (.var 3) (.var 4) (.op .Add (.ix (.var 3) (.var 4)) (.lst [.tup [.var 9, .op .Mult (.var 1) (.op .Sub (.op .Mult (.call n__law_price [.var 10]) (.ix (.var 2) (.k (.int 1)))) (.ix (.var 2) (.k (.int 0))))]]))]],
 .fzs 3,
 .asg (.nm 5) (.dpairs (.lc (.tup [.var 4, .k (.int 0)]) (.nm 4) .dat [.var 3] (.k (.bl true)) [4])),
 .for_ (.nm 6) .rng [.op .Add (.prim .len [.var 3]) (.k (.int 2))] [
  .asg (.nm 7) (.k (.bl false)),
  .for_ (.nm 4) .dat [.var 3] [
   .for_ (.tup [(.nm 9), (.nm 11)]) .dat [.ix (.var 3) (.var 4)] [
    .ite (.cmp .Lt (.ix (.var 5) (.var 9)) (.op .Add (.ix (.var 5) (.var 4)) (.var 11))) [
     .mul [.sub (.var 5) (.var 9), .nm 7] (.tup [.op .Add (.ix (.var 5) (.var 4)) (.var 11), .k (.bl true)])] []]],
  .ite (.not (.var 7)) [
   .ret (.k (.bl true))] []],
 .ret (.k (.bl false))]⟩
def ir__law_ring_right : Df := ⟨3, 8, [
 .ite (.or (.not (.isi [.tuple] (.var 1))) (.or (.cmp .NotEq (.prim .len [.var 1]) (.k (.int 2))) (.not (.isi [.tuple] (.ix (.var 1) (.k (.int 1))))))) [
  .ret (.k (.bl false))] [],
 .par [5, 6] [.call n__law_begin [.var 0], .k (.int 0)],
 .for_ (.nm 3) .dat [.ix (.var 1) (.k (.int 0))] [
  .ite (.cmp .NotIn (.var 3) (.call n__law_choices [.var 0, .var 5])) [
   .ret (.k (.bl false))] [],
  .asg (.nm 5) (.ix (.call n__law_tick [.var 0, .var 5, .var 3]) (.k (.int 0)))],
 .asg (.nm 4) (.var 5),
 .for_ (.nm 3) .dat [.ix (.var 1) (.k (.int 1))] [
  .ite (.cmp .NotIn (.var 3) (.call n__law_choices [.var 0, .var 5])) [
   .ret (.k (.bl false))] [],
  .asg (.tup [(.nm 5), (.nm 7)]) (.call n__law_tick [.var 0, .var 5, .var 3]),
  .asg (.nm 6) (.op .Add (.var 6) (.call n__law_price [.var 7]))],
 .ret (.and (.cmp .NotEq (.ix (.var 1) (.k (.int 1))) (.tup [])) (.and (.cmp .Eq (.var 5) (.var 4)) (.cmp .Eq (.op .Mult (.var 6) (.ix (.var 2) (.k (.int 1)))) (.op .Mult (.prim .len [.ix (.var 1) (.k (.int 1))]) (.ix (.var 2) (.k (.int 0)))))))]⟩
def ir__law_is_share : Df := ⟨1, 2, [
 .ite (.or (.not (.isi [.tuple] (.var 0))) (.or (.cmp .NotEq (.prim .len [.var 0]) (.k (.int 2))) (.or (.not (.chain .LtE .LtE (.k (.int 0)) (.ix (.var 0) (.k (.int 0))) (.op .Mult (.k (.int 2)) (.ix (.var 0) (.k (.int 1)))))) (.cmp .Lt (.ix (.var 0) (.k (.int 1))) (.k (.int 1)))))) [
  .ret (.k (.bl false))] [],
 .ret (.cmp .Eq (.lc (.var 1) (.nm 1) .rng [.k (.int 2), .op .Add (.ix (.var 0) (.k (.int 1))) (.k (.int 1))] (.and (.cmp .Eq (.op .Mod (.ix (.var 0) (.k (.int 0))) (.var 1)) (.k (.int 0))) (.cmp .Eq (.op .Mod (.ix (.var 0) (.k (.int 1))) (.var 1)) (.k (.int 0)))) [1]) (.lst []))]⟩
def ir_law_k06 : Df := ⟨1, 9, [
 .for_ (.nm 1) .rng [.op .Add (.prim .min [.prim .len [.var 0], .k (.int 2)]) (.k (.int 1))] [
  .asg (.nm 2) (.call n__law_spring [.var 0, .var 1]),
  .asg (.nm 3) (.call n__law_small [.var 2]),
  .par [4, 5] [.call n__law_ways [.var 3], .lst [.tup [.k (.int 1), .call n_dearest [.var 3], .call n_dear_ring [.var 3]]]],
  .for_ (.tup [(.nm 6), (.nm 7), (.nm 8)]) .dat [.op .Add (.var 5) (.lst [.tup [.neg (.k (.int 1)), .call n_cheapest [.var 3], .call n_cheap_ring [.var 3]]])] [
   .ite (.or (.not (.call n__law_is_share [.var 7])) (.not (.call n__law_ring_right [.var 3, .var 8, .var 7]))) [
    .ret (.k (.bl false))] [],
   .ite (.not (.call n__law_is_greatest [.var 4, .var 6, .var 7])) [
    .ret (.k (.bl false))] []]],
 .ret (.k (.bl true))]⟩
def ir_look_at_program : Df := ⟨1, 1, [
 .ite (.not (.call n_is_program [.var 0])) [
  .raise c_InvalidProgram] []]⟩
def ir_pairs_by : Df := ⟨2, 10, [
 .asg (.nm 2) (.op .Add (.sl (.var 0) (.k .non) (.k (.int 3))) (.tup [.var 1, .ix (.var 0) (.k (.int 4))])),
 .par [3, 4] [.dic0, .new [.tup [.call n_begin_of [.var 0], .call n_begin_of [.var 2]]]],
 .whl (.nemp (.var 4)) [
  .asg (.nm 5) (.meth .pop (.var 4) []),
  .ite (.din true (.var 5) (.var 3)) [
   .set (.var 3) (.var 5) (.new []),
   .for_ (.nm 6) .dat [.call n_choices_of [.var 0, .ix (.var 5) (.k (.int 0))]] [
    .par [8, 9] [.call n_passed [.var 0, .ix (.var 5) (.k (.int 0)), .var 6], .call n_passed [.var 2, .ix (.var 5) (.k (.int 1)), .var 6]],
    .asg (.nm 7) (.tup [.ix (.var 8) (.k (.int 0)), .ix (.var 9) (.k (.int 0))]),
    .exp (.meth .append (.ix (.var 3) (.var 5)) [.tup [.var 6, .var 7, .op .Sub (.call n_price [.ix (.var 9) (.k (.int 1))]) (.call n_price [.ix (.var 8) (.k (.int 1))])]]),
    .exp (.meth .append (.var 4) [.var 7])]] []],
 .retz (.var 3)]⟩
def ir_dearer_by : Df := ⟨2, 4, [
 .exp (.call n_look_at_plan [.var 0]),
 .exp (.call n_look_at_program [.var 1]),
 .asg (.nm 2) (.tup [.call n_begin_of [.var 0], .call n_begin_of [.op .Add (.sl (.var 0) (.k .non) (.k (.int 3))) (.tup [.var 1, .ix (.var 0) (.k (.int 4))])]]),
 .asg (.nm 3) (.ix (.call n_grown [.call n_pairs_by [.var 0, .var 1], .dic1 (.var 2) (.k (.int 0))]) (.k (.int 0))),
 .ret (.ite (.cmp .Is (.var 3) (.k .non)) (.k .non) (.maxv (.var 3)))]⟩
def ir__law_pairs : Df := ⟨2, 9, [
 .par [2, 3] [.new [.tup [.call n__law_begin [.var 0], .call n__law_begin [.var 1]]], .dic0],
 .whl (.nemp (.var 2)) [
  .asg (.nm 4) (.meth .pop (.var 2) []),
  .ite (.din true (.var 4) (.var 3)) [
   .set (.var 3) (.var 4) (.new []),
   .for_ (.nm 5) .dat [.call n__law_choices [.var 0, .ix (.var 4) (.k (.int 0))]] [
    .par [7, 8] [.call n__law_tick [.var 0, .ix (.var 4) (.k (.int 0)), .var 5], .call n__law_tick [.var 1, .ix (.var 4) (.k (.int 1)), .var 5]],
    .asg (.nm 6) (.tup [.ix (.var 7) (.k (.int 0)), .ix (.var 8) (.k (.int 0))]),
    .exp (.meth .append (.ix (.var 3) (.var 4)) [.tup [.var 6, .op .Sub (.call n__law_price [.ix (.var 8) (.k (.int 1))]) (.call n__law_price [.ix (.var 7) (.k (.int 1))])]]),
    .exp (.meth .append (.var 2) [.var 6])]] []],
 .retz (.var 3)]⟩
def ir_law_k07 : Df := ⟨1, 12, [
 .for_ (.nm 1) .rng [.op .Add (.prim .min [.prim .len [.var 0], .k (.int 3)]) (.k (.int 1))] [
  .asg (.nm 2) (.call n__law_spring [.var 0, .var 1]),
  .par [6, 7] [.call n__law_small [.var 2], .call n__law_program [.var 2]],
  .asg (.nm 3) (.op .Add (.sl (.var 6) (.k .non) (.k (.int 3))) (.tup [.var 7, .ix (.var 6) (.k (.int 4))])),
  .asg (.nm 4) (.call n__law_most [.call n__law_pairs [.var 6, .var 3], .lst [.tup [.call n__law_begin [.var 6], .call n__law_begin [.var 3]]]]),
  .ite (.not (.call n__law_twins [.call n_dearer_by [.var 6, .var 7], .var 4])) [
   .ret (.k (.bl false))] [],
  .for_ (.nm 5) .rng [.k (.int 4)] [
   .par [9, 10] [.call n__law_begin [.var 6], .tup []],
   .for_ (.nm 8) .rng [.call n__law_pick [.var 2, .k (.int 61)]] [
    .asg (.nm 11) (.call n__law_choices [.var 6, .var 9]),
    .asg (.nm 10) (.op .Add (.var 10) (.tup [.ix (.var 11) (.call n__law_pick [.var 2, .prim .len [.var 11]])])),
    .asg (.nm 9) (.ix (.call n__law_tick [.var 6, .var 9, .ix (.var 10) (.neg (.k (.int 1)))]) (.k (.int 0)))],
   .ite (.and (.cmp .IsNot (.var 4) (.k .non)) (.cmp .Gt (.op .Sub (.call n_cost [.var 3, .var 10]) (.call n_cost [.var 6, .var 10])) (.var 4))) [
    .ret (.k (.bl false))] []]],
 .ret (.k (.bl true))]⟩
def ir_look_at_wishes : Df := ⟨1, 2, [
 .ite (.not (.isi [.tuple] (.var 0))) [
  .raise c_InvalidHarm] [],
 .for_ (.nm 1) .dat [.var 0] [
  .exp (.call n_look_at_harm [.var 1])],
 .ite (.cmp .NotEq (.prim .list [.var 0]) (.sset (.var 0))) [
  .raise c_InvalidHarm] []]⟩
def ir_is_good : Df := ⟨2, 4, [
 .asg (.nm 2) (.call n_harms_by [.var 0]),
 .ret (.not (.prim .any [.lc (.cmp .In (.var 3) (.var 2)) (.nm 3) .dat [.var 1] (.k (.bl true)) [3]]))]⟩
def ir_good_programs : Df := ⟨2, 3, [
 .exp (.call n_look_at_plan [.var 0]),
 .exp (.call n_look_at_wishes [.var 1]),
 .ret (.lc (.var 2) (.nm 2) .dat [.call n_programs_of []] (.call n_is_good [.op .Add (.sl (.var 0) (.k .non) (.k (.int 3))) (.tup [.var 2, .ix (.var 0) (.k (.int 4))]), .var 1]) [2])]⟩
def ir_least_tank : Df := ⟨2, 3, [
 .exp (.call n_look_at_plan [.var 0]),
 .exp (.call n_look_at_wishes [.var 1]),
 .for_ (.nm 2) .rng [.k (.int 1), .k (.int 5)] [
  .ite (.call n_is_good [.op .Add (.tup [.var 2]) (.sl (.var 0) (.k (.int 1)) (.k .non)), .var 1]) [
   .ret (.var 2)] []],
 .ret (.k .non)]⟩
def ir_law_k08 : Df := ⟨1, 16, [
 .for_ (.nm 1) .rng [.k (.int 1)] [
  .asg (.nm 2) (.call n__law_spring [.var 0, .var 1]),
  .asg (.nm 3) (.call n__law_small [.var 2]),
  .asg (.tup [(.nm 7), (.nm 8)]) (.tup [.dic0, .dic0]),
  .for_ (.nm 4) .rng [.k (.int 4)] [
   .for_ (.nm 9) .dat [.lst [.k (.str s_all), .k (.str s_cheap)]] [
    .for_ (.nm 13) .dat [.lst [.k (.bl false), .k (.bl true)]] [
     .set (.var 7) (.tup [.var 4, .var 9, .var 13]) (.call n__law_harms [.op .Add (.sl (.var 3) (.k .non) (.k (.int 3))) (.tup [.tup [.var 4, .var 9, .var 13], .ix (.var 3) (.k (.int 4))])])]]],
  .for_ (.nm 5) .rng [.k (.int 1), .k (.int 5)] [
   .set (.var 8) (.var 5) (.call n__law_harms [.op .Add (.tup [.var 5]) (.sl (.var 3) (.k (.int 1)) (.k .non))])],
  .fzs 7,
  .fzs 8,
  .for_ (.nm 6) .rng [.k (.int 2)] [
   .asg (.nm 10) (.sl (.lc (.var 15) (.nm 15) .dat [.lst [.k (.str s_cold), .k (.str s_dear), .k (.str s_empty), .k (.str s_lost)]] (.cmp .Eq (.call n__law_pick [.var 2, .k (.int 2)]) (.k (.int 0))) [15]) (.k .non) (.op .Sub (.k (.int 2)) (.var 6))),
   .asg (.nm 11) (.lc (.var 14) (.nm 14) .dat [.var 7] (.cmp .Eq (.lc (.var 15) (.nm 15) .dat [.var 10] (.cmp .In (.var 15) (.ix (.var 7) (.var 14))) [15]) (.lst [])) [14]),
   .asg (.nm 12) (.op .Add (.lc (.var 14) (.nm 14) .dat [.var 8] (.cmp .Eq (.lc (.var 15) (.nm 15) .dat [.var 10] (.cmp .In (.var 15) (.ix (.var 8) (.var 14))) [15]) (.lst [])) [14]) (.lst [.k .non])),
   .ite (.not (.call n__law_twins [.call n_good_programs [.var 3, .prim .tuple [.var 10]], .var 11])) [
    .ret (.k (.bl false))] [],
   .ite (.not (.call n__law_twins [.call n_least_tank [.var 3, .prim .tuple [.var 10]], .ix (.var 12) (.k (.int 0))])) [
    .ret (.k (.bl false))] []]],
 .ret (.k (.bl true))]⟩
def ir_parting_by : Df := ⟨2, 14, [
 .asg (.nm 2) (.op .Add (.sl (.var 0) (.k .non) (.k (.int 3))) (.tup [.var 1, .ix (.var 0) (.k (.int 4))])),
 .asg (.nm 3) (.tup [.call n_begin_of [.var 0], .call n_begin_of [.var 2]]),
 .par [4, 5, 6] [.dic1 (.var 3) (.tup []), .new [.var 3], .k (.int 0)],
 .whl (.cmp .Lt (.var 6) (.prim .len [.var 5])) [
  .asg (.tup [(.nm 9), (.nm 10)]) (.ix (.var 5) (.var 6)),
  .asg (.nm 7) (.ix (.var 4) (.ix (.var 5) (.var 6))),
  .asg (.nm 6) (.op .Add (.var 6) (.k (.int 1))),
  .for_ (.nm 8) .dat [.call n_choices_of [.var 0, .var 9]] [
   .par [12, 13] [.call n_passed [.var 0, .var 9, .var 8], .call n_passed [.var 2, .var 10, .var 8]],
   .ite (.cmp .NotEq (.ix (.var 12) (.k (.int 1))) (.ix (.var 13) (.k (.int 1)))) [
    .ret (.op .Add (.var 7) (.tup [.var 8]))] [],
   .asg (.nm 11) (.tup [.ix (.var 12) (.k (.int 0)), .ix (.var 13) (.k (.int 0))]),
   .ite (.din true (.var 11) (.var 4)) [
    .set (.var 4) (.var 11) (.op .Add (.var 7) (.tup [.var 8])),
    .exp (.meth .append (.var 5) [.var 11])] []]],
 .ret (.k .non)]⟩
def ir_alike : Df := ⟨2, 2, [
 .exp (.call n_look_at_plan [.var 0]),
 .exp (.call n_look_at_program [.var 1]),
 .ret (.cmp .Is (.call n_parting_by [.var 0, .var 1]) (.k .non))]⟩
def ir_parting : Df := ⟨2, 2, [
 .exp (.call n_look_at_plan [.var 0]),
 .exp (.call n_look_at_program [.var 1]),
 .ret (.call n_parting_by [.var 0, .var 1])]⟩
def ir__law_parting : Df := ⟨2, 12, [
 .asg (.nm 2) (.tup [.call n__law_begin [.var 0], .call n__law_begin [.var 1]]),
 .par [3, 4, 5] [.dic1 (.var 2) (.tup []), .new [.var 2], .k (.int 0)],
 .whl (.cmp .Lt (.var 5) (.prim .len [.var 4])) [
  .asg (.tup [(.nm 7), (.nm 8)]) (.ix (.var 4) (.var 5)),
  .par [9, 5] [.ix (.var 3) (.ix (.var 4) (.var 5)), .op .Add (.var 5) (.k (.int 1))],
  .for_ (.nm 6) .dat [.call n__law_choices [.var 0, .var 7]] [
   .asg (.nm 10) (.call n__law_tick [.var 0, .var 7, .var 6]),
   .asg (.nm 11) (.call n__law_tick [.var 1, .var 8, .var 6]),
   .ite (.cmp .NotEq (.ix (.var 10) (.k (.int 1))) (.ix (.var 11) (.k (.int 1)))) [
    .ret (.op .Add (.var 9) (.tup [.var 6]))] [],
   .ite (.din true (.tup [.ix (.var 10) (.k (.int 0)), .ix (.var 11) (.k (.int 0))]) (.var 3)) [
    .set (.var 3) (.tup [.ix (.var 10) (.k (.int 0)), .ix (.var 11) (.k (.int 0))]) (.op .Add (.var 9) (.tup [.var 6])),
    .exp (.meth .append (.var 4) [.tup [.ix (.var 10) (.k (.int 0)), .ix (.var 11) (.k (.int 0))]])] []]],
 .ret (.k .non)]⟩
def ir_law_k09 : Df := ⟨1, 10, [
 .for_ (.nm 1) .rng [.op .Add (.prim .min [.prim .len [.var 0], .k (.int 3)]) (.k (.int 1))] [
  .asg (.nm 2) (.call n__law_spring [.var 0, .var 1]),
  .asg (.nm 3) (.call n__law_small [.var 2]),
  .asg (.tup [(.nm 5), (.nm 6), (.nm 7)]) (.ix (.var 3) (.k (.int 3))),
  .for_ (.nm 4) .dat [.lst [.tup [.op .Mod (.op .Add (.var 5) (.k (.int 1))) (.k (.int 4)), .var 6, .var 7], .tup [.var 5, .var 6, .not (.var 7)], .call n__law_program [.var 2], .ix (.var 3) (.k (.int 3))]] [
   .asg (.nm 8) (.op .Add (.sl (.var 3) (.k .non) (.k (.int 3))) (.tup [.var 4, .ix (.var 3) (.k (.int 4))])),
   .asg (.nm 9) (.call n__law_parting [.var 3, .var 8]),
   .ite (.not (.call n__law_twins [.lst [.call n_alike [.var 3, .var 4], .call n_parting [.var 3, .var 4]], .lst [.cmp .Is (.var 9) (.k .non), .var 9]])) [
    .ret (.k (.bl false))] [],
   .ite (.cmp .Is (.var 9) (.k .non)) [
    .ite (.not (.call n__law_twins [.lst [.call n_harms [.var 3], .call n_dearest [.var 3]], .lst [.call n_harms [.var 8], .call n_dearest [.var 8]]])) [
     .ret (.k (.bl false))] [],
    .ite (.not (.call n__law_twins [.lst [.call n_cheapest [.var 3], .call n_dearer_by [.var 3, .var 4]], .lst [.call n_cheapest [.var 8], .k (.int 0)]])) [
     .ret (.k (.bl false))] []] []]],
 .ret (.k (.bl true))]⟩
def tab : Nat → Option Df
  | 1 => some ir_is_within
  | 2 => some ir_is_row
  | 3 => some ir_is_program
  | 4 => some ir_is_plan
  | 5 => some ir_look_at_plan
  | 6 => some ir_fits
  | 7 => some ir_is_stand
  | 8 => some ir_look_at_stand
  | 9 => some ir_drawn
  | 10 => some ir_passed
  | 11 => some ir_choices_of
  | 12 => some ir_is_like
  | 13 => some ir_look_at_choice
  | 14 => some ir_choices_at
  | 15 => some ir_after
  | 16 => some ir_told
  | 17 => some ir__law_spring
  | 18 => some ir__law_pick
  | 19 => some ir__law_kind
  | 20 => some ir__law_twins
  | 21 => some ir__law_program
  | 22 => some ir__law_plan
  | 23 => some ir__law_tick
  | 24 => some ir__law_choices
  | 25 => some ir__law_any_stand
  | 26 => some ir_law_k03
  | 30 => some ir_programs_of
  | 31 => some ir_all_programs
  | 32 => some ir_begin_of
  | 33 => some ir_first_stand
  | 34 => some ir__law_begin
  | 35 => some ir__law_int
  | 36 => some ir__law_made
  | 37 => some ir__law_good_program
  | 38 => some ir__law_good_plan
  | 39 => some ir__law_good_stand
  | 40 => some ir__law_bent
  | 41 => some ir_law_k01
  | 42 => some ir_steps_of
  | 43 => some ir_fits_run
  | 44 => some ir_look_at_run
  | 45 => some ir_price
  | 46 => some ir_is_run
  | 47 => some ir_stand_behind
  | 48 => some ir_cost
  | 49 => some ir__law_price
  | 50 => some ir_law_k02
  | 52 => some ir_look_at_harm
  | 53 => some ir_net_of
  | 54 => some ir_firsts_by
  | 55 => some ir_harms_by
  | 56 => some ir_count_stands
  | 57 => some ir_run_to
  | 58 => some ir_harms
  | 59 => some ir_first_harm
  | 60 => some ir__law_small
  | 61 => some ir__law_ways
  | 62 => some ir__law_firsts
  | 63 => some ir__law_harms
  | 64 => some ir_law_k04
  | 66 => some ir_look_at_ticks
  | 67 => some ir_ring_along
  | 68 => some ir_grown
  | 69 => some ir_cold_rows
  | 70 => some ir_cold_draws
  | 71 => some ir_longest_cold
  | 72 => some ir__law_most
  | 73 => some ir__law_cold
  | 74 => some ir_law_k05
  | 76 => some ir_reduced
  | 77 => some ir_round_cost
  | 78 => some ir_best_by
  | 79 => some ir_shown
  | 80 => some ir_dearest
  | 81 => some ir_cheapest
  | 82 => some ir_dear_ring
  | 83 => some ir_cheap_ring
  | 84 => some ir__law_is_greatest
  | 85 => some ir__law_ring_right
  | 86 => some ir__law_is_share
  | 87 => some ir_law_k06
  | 88 => some ir_look_at_program
  | 89 => some ir_pairs_by
  | 90 => some ir_dearer_by
  | 91 => some ir__law_pairs
  | 92 => some ir_law_k07
  | 94 => some ir_look_at_wishes
  | 95 => some ir_is_good
  | 96 => some ir_good_programs
  | 97 => some ir_least_tank
  | 98 => some ir_law_k08
  | 99 => some ir_parting_by
  | 100 => some ir_alike
  | 101 => some ir_parting
  | 102 => some ir__law_parting
  | 103 => some ir_law_k09
  | _ => none
theorem u_is_within (k : Nat) (p_value p_low p_high : D) (S : Store) : callF tab (k + 1) n_is_within [p_value, p_low, p_high] S = leave S.length (exL (callF tab k) ir_is_within.body [some p_value, some p_low, some p_high] S) := rfl
theorem u_is_row (k : Nat) (p_value p_many : D) (S : Store) : callF tab (k + 1) n_is_row [p_value, p_many] S = leave S.length (exL (callF tab k) ir_is_row.body [some p_value, some p_many] S) := rfl
theorem u_is_program (k : Nat) (p_value : D) (S : Store) : callF tab (k + 1) n_is_program [p_value] S = leave S.length (exL (callF tab k) ir_is_program.body [some p_value] S) := rfl
theorem u_is_plan (k : Nat) (p_value : D) (S : Store) : callF tab (k + 1) n_is_plan [p_value] S = leave S.length (exL (callF tab k) ir_is_plan.body [some p_value] S) := rfl
theorem u_look_at_plan (k : Nat) (p_plan : D) (S : Store) : callF tab (k + 1) n_look_at_plan [p_plan] S = leave S.length (exL (callF tab k) ir_look_at_plan.body [some p_plan] S) := rfl
theorem u_fits (k : Nat) (p_plan p_value : D) (S : Store) : callF tab (k + 1) n_fits [p_plan, p_value] S = leave S.length (exL (callF tab k) ir_fits.body [some p_plan, some p_value, none, none, none, none, none, none] S) := rfl
theorem u_is_stand (k : Nat) (p_plan p_value : D) (S : Store) : callF tab (k + 1) n_is_stand [p_plan, p_value] S = leave S.length (exL (callF tab k) ir_is_stand.body [some p_plan, some p_value] S) := rfl
theorem u_look_at_stand (k : Nat) (p_plan p_stand : D) (S : Store) : callF tab (k + 1) n_look_at_stand [p_plan, p_stand] S = leave S.length (exL (callF tab k) ir_look_at_stand.body [some p_plan, some p_stand] S) := rfl
theorem u_drawn (k : Nat) (p_plan p_stand p_draw : D) (S : Store) : callF tab (k + 1) n_drawn [p_plan, p_stand, p_draw] S = leave S.length (exL (callF tab k) ir_drawn.body [some p_plan, some p_stand, some p_draw, none, none, none, none, none, none, none, none, none] S) := rfl
theorem u_passed (k : Nat) (p_plan p_stand p_choice : D) (S : Store) : callF tab (k + 1) n_passed [p_plan, p_stand, p_choice] S = leave S.length (exL (callF tab k) ir_passed.body [some p_plan, some p_stand, some p_choice, none, none, none, none, none, none, none, none, none, none, none, none, none, none, none, none] S) := rfl
theorem u_choices_of (k : Nat) (p_plan p_stand : D) (S : Store) : callF tab (k + 1) n_choices_of [p_plan, p_stand] S = leave S.length (exL (callF tab k) ir_choices_of.body [some p_plan, some p_stand, none, none, none, none] S) := rfl
theorem u_is_like (k : Nat) (p_value p_some : D) (S : Store) : callF tab (k + 1) n_is_like [p_value, p_some] S = leave S.length (exL (callF tab k) ir_is_like.body [some p_value, some p_some] S) := rfl
theorem u_look_at_choice (k : Nat) (p_plan p_stand p_choice : D) (S : Store) : callF tab (k + 1) n_look_at_choice [p_plan, p_stand, p_choice] S = leave S.length (exL (callF tab k) ir_look_at_choice.body [some p_plan, some p_stand, some p_choice] S) := rfl
theorem u_choices_at (k : Nat) (p_plan p_stand : D) (S : Store) : callF tab (k + 1) n_choices_at [p_plan, p_stand] S = leave S.length (exL (callF tab k) ir_choices_at.body [some p_plan, some p_stand] S) := rfl
theorem u_after (k : Nat) (p_plan p_stand p_choice : D) (S : Store) : callF tab (k + 1) n_after [p_plan, p_stand, p_choice] S = leave S.length (exL (callF tab k) ir_after.body [some p_plan, some p_stand, some p_choice] S) := rfl
theorem u_told (k : Nat) (p_plan p_stand p_choice : D) (S : Store) : callF tab (k + 1) n_told [p_plan, p_stand, p_choice] S = leave S.length (exL (callF tab k) ir_told.body [some p_plan, some p_stand, some p_choice] S) := rfl
theorem u__law_spring (k : Nat) (p_script p_at : D) (S : Store) : callF tab (k + 1) n__law_spring [p_script, p_at] S = leave S.length (exL (callF tab k) ir__law_spring.body [some p_script, some p_at, none, none] S) := rfl
theorem u__law_pick (k : Nat) (p_spring p_many : D) (S : Store) : callF tab (k + 1) n__law_pick [p_spring, p_many] S = leave S.length (exL (callF tab k) ir__law_pick.body [some p_spring, some p_many, none] S) := rfl
theorem u__law_kind (k : Nat) (p_value : D) (S : Store) : callF tab (k + 1) n__law_kind [p_value] S = leave S.length (exL (callF tab k) ir__law_kind.body [some p_value] S) := rfl
theorem u__law_twins (k : Nat) (p_one p_other : D) (S : Store) : callF tab (k + 1) n__law_twins [p_one, p_other] S = leave S.length (exL (callF tab k) ir__law_twins.body [some p_one, some p_other, none, none] S) := rfl
theorem u__law_program (k : Nat) (p_spring : D) (S : Store) : callF tab (k + 1) n__law_program [p_spring] S = leave S.length (exL (callF tab k) ir__law_program.body [some p_spring, none] S) := rfl
theorem u__law_plan (k : Nat) (p_spring : D) (S : Store) : callF tab (k + 1) n__law_plan [p_spring] S = leave S.length (exL (callF tab k) ir__law_plan.body [some p_spring, none, none, none] S) := rfl
theorem u__law_tick (k : Nat) (p_plan p_stand p_choice : D) (S : Store) : callF tab (k + 1) n__law_tick [p_plan, p_stand, p_choice] S = leave S.length (exL (callF tab k) ir__law_tick.body [some p_plan, some p_stand, some p_choice, none, none, none, none, none, none, none, none, none, none, none, none, none, none, none, none, none, none] S) := rfl
theorem u__law_choices (k : Nat) (p_plan p_stand : D) (S : Store) : callF tab (k + 1) n__law_choices [p_plan, p_stand] S = leave S.length (exL (callF tab k) ir__law_choices.body [some p_plan, some p_stand, none, none] S) := rfl
theorem u__law_any_stand (k : Nat) (p_spring p_plan : D) (S : Store) : callF tab (k + 1) n__law_any_stand [p_spring, p_plan] S = leave S.length (exL (callF tab k) ir__law_any_stand.body [some p_spring, some p_plan, none, none, none, none, none, none, none, none, none, none, none, none] S) := rfl
theorem u_law_k03 (k : Nat) (p_script : D) (S : Store) : callF tab (k + 1) n_law_k03 [p_script] S = leave S.length (exL (callF tab k) ir_law_k03.body [some p_script, none, none, none, none, none, none, none, none] S) := rfl
theorem u_programs_of (k : Nat) (S : Store) : callF tab (k + 1) n_programs_of [] S = leave S.length (exL (callF tab k) ir_programs_of.body [none, none, none] S) := rfl
theorem u_all_programs (k : Nat) (S : Store) : callF tab (k + 1) n_all_programs [] S = leave S.length (exL (callF tab k) ir_all_programs.body [] S) := rfl
theorem u_begin_of (k : Nat) (p_plan : D) (S : Store) : callF tab (k + 1) n_begin_of [p_plan] S = leave S.length (exL (callF tab k) ir_begin_of.body [some p_plan] S) := rfl
theorem u_first_stand (k : Nat) (p_plan : D) (S : Store) : callF tab (k + 1) n_first_stand [p_plan] S = leave S.length (exL (callF tab k) ir_first_stand.body [some p_plan] S) := rfl
theorem u__law_begin (k : Nat) (p_plan : D) (S : Store) : callF tab (k + 1) n__law_begin [p_plan] S = leave S.length (exL (callF tab k) ir__law_begin.body [some p_plan] S) := rfl
theorem u__law_int (k : Nat) (p_value p_low p_high : D) (S : Store) : callF tab (k + 1) n__law_int [p_value, p_low, p_high] S = leave S.length (exL (callF tab k) ir__law_int.body [some p_value, some p_low, some p_high] S) := rfl
theorem u__law_made (k : Nat) (p_value p_many : D) (S : Store) : callF tab (k + 1) n__law_made [p_value, p_many] S = leave S.length (exL (callF tab k) ir__law_made.body [some p_value, some p_many] S) := rfl
theorem u__law_good_program (k : Nat) (p_value : D) (S : Store) : callF tab (k + 1) n__law_good_program [p_value] S = leave S.length (exL (callF tab k) ir__law_good_program.body [some p_value] S) := rfl
theorem u__law_good_plan (k : Nat) (p_value : D) (S : Store) : callF tab (k + 1) n__law_good_plan [p_value] S = leave S.length (exL (callF tab k) ir__law_good_plan.body [some p_value] S) := rfl
theorem u__law_good_stand (k : Nat) (p_plan p_value : D) (S : Store) : callF tab (k + 1) n__law_good_stand [p_plan, p_value] S = leave S.length (exL (callF tab k) ir__law_good_stand.body [some p_plan, some p_value, none, none, none, none, none, none, none, none, none] S) := rfl
theorem u__law_bent (k : Nat) (p_spring p_value : D) (S : Store) : callF tab (k + 1) n__law_bent [p_spring, p_value] S = leave S.length (exL (callF tab k) ir__law_bent.body [some p_spring, some p_value, none, none, none] S) := rfl
theorem u_law_k01 (k : Nat) (p_script : D) (S : Store) : callF tab (k + 1) n_law_k01 [p_script] S = leave S.length (exL (callF tab k) ir_law_k01.body [some p_script, none, none, none, none, none, none, none, none, none, none, none] S) := rfl
theorem u_steps_of (k : Nat) (p_plan p_stand p_choices : D) (S : Store) : callF tab (k + 1) n_steps_of [p_plan, p_stand, p_choices] S = leave S.length (exL (callF tab k) ir_steps_of.body [some p_plan, some p_stand, some p_choices, none, none] S) := rfl
theorem u_fits_run (k : Nat) (p_plan p_value : D) (S : Store) : callF tab (k + 1) n_fits_run [p_plan, p_value] S = leave S.length (exL (callF tab k) ir_fits_run.body [some p_plan, some p_value] S) := rfl
theorem u_look_at_run (k : Nat) (p_plan p_run : D) (S : Store) : callF tab (k + 1) n_look_at_run [p_plan, p_run] S = leave S.length (exL (callF tab k) ir_look_at_run.body [some p_plan, some p_run] S) := rfl
theorem u_price (k : Nat) (p_words : D) (S : Store) : callF tab (k + 1) n_price [p_words] S = leave S.length (exL (callF tab k) ir_price.body [some p_words] S) := rfl
theorem u_is_run (k : Nat) (p_plan p_value : D) (S : Store) : callF tab (k + 1) n_is_run [p_plan, p_value] S = leave S.length (exL (callF tab k) ir_is_run.body [some p_plan, some p_value] S) := rfl
theorem u_stand_behind (k : Nat) (p_plan p_run : D) (S : Store) : callF tab (k + 1) n_stand_behind [p_plan, p_run] S = leave S.length (exL (callF tab k) ir_stand_behind.body [some p_plan, some p_run] S) := rfl
theorem u_cost (k : Nat) (p_plan p_run : D) (S : Store) : callF tab (k + 1) n_cost [p_plan, p_run] S = leave S.length (exL (callF tab k) ir_cost.body [some p_plan, some p_run, none, none] S) := rfl
theorem u__law_price (k : Nat) (p_words_so : D) (S : Store) : callF tab (k + 1) n__law_price [p_words_so] S = leave S.length (exL (callF tab k) ir__law_price.body [some p_words_so, none] S) := rfl
theorem u_law_k02 (k : Nat) (p_script : D) (S : Store) : callF tab (k + 1) n_law_k02 [p_script] S = leave S.length (exL (callF tab k) ir_law_k02.body [some p_script, none, none, none, none, none, none, none, none, none, none, none, none, none, none, none, none] S) := rfl
theorem u_look_at_harm (k : Nat) (p_harm : D) (S : Store) : callF tab (k + 1) n_look_at_harm [p_harm] S = leave S.length (exL (callF tab k) ir_look_at_harm.body [some p_harm] S) := rfl
theorem u_net_of (k : Nat) (p_plan : D) (S : Store) : callF tab (k + 1) n_net_of [p_plan] S = leave S.length (exL (callF tab k) ir_net_of.body [some p_plan, none, none, none, none, none, none, none, none, none, none] S) := rfl
theorem u_firsts_by (k : Nat) (p_plan : D) (S : Store) : callF tab (k + 1) n_firsts_by [p_plan] S = leave S.length (exL (callF tab k) ir_firsts_by.body [some p_plan, none, none, none, none, none, none, none] S) := rfl
theorem u_harms_by (k : Nat) (p_plan : D) (S : Store) : callF tab (k + 1) n_harms_by [p_plan] S = leave S.length (exL (callF tab k) ir_harms_by.body [some p_plan, none, none] S) := rfl
theorem u_count_stands (k : Nat) (p_plan : D) (S : Store) : callF tab (k + 1) n_count_stands [p_plan] S = leave S.length (exL (callF tab k) ir_count_stands.body [some p_plan] S) := rfl
theorem u_run_to (k : Nat) (p_plan p_stand : D) (S : Store) : callF tab (k + 1) n_run_to [p_plan, p_stand] S = leave S.length (exL (callF tab k) ir_run_to.body [some p_plan, some p_stand, none] S) := rfl
theorem u_harms (k : Nat) (p_plan : D) (S : Store) : callF tab (k + 1) n_harms [p_plan] S = leave S.length (exL (callF tab k) ir_harms.body [some p_plan] S) := rfl
theorem u_first_harm (k : Nat) (p_plan p_harm : D) (S : Store) : callF tab (k + 1) n_first_harm [p_plan, p_harm] S = leave S.length (exL (callF tab k) ir_first_harm.body [some p_plan, some p_harm] S) := rfl
theorem u__law_small (k : Nat) (p_spring : D) (S : Store) : callF tab (k + 1) n__law_small [p_spring] S = leave S.length (exL (callF tab k) ir__law_small.body [some p_spring, none, none, none, none, none] S) := rfl
theorem u__law_ways (k : Nat) (p_plan : D) (S : Store) : callF tab (k + 1) n__law_ways [p_plan] S = leave S.length (exL (callF tab k) ir__law_ways.body [some p_plan, none, none, none, none, none, none, none, none] S) := rfl
theorem u__law_firsts (k : Nat) (p_plan : D) (S : Store) : callF tab (k + 1) n__law_firsts [p_plan] S = leave S.length (exL (callF tab k) ir__law_firsts.body [some p_plan, none, none, none, none, none, none, none] S) := rfl
theorem u__law_harms (k : Nat) (p_plan : D) (S : Store) : callF tab (k + 1) n__law_harms [p_plan] S = leave S.length (exL (callF tab k) ir__law_harms.body [some p_plan, none, none] S) := rfl
theorem u_law_k04 (k : Nat) (p_script : D) (S : Store) : callF tab (k + 1) n_law_k04 [p_script] S = leave S.length (exL (callF tab k) ir_law_k04.body [some p_script, none, none, none, none, none, none, none, none, none, none, none] S) := rfl
theorem u_look_at_ticks (k : Nat) (p_ticks : D) (S : Store) : callF tab (k + 1) n_look_at_ticks [p_ticks] S = leave S.length (exL (callF tab k) ir_look_at_ticks.body [some p_ticks] S) := rfl
theorem u_ring_along (k : Nat) (p_ahead p_stand : D) (S : Store) : callF tab (k + 1) n_ring_along [p_ahead, p_stand] S = leave S.length (exL (callF tab k) ir_ring_along.body [some p_ahead, some p_stand, none, none] S) := rfl
theorem u_grown (k : Nat) (p_rows p_high : D) (S : Store) : callF tab (k + 1) n_grown [p_rows, p_high] S = leave S.length (exL (callF tab k) ir_grown.body [some p_rows, some p_high, none, none, none, none, none, none, none, none] S) := rfl
theorem u_cold_rows (k : Nat) (p_net : D) (S : Store) : callF tab (k + 1) n_cold_rows [p_net] S = leave S.length (exL (callF tab k) ir_cold_rows.body [some p_net, none, none, none, none, none, none, none, none, none] S) := rfl
theorem u_cold_draws (k : Nat) (p_plan p_ticks : D) (S : Store) : callF tab (k + 1) n_cold_draws [p_plan, p_ticks] S = leave S.length (exL (callF tab k) ir_cold_draws.body [some p_plan, some p_ticks, none, none, none, none, none, none, none, none, none] S) := rfl
theorem u_longest_cold (k : Nat) (p_plan : D) (S : Store) : callF tab (k + 1) n_longest_cold [p_plan] S = leave S.length (exL (callF tab k) ir_longest_cold.body [some p_plan, none, none, none] S) := rfl
theorem u__law_most (k : Nat) (p_rows p_begins : D) (S : Store) : callF tab (k + 1) n__law_most [p_rows, p_begins] S = leave S.length (exL (callF tab k) ir__law_most.body [some p_rows, some p_begins, none, none, none, none, none, none] S) := rfl
theorem u__law_cold (k : Nat) (p_ways p_begin p_ticks : D) (S : Store) : callF tab (k + 1) n__law_cold [p_ways, p_begin, p_ticks] S = leave S.length (exL (callF tab k) ir__law_cold.body [some p_ways, some p_begin, some p_ticks, none, none, none, none, none, none, none, none] S) := rfl
theorem u_law_k05 (k : Nat) (p_script : D) (S : Store) : callF tab (k + 1) n_law_k05 [p_script] S = leave S.length (exL (callF tab k) ir_law_k05.body [some p_script, none, none, none, none, none, none, none, none, none, none, none, none, none, none] S) := rfl
theorem u_reduced (k : Nat) (p_top p_below : D) (S : Store) : callF tab (k + 1) n_reduced [p_top, p_below] S = leave S.length (exL (callF tab k) ir_reduced.body [some p_top, some p_below, none, none] S) := rfl
theorem u_round_cost (k : Nat) (p_net p_ring : D) (S : Store) : callF tab (k + 1) n_round_cost [p_net, p_ring] S = leave S.length (exL (callF tab k) ir_round_cost.body [some p_net, some p_ring, none, none, none, none, none, none] S) := rfl
theorem u_best_by (k : Nat) (p_net p_side : D) (S : Store) : callF tab (k + 1) n_best_by [p_net, p_side] S = leave S.length (exL (callF tab k) ir_best_by.body [some p_net, some p_side, none, none, none, none, none, none, none, none, none, none, none] S) := rfl
theorem u_shown (k : Nat) (p_net p_ring : D) (S : Store) : callF tab (k + 1) n_shown [p_net, p_ring] S = leave S.length (exL (callF tab k) ir_shown.body [some p_net, some p_ring, none, none] S) := rfl
theorem u_dearest (k : Nat) (p_plan : D) (S : Store) : callF tab (k + 1) n_dearest [p_plan] S = leave S.length (exL (callF tab k) ir_dearest.body [some p_plan] S) := rfl
theorem u_cheapest (k : Nat) (p_plan : D) (S : Store) : callF tab (k + 1) n_cheapest [p_plan] S = leave S.length (exL (callF tab k) ir_cheapest.body [some p_plan] S) := rfl
theorem u_dear_ring (k : Nat) (p_plan : D) (S : Store) : callF tab (k + 1) n_dear_ring [p_plan] S = leave S.length (exL (callF tab k) ir_dear_ring.body [some p_plan, none] S) := rfl
theorem u_cheap_ring (k : Nat) (p_plan : D) (S : Store) : callF tab (k + 1) n_cheap_ring [p_plan] S = leave S.length (exL (callF tab k) ir_cheap_ring.body [some p_plan, none] S) := rfl
theorem u__law_is_greatest (k : Nat) (p_ways p_side p_share : D) (S : Store) : callF tab (k + 1) n__law_is_greatest [p_ways, p_side, p_share] S = leave S.length (exL (callF tab k) ir__law_is_greatest.body [some p_ways, some p_side, some p_share, none, none, none, none, none, none, none, none, none] S) := rfl
theorem u__law_ring_right (k : Nat) (p_plan p_seen p_share : D) (S : Store) : callF tab (k + 1) n__law_ring_right [p_plan, p_seen, p_share] S = leave S.length (exL (callF tab k) ir__law_ring_right.body [some p_plan, some p_seen, some p_share, none, none, none, none, none] S) := rfl
theorem u__law_is_share (k : Nat) (p_value : D) (S : Store) : callF tab (k + 1) n__law_is_share [p_value] S = leave S.length (exL (callF tab k) ir__law_is_share.body [some p_value, none] S) := rfl
theorem u_law_k06 (k : Nat) (p_script : D) (S : Store) : callF tab (k + 1) n_law_k06 [p_script] S = leave S.length (exL (callF tab k) ir_law_k06.body [some p_script, none, none, none, none, none, none, none, none] S) := rfl
theorem u_look_at_program (k : Nat) (p_program : D) (S : Store) : callF tab (k + 1) n_look_at_program [p_program] S = leave S.length (exL (callF tab k) ir_look_at_program.body [some p_program] S) := rfl
theorem u_pairs_by (k : Nat) (p_plan p_program : D) (S : Store) : callF tab (k + 1) n_pairs_by [p_plan, p_program] S = leave S.length (exL (callF tab k) ir_pairs_by.body [some p_plan, some p_program, none, none, none, none, none, none, none, none] S) := rfl
theorem u_dearer_by (k : Nat) (p_plan p_program : D) (S : Store) : callF tab (k + 1) n_dearer_by [p_plan, p_program] S = leave S.length (exL (callF tab k) ir_dearer_by.body [some p_plan, some p_program, none, none] S) := rfl
theorem u__law_pairs (k : Nat) (p_plan p_other : D) (S : Store) : callF tab (k + 1) n__law_pairs [p_plan, p_other] S = leave S.length (exL (callF tab k) ir__law_pairs.body [some p_plan, some p_other, none, none, none, none, none, none, none] S) := rfl
theorem u_law_k07 (k : Nat) (p_script : D) (S : Store) : callF tab (k + 1) n_law_k07 [p_script] S = leave S.length (exL (callF tab k) ir_law_k07.body [some p_script, none, none, none, none, none, none, none, none, none, none, none] S) := rfl
theorem u_look_at_wishes (k : Nat) (p_wishes : D) (S : Store) : callF tab (k + 1) n_look_at_wishes [p_wishes] S = leave S.length (exL (callF tab k) ir_look_at_wishes.body [some p_wishes, none] S) := rfl
theorem u_is_good (k : Nat) (p_plan p_wishes : D) (S : Store) : callF tab (k + 1) n_is_good [p_plan, p_wishes] S = leave S.length (exL (callF tab k) ir_is_good.body [some p_plan, some p_wishes, none, none] S) := rfl
theorem u_good_programs (k : Nat) (p_plan p_wishes : D) (S : Store) : callF tab (k + 1) n_good_programs [p_plan, p_wishes] S = leave S.length (exL (callF tab k) ir_good_programs.body [some p_plan, some p_wishes, none] S) := rfl
theorem u_least_tank (k : Nat) (p_plan p_wishes : D) (S : Store) : callF tab (k + 1) n_least_tank [p_plan, p_wishes] S = leave S.length (exL (callF tab k) ir_least_tank.body [some p_plan, some p_wishes, none] S) := rfl
theorem u_law_k08 (k : Nat) (p_script : D) (S : Store) : callF tab (k + 1) n_law_k08 [p_script] S = leave S.length (exL (callF tab k) ir_law_k08.body [some p_script, none, none, none, none, none, none, none, none, none, none, none, none, none, none, none] S) := rfl
theorem u_parting_by (k : Nat) (p_plan p_program : D) (S : Store) : callF tab (k + 1) n_parting_by [p_plan, p_program] S = leave S.length (exL (callF tab k) ir_parting_by.body [some p_plan, some p_program, none, none, none, none, none, none, none, none, none, none, none, none] S) := rfl
theorem u_alike (k : Nat) (p_plan p_program : D) (S : Store) : callF tab (k + 1) n_alike [p_plan, p_program] S = leave S.length (exL (callF tab k) ir_alike.body [some p_plan, some p_program] S) := rfl
theorem u_parting (k : Nat) (p_plan p_program : D) (S : Store) : callF tab (k + 1) n_parting [p_plan, p_program] S = leave S.length (exL (callF tab k) ir_parting.body [some p_plan, some p_program] S) := rfl
theorem u__law_parting (k : Nat) (p_plan p_other : D) (S : Store) : callF tab (k + 1) n__law_parting [p_plan, p_other] S = leave S.length (exL (callF tab k) ir__law_parting.body [some p_plan, some p_other, none, none, none, none, none, none, none, none, none, none] S) := rfl
theorem u_law_k09 (k : Nat) (p_script : D) (S : Store) : callF tab (k + 1) n_law_k09 [p_script] S = leave S.length (exL (callF tab k) ir_law_k09.body [some p_script, none, none, none, none, none, none, none, none, none] S) := rfl
end Wt
set_option maxRecDepth 100000
set_option maxHeartbeats 4000000
namespace Wt
namespace K08
open PySem L2
def top (i : Nat) : Stmt := PySem.Challenge.pw_warmtank_k08_whole_good_programs_and_tan.main.body.getD i (.Pass ⟨0, 0, 0, 0⟩)
def gFns : List (Str × Nat) := ("is_within", 1) :: ("is_row", 2) :: ("is_program", 3) :: ("is_plan", 4) :: ("programs_of", 30) :: ("look_at_plan", 5) :: ("look_at_harm", 52) :: ("look_at_wishes", 94) :: ("begin_of", 32) :: ("drawn", 9) :: ("passed", 10) :: ("choices_of", 11) :: ("net_of", 53) :: ("firsts_by", 54) :: ("harms_by", 55) :: ("is_good", 95) :: ("good_programs", 96) :: ("least_tank", 97) :: ("_law_spring", 17) :: ("_law_pick", 18) :: ("_law_kind", 19) :: ("_law_twins", 20) :: ("_law_program", 21) :: ("_law_plan", 22) :: ("_law_small", 60) :: ("_law_begin", 34) :: ("_law_tick", 23) :: ("_law_choices", 24) :: ("_law_ways", 61) :: ("_law_firsts", 62) :: ("_law_harms", 63) :: []
def gc : Gc := ⟨gFns, ("HOURS", (.tup [.str s_all, .str s_cheap])) :: ("HARMS", (.tup [.str s_cold, .str s_dear, .str s_empty, .str s_lost])) :: ("DAY", (.int 4)) :: [], ("InvalidPlan", 27) :: ("InvalidHarm", 65) :: []⟩
theorem ck_is_within : chkDef gc 60 ["value", "low", "high"] ["value", "low", "high"] (top 8) ir_is_within = true := by decide +kernel
theorem bd_is_within {K : PySem.W.Frag} {a : Addr} {fd : FuncData} {q : Str} (F : Fun K "is_within" q (top 8) a fd) : Binds K fd ["value", "low", "high"] [] := F.binds fun _ _ _ _ _ _ us hl => match us, hl with | [_, _, _], _ => rfl
theorem ck_is_row : chkDef gc 60 ["value", "many"] ["value", "many"] (top 9) ir_is_row = true := by decide +kernel
theorem bd_is_row {K : PySem.W.Frag} {a : Addr} {fd : FuncData} {q : Str} (F : Fun K "is_row" q (top 9) a fd) : Binds K fd ["value", "many"] [] := F.binds fun _ _ _ _ _ _ us hl => match us, hl with | [_, _], _ => rfl
theorem ck_is_program : chkDef gc 60 ["value"] ["value"] (top 10) ir_is_program = true := by decide +kernel
theorem bd_is_program {K : PySem.W.Frag} {a : Addr} {fd : FuncData} {q : Str} (F : Fun K "is_program" q (top 10) a fd) : Binds K fd ["value"] [] := F.binds fun _ _ _ _ _ _ us hl => match us, hl with | [_], _ => rfl
theorem ck_is_plan : chkDef gc 60 ["value"] ["value"] (top 11) ir_is_plan = true := by decide +kernel
theorem bd_is_plan {K : PySem.W.Frag} {a : Addr} {fd : FuncData} {q : Str} (F : Fun K "is_plan" q (top 11) a fd) : Binds K fd ["value"] [] := F.binds fun _ _ _ _ _ _ us hl => match us, hl with | [_], _ => rfl
theorem ck_programs_of : chkDef gc 60 ["found", "level", "hours"] [] (top 12) ir_programs_of = true := by decide +kernel
theorem bd_programs_of {K : PySem.W.Frag} {a : Addr} {fd : FuncData} {q : Str} (F : Fun K "programs_of" q (top 12) a fd) : Binds K fd [] [] := F.binds fun _ _ _ _ _ _ us hl => match us, hl with | [], _ => rfl
theorem ck_look_at_plan : chkDef gc 60 ["plan"] ["plan"] (top 13) ir_look_at_plan = true := by decide +kernel
theorem bd_look_at_plan {K : PySem.W.Frag} {a : Addr} {fd : FuncData} {q : Str} (F : Fun K "look_at_plan" q (top 13) a fd) : Binds K fd ["plan"] [] := F.binds fun _ _ _ _ _ _ us hl => match us, hl with | [_], _ => rfl
theorem ck_look_at_harm : chkDef gc 60 ["harm"] ["harm"] (top 14) ir_look_at_harm = true := by decide +kernel
theorem bd_look_at_harm {K : PySem.W.Frag} {a : Addr} {fd : FuncData} {q : Str} (F : Fun K "look_at_harm" q (top 14) a fd) : Binds K fd ["harm"] [] := F.binds fun _ _ _ _ _ _ us hl => match us, hl with | [_], _ => rfl
theorem ck_look_at_wishes : chkDef gc 60 ["wishes", "harm"] ["wishes"] (top 15) ir_look_at_wishes = true := by decide +kernel
theorem bd_look_at_wishes {K : PySem.W.Frag} {a : Addr} {fd : FuncData} {q : Str} (F : Fun K "look_at_wishes" q (top 15) a fd) : Binds K fd ["wishes"] [] := F.binds fun _ _ _ _ _ _ us hl => match us, hl with | [_], _ => rfl
theorem ck_begin_of : chkDef gc 60 ["plan"] ["plan"] (top 16) ir_begin_of = true := by decide +kernel
theorem bd_begin_of {K : PySem.W.Frag} {a : Addr} {fd : FuncData} {q : Str} (F : Fun K "begin_of" q (top 16) a fd) : Binds K fd ["plan"] [] := F.binds fun _ _ _ _ _ _ us hl => match us, hl with | [_], _ => rfl
theorem ck_drawn : chkDef gc 60 ["plan", "stand", "draw", "since", "hot", "on", "warmed", "stood", "hour", "held", "cool", "apart"] ["plan", "stand", "draw"] (top 18) ir_drawn = true := by decide +kernel
theorem bd_drawn {K : PySem.W.Frag} {a : Addr} {fd : FuncData} {q : Str} (F : Fun K "drawn" q (top 18) a fd) : Binds K fd ["plan", "stand", "draw"] [] := F.binds fun _ _ _ _ _ _ us hl => match us, hl with | [_, _, _], _ => rfl
theorem ck_passed : chkDef gc 60 ["plan", "stand", "choice", "held", "words", "later", "tank", "heat", "cool", "people", "on", "warmed", "hour", "hot", "stood", "since", "level", "hours", "hand"] ["plan", "stand", "choice"] (top 19) ir_passed = true := by decide +kernel
theorem bd_passed {K : PySem.W.Frag} {a : Addr} {fd : FuncData} {q : Str} (F : Fun K "passed" q (top 19) a fd) : Binds K fd ["plan", "stand", "choice"] [] := F.binds fun _ _ _ _ _ _ us hl => match us, hl with | [_, _, _], _ => rfl
theorem ck_choices_of : chkDef gc 60 ["plan", "stand", "found", "draw", "most", "apart"] ["plan", "stand"] (top 20) ir_choices_of = true := by decide +kernel
theorem bd_choices_of {K : PySem.W.Frag} {a : Addr} {fd : FuncData} {q : Str} (F : Fun K "choices_of" q (top 20) a fd) : Binds K fd ["plan", "stand"] [] := F.binds fun _ _ _ _ _ _ us hl => match us, hl with | [_, _], _ => rfl
theorem ck_net_of : chkDef gc 60 ["plan", "first", "found", "waiting", "at", "stand", "choice", "run", "ticks", "there", "words"] ["plan"] (top 22) ir_net_of = true := by decide +kernel
theorem bd_net_of {K : PySem.W.Frag} {a : Addr} {fd : FuncData} {q : Str} (F : Fun K "net_of" q (top 22) a fd) : Binds K fd ["plan"] [] := F.binds fun _ _ _ _ _ _ us hl => match us, hl with | [_], _ => rfl
theorem ck_firsts_by : chkDef gc 60 ["plan", "found", "run", "ticks", "choice", "there", "words", "word"] ["plan"] (top 23) ir_firsts_by = true := by decide +kernel
theorem bd_firsts_by {K : PySem.W.Frag} {a : Addr} {fd : FuncData} {q : Str} (F : Fun K "firsts_by" q (top 23) a fd) : Binds K fd ["plan"] [] := F.binds fun _ _ _ _ _ _ us hl => match us, hl with | [_], _ => rfl
theorem ck_harms_by : chkDef gc 60 ["plan", "found", "harm"] ["plan"] (top 24) ir_harms_by = true := by decide +kernel
theorem bd_harms_by {K : PySem.W.Frag} {a : Addr} {fd : FuncData} {q : Str} (F : Fun K "harms_by" q (top 24) a fd) : Binds K fd ["plan"] [] := F.binds fun _ _ _ _ _ _ us hl => match us, hl with | [_], _ => rfl
theorem ck_is_good : chkDef gc 60 ["plan", "wishes", "some", "harm"] ["plan", "wishes"] (top 26) ir_is_good = true := by decide +kernel
theorem bd_is_good {K : PySem.W.Frag} {a : Addr} {fd : FuncData} {q : Str} (F : Fun K "is_good" q (top 26) a fd) : Binds K fd ["plan", "wishes"] [] := F.binds fun _ _ _ _ _ _ us hl => match us, hl with | [_, _], _ => rfl
theorem ck_good_programs : chkDef gc 60 ["plan", "wishes", "program"] ["plan", "wishes"] (top 27) ir_good_programs = true := by decide +kernel
theorem bd_good_programs {K : PySem.W.Frag} {a : Addr} {fd : FuncData} {q : Str} (F : Fun K "good_programs" q (top 27) a fd) : Binds K fd ["plan", "wishes"] [] := F.binds fun _ _ _ _ _ _ us hl => match us, hl with | [_, _], _ => rfl
theorem ck_least_tank : chkDef gc 60 ["plan", "wishes", "tank"] ["plan", "wishes"] (top 28) ir_least_tank = true := by decide +kernel
theorem bd_least_tank {K : PySem.W.Frag} {a : Addr} {fd : FuncData} {q : Str} (F : Fun K "least_tank" q (top 28) a fd) : Binds K fd ["plan", "wishes"] [] := F.binds fun _ _ _ _ _ _ us hl => match us, hl with | [_, _], _ => rfl
theorem ck__law_spring : chkDef gc 60 ["script", "at", "cell", "mixed"] ["script", "at"] (top 30) ir__law_spring = true := by decide +kernel
theorem bd__law_spring {K : PySem.W.Frag} {a : Addr} {fd : FuncData} {q : Str} (F : Fun K "_law_spring" q (top 30) a fd) : Binds K fd ["script", "at"] [] := F.binds fun _ _ _ _ _ _ us hl => match us, hl with | [_, _], _ => rfl
theorem ck__law_pick : chkDef gc 60 ["spring", "many", "digit"] ["spring", "many"] (top 31) ir__law_pick = true := by decide +kernel
theorem bd__law_pick {K : PySem.W.Frag} {a : Addr} {fd : FuncData} {q : Str} (F : Fun K "_law_pick" q (top 31) a fd) : Binds K fd ["spring", "many"] [] := F.binds fun _ _ _ _ _ _ us hl => match us, hl with | [_, _], _ => rfl
theorem ck__law_kind : chkDef gc 60 ["value"] ["value"] (top 32) ir__law_kind = true := by decide +kernel
theorem bd__law_kind {K : PySem.W.Frag} {a : Addr} {fd : FuncData} {q : Str} (F : Fun K "_law_kind" q (top 32) a fd) : Binds K fd ["value"] [] := F.binds fun _ _ _ _ _ _ us hl => match us, hl with | [_], _ => rfl
theorem ck__law_twins : chkDef gc 60 ["one", "other", "a", "b"] ["one", "other"] (top 33) ir__law_twins = true := by decide +kernel
theorem bd__law_twins {K : PySem.W.Frag} {a : Addr} {fd : FuncData} {q : Str} (F : Fun K "_law_twins" q (top 33) a fd) : Binds K fd ["one", "other"] [] := F.binds fun _ _ _ _ _ _ us hl => match us, hl with | [_, _], _ => rfl
theorem ck__law_program : chkDef gc 60 ["spring", "hours"] ["spring"] (top 34) ir__law_program = true := by decide +kernel
theorem bd__law_program {K : PySem.W.Frag} {a : Addr} {fd : FuncData} {q : Str} (F : Fun K "_law_program" q (top 34) a fd) : Binds K fd ["spring"] [] := F.binds fun _ _ _ _ _ _ us hl => match us, hl with | [_], _ => rfl
theorem ck__law_plan : chkDef gc 60 ["spring", "people", "tank", "heat"] ["spring"] (top 35) ir__law_plan = true := by decide +kernel
theorem bd__law_plan {K : PySem.W.Frag} {a : Addr} {fd : FuncData} {q : Str} (F : Fun K "_law_plan" q (top 35) a fd) : Binds K fd ["spring"] [] := F.binds fun _ _ _ _ _ _ us hl => match us, hl with | [_], _ => rfl
theorem ck__law_small : chkDef gc 60 ["spring", "tank", "heat", "cool", "program", "people"] ["spring"] (top 36) ir__law_small = true := by decide +kernel
theorem bd__law_small {K : PySem.W.Frag} {a : Addr} {fd : FuncData} {q : Str} (F : Fun K "_law_small" q (top 36) a fd) : Binds K fd ["spring"] [] := F.binds fun _ _ _ _ _ _ us hl => match us, hl with | [_], _ => rfl
theorem ck__law_begin : chkDef gc 60 ["plan"] ["plan"] (top 37) ir__law_begin = true := by decide +kernel
theorem bd__law_begin {K : PySem.W.Frag} {a : Addr} {fd : FuncData} {q : Str} (F : Fun K "_law_begin" q (top 37) a fd) : Binds K fd ["plan"] [] := F.binds fun _ _ _ _ _ _ us hl => match us, hl with | [_], _ => rfl
theorem ck__law_tick : chkDef gc 60 ["plan", "stand", "choice", "hour", "tank", "heat", "cool", "hot", "on", "warmed", "stood", "since", "held", "draw", "press", "words_so", "level", "hours", "hand", "most", "apart"] ["plan", "stand", "choice"] (top 38) ir__law_tick = true := by decide +kernel
theorem bd__law_tick {K : PySem.W.Frag} {a : Addr} {fd : FuncData} {q : Str} (F : Fun K "_law_tick" q (top 38) a fd) : Binds K fd ["plan", "stand", "choice"] [] := F.binds fun _ _ _ _ _ _ us hl => match us, hl with | [_, _, _], _ => rfl
theorem ck__law_choices : chkDef gc 60 ["plan", "stand", "found", "draw"] ["plan", "stand"] (top 39) ir__law_choices = true := by decide +kernel
theorem bd__law_choices {K : PySem.W.Frag} {a : Addr} {fd : FuncData} {q : Str} (F : Fun K "_law_choices" q (top 39) a fd) : Binds K fd ["plan", "stand"] [] := F.binds fun _ _ _ _ _ _ us hl => match us, hl with | [_, _], _ => rfl
theorem ck__law_ways : chkDef gc 60 ["plan", "begin", "found", "queue", "at", "stand", "choice", "there", "words_so"] ["plan"] (top 41) ir__law_ways = true := by decide +kernel
theorem bd__law_ways {K : PySem.W.Frag} {a : Addr} {fd : FuncData} {q : Str} (F : Fun K "_law_ways" q (top 41) a fd) : Binds K fd ["plan"] [] := F.binds fun _ _ _ _ _ _ us hl => match us, hl with | [_], _ => rfl
theorem ck__law_firsts : chkDef gc 60 ["plan", "stand", "ways", "found", "choice", "there", "words_so", "word"] ["plan"] (top 42) ir__law_firsts = true := by decide +kernel
theorem bd__law_firsts {K : PySem.W.Frag} {a : Addr} {fd : FuncData} {q : Str} (F : Fun K "_law_firsts" q (top 42) a fd) : Binds K fd ["plan"] [] := F.binds fun _ _ _ _ _ _ us hl => match us, hl with | [_], _ => rfl
theorem ck__law_harms : chkDef gc 60 ["plan", "found", "harm"] ["plan"] (top 43) ir__law_harms = true := by decide +kernel
theorem bd__law_harms {K : PySem.W.Frag} {a : Addr} {fd : FuncData} {q : Str} (F : Fun K "_law_harms" q (top 43) a fd) : Binds K fd ["plan"] [] := F.binds fun _ _ _ _ _ _ us hl => match us, hl with | [_], _ => rfl
theorem ck_law : chkDef gc 60 ["script", "at", "spring", "plan", "level", "tank", "turn", "programs", "tanks", "hours", "wishes", "good", "least", "hand", "one", "harm"] ["script"] (top 44) ir_law_k08 = true := by decide +kernel
theorem bd_law {K : PySem.W.Frag} {a : Addr} {fd : FuncData} {q : Str} (F : Fun K "law" q (top 44) a fd) : ∀ (s : Shared) (u : Value), BindsTo s fd ⟨[u], []⟩ [("script", u)] := by
  intro s u
  obtain ⟨oc, od, kV, doc, pm, an, cdv, ct, osl, rfl, lk, hcd⟩ := F.ex
  exact .of_eq rfl
def gv_HOURS : D := (.tup [.str s_all, .str s_cheap])
def gs_HOURS : List Str := [s_all, s_cheap]
def gv_HARMS : D := (.tup [.str s_cold, .str s_dear, .str s_empty, .str s_lost])
def gs_HARMS : List Str := [s_cold, s_dear, s_empty, s_lost]
def gv_DAY : D := (.int 4)
end K08
end Wt
set_option maxRecDepth 100000
set_option maxHeartbeats 1000000
/-! Rules for what the small syntax yields. -/
namespace Wt
open PySem L2
theorem bindCg {α β : Type} {o o' : Out α} {f : α → Store → Out β} (h : o = o') : o.bind f = o'.bind f := by rw [h]
theorem thenCg {α : Type} {o o' : Out α} {f : α → Store → OutS} (h : o = o') : o.thenS f = o'.thenS f := by rw [h]
def OutS.seq (o : OutS) (f : Slots → Store → OutS) : OutS := match o with
  | .nx ρ S => f ρ S
  | o => o
theorem seqCg {o o' : OutS} {f : Slots → Store → OutS} (h : o = o') : o.seq f = o'.seq f := by rw [h]
theorem seq_nx (ρ : Slots) (S : Store) (f : Slots → Store → OutS) : (OutS.nx ρ S).seq f = f ρ S := rfl
theorem seq_rt (d : D) (S : Store) (f : Slots → Store → OutS) : (OutS.rt d S).seq f = .rt d S := rfl
theorem seq_ex (x : Xn) (S : Store) (f : Slots → Store → OutS) : (OutS.ex x S).seq f = .ex x S := rfl
theorem seq_bk (ρ : Slots) (S : Store) (f : Slots → Store → OutS) : (OutS.bk ρ S).seq f = .bk ρ S := rfl
theorem seq_ct (ρ : Slots) (S : Store) (f : Slots → Store → OutS) : (OutS.ct ρ S).seq f = .ct ρ S := rfl
theorem seq_ite (p : Prop) [Decidable p] (a b : OutS) (f : Slots → Store → OutS) : (if p then a else b).seq f = if p then a.seq f else b.seq f := by by_cases h : p <;> simp [h]
theorem exL_n (F : Nat → List D → Store → Out D) (ρ : Slots) (S : Store) : exL F [] ρ S = .nx ρ S := rfl
theorem exL_c (F : Nat → List D → Store → Out D) (s : Wt.S) (ss : List Wt.S) (ρ : Slots) (S : Store) : exL F (s :: ss) ρ S = (exS F s ρ S).seq fun ρ1 S1 => exL F ss ρ1 S1 := by
  show (match exS F s ρ S with
    | .nx ρ1 S1 => exL F ss ρ1 S1
    | o => o) = _
  cases exS F s ρ S <;> rfl
/-- two things whose order is known -/
theorem ev_if (F : Nat → List D → Store → Out D) (c a b : E) (ρ : Slots) (S : Store) : ev F (.ite c a b) ρ S = (asB (ev F c ρ S)).bind fun x S1 => if x = true then ev F a ρ S1 else ev F b ρ S1 := rfl
theorem fl_non (n : Nat) : D.flat n .non = true := by cases n <;> rfl
theorem fl_bl (n : Nat) (b : Bool) : D.flat n (.bl b) = true := by cases n <;> rfl
theorem fl_int (n : Nat) (i : Int) : D.flat n (.int i) = true := by cases n <;> rfl
theorem fl_str (n : Nat) (x : Str) (h : PyData.strOk x = true) : D.flat n (.str x) = true := by simpa [D.flat] using h
theorem trim_self (S : Store) : trim S.length S = some S := by unfold trim; simp
theorem leave_rt (d : D) (S : Store) : leave S.length (.rt d S) = .ok d S := by simp [leave, trim_self]
theorem leave_nx (ρ : Slots) (S : Store) : leave S.length (.nx ρ S) = .ok .non S := by simp [leave, trim_self]
theorem atI_nat {α : Type} (xs : List α) (j : Nat) : atI xs (j : Int) = xs[j]? := by
  unfold atI ixN
  by_cases h : j < xs.length
  · simp [h]
  · simp [h, List.getElem?_eq_none (Nat.le_of_not_lt h)]
theorem atI_0 {α : Type} (xs : List α) : atI xs 0 = xs[0]? := atI_nat xs 0
theorem atI_1 {α : Type} (xs : List α) : atI xs 1 = xs[1]? := atI_nat xs 1
theorem atI_2 {α : Type} (xs : List α) : atI xs 2 = xs[2]? := atI_nat xs 2
theorem atI_3 {α : Type} (xs : List α) : atI xs 3 = xs[3]? := atI_nat xs 3
theorem atI_4 {α : Type} (xs : List α) : atI xs 4 = xs[4]? := atI_nat xs 4
theorem atI_5 {α : Type} (xs : List α) : atI xs 5 = xs[5]? := atI_nat xs 5
theorem atI_6 {α : Type} (xs : List α) : atI xs 6 = xs[6]? := atI_nat xs 6
theorem cm_lt (i j : Int) : cmpD .Lt (.int i) (.int j) = some (decide (i < j)) := rfl
theorem cm_le (i j : Int) : cmpD .LtE (.int i) (.int j) = some (decide (i ≤ j)) := rfl
theorem cm_gt (i j : Int) : cmpD .Gt (.int i) (.int j) = some (decide (j < i)) := rfl
theorem cm_ge (i j : Int) : cmpD .GtE (.int i) (.int j) = some (decide (j ≤ i)) := rfl
theorem cm_eq (a b : D) (ha : D.flat 60 a = true) (hb : D.flat 60 b = true) : cmpD .Eq a b = some (D.eqv a b) := by
  show (if (D.flat 60 a && D.flat 60 b) = true then some (D.eqv a b) else none) = _
  rw [ha, hb]
  rfl
theorem cm_ne (a b : D) (ha : D.flat 60 a = true) (hb : D.flat 60 b = true) : cmpD .NotEq a b = some (!D.eqv a b) := by
  show (if (D.flat 60 a && D.flat 60 b) = true then some (!D.eqv a b) else none) = _
  rw [ha, hb]
  rfl
theorem cm_eqi (i j : Int) : cmpD .Eq (.int i) (.int j) = some (decide (i = j)) := by
  rw [cm_eq _ _ rfl rfl]
  simp [D.eqv]
  by_cases h : i = j <;> simp [h]
theorem cm_nei (i j : Int) : cmpD .NotEq (.int i) (.int j) = some (!decide (i = j)) := by
  rw [cm_ne _ _ rfl rfl]
  simp [D.eqv]
  by_cases h : i = j <;> simp [h]
theorem cm_eqs (x y : Str) (hx : PyData.strOk x = true) (hy : PyData.strOk y = true) : cmpD .Eq (.str x) (.str y) = some (decide (x = y)) := by
  rw [cm_eq _ _ (by simpa [D.flat] using hx) (by simpa [D.flat] using hy)]
  simp [D.eqv]
  by_cases h : x = y <;> simp [h]
theorem cm_in2 (x a b : Str) : cmpD .In (.str x) (.tup [.str a, .str b]) = some (decide (a = x) || decide (b = x)) := by
  simp [cmpD, D.eqv]
  by_cases h : a = x <;> by_cases h2 : b = x <;> simp [h, h2]
theorem op_addi (i j : Int) : opD .Add (.int i) (.int j) = some (.int (i + j)) := rfl
theorem op_subi (i j : Int) : opD .Sub (.int i) (.int j) = some (.int (i - j)) := rfl
theorem op_muli (i j : Int) (h : (small i || small j) = true) : opD .Mult (.int i) (.int j) = some (.int (i * j)) := by
  simp only [opD, h, if_true]
theorem op_addl (xs ys : List D) (h : xs.length + ys.length ≤ 1000000) : opD .Add (.lst xs) (.lst ys) = some (.lst (xs ++ ys)) := by
  simp [opD, roomy, h]
theorem op_addt (xs ys : List D) (h : xs.length + ys.length ≤ 1000000) : opD .Add (.tup xs) (.tup ys) = some (.tup (xs ++ ys)) := by
  simp [opD, roomy, h]
/-- [x] * int(b) -/
theorem op_bl (x : D) (b : Bool) : opD .Mult (.lst [x]) (.int (if b = true then 1 else 0)) = some (.lst (if b = true then [x] else [])) := by
  cases b <;> rfl
theorem ix_t (xs : List D) (i : Int) (S : Store) : ixD (.tup xs) (.int i) S = atI xs i := rfl
theorem ix_l (xs : List D) (i : Int) (S : Store) : ixD (.lst xs) (.int i) S = atI xs i := rfl
theorem ix_s (xs : List Int) (i : Int) (S : Store) : ixD (.scr xs) (.int i) S = (atI xs i).map D.int := rfl
theorem bT_n (i : Nat) (d : D) (ρ : Slots) : bindT (.nm i) d ρ = some (ρ.set i (some d)) := rfl
theorem bT_t (ts : List Tg) (ds : List D) (ρ : Slots) : bindT (.tup ts) (.tup ds) ρ = bindTs ts ds ρ := rfl
theorem bTs_n (ρ : Slots) : bindTs [] [] ρ = some ρ := rfl
theorem bTs_c (t : Tg) (ts : List Tg) (d : D) (ds : List D) (ρ : Slots) : bindTs (t :: ts) (d :: ds) ρ = (bindT t d ρ).bind fun ρ1 => bindTs ts ds ρ1 := by
  show (match bindT t d ρ with
    | some ρ' => bindTs ts ds ρ'
    | none => none) = _
  cases bindT t d ρ <;> rfl
theorem sP_n (ρ : Slots) : setPar [] [] ρ = some ρ := rfl
theorem sP_c (i : Nat) (is : List Nat) (d : D) (ds : List D) (ρ : Slots) : setPar (i :: is) (d :: ds) ρ = setPar is ds (ρ.set i (some d)) := rfl
theorem op_x1 (x : D) : opD .Mult (.lst [x]) (.int 1) = some (.lst [x]) := rfl
theorem op_x0 (x : D) : opD .Mult (.lst [x]) (.int 0) = some (.lst []) := rfl
theorem op_mul0 (x : D) (p : Prop) [Decidable p] : opD .Mult (.lst [x]) (.int (if p then 1 else 0)) = some (.lst (if p then [x] else [])) := by
  by_cases h : p <;> simp only [h, if_true, if_false] <;> rfl
theorem op_mod (i j : Int) (h : 0 < j) : opD .Mod (.int i) (.int j) = some (.int (i % j)) := by
  simp [opD, h]
theorem op_div (i j : Int) (h : 0 < j) (h2 : j < 1073741824) : opD .FloorDiv (.int i) (.int j) = some (.int (i / j)) := by
  simp [opD, h, h2]
theorem pr_int (i : Int) (S : Store) : prD .int [.int i] S = some (.int i) := rfl
theorem pr_intb (b : Bool) (S : Store) : prD .int [.bl b] S = some (.int (if b = true then 1 else 0)) := rfl
theorem pr_max (i j : Int) (S : Store) : prD .max [.int i, .int j] S = some (.int (if j > i then j else i)) := rfl
theorem pr_min (i j : Int) (S : Store) : prD .min [.int i, .int j] S = some (.int (if j < i then j else i)) := rfl
theorem pr_abs (i : Int) (S : Store) : prD .abs [.int i] S = some (.int (if i < 0 then -i else i)) := rfl
/-! a test under which both ways are outcomes -/
theorem iteB {α : Type} (b c : Bool) (S : Store) : (if b = true then Out.ok (D.bl c) S else Out.ok (D.bl false) S) = Out.ok (.bl (b && c)) S := by cases b <;> rfl
theorem thB (p : Prop) [Decidable p] (c : Bool) (S : Store) : (if p then Out.ok (D.bl c) S else Out.ok (D.bl false) S) = Out.ok (.bl (decide p && c)) S := by by_cases h : p <;> simp [h]
theorem bindB (b c : Bool) (S : Store) : (if b = true then Out.ok (D.bl true) S else Out.ok (D.bl c) S) = Out.ok (.bl (b || c)) S := by cases b <;> rfl
theorem lift_B (p : Prop) [Decidable p] (c : Bool) (S : Store) : (if p then Out.ok (D.bl true) S else Out.ok (D.bl c) S) = Out.ok (.bl (decide p || c)) S := by by_cases h : p <;> simp [h]
theorem asB_B (b : Bool) (S : Store) : asB (.ok (.bl b) S) = .ok b S := rfl
mutual
theorem flat_succ : ∀ (n : Nat) (d : D), D.flat n d = true → D.flat (n + 1) d = true
  | _, .non, _ => rfl
  | _, .bl _, _ => rfl
  | _, .int _, _ => rfl
  | _, .str _, h => by simpa [D.flat] using h
  | 0, .lst _, h => by simp [D.flat] at h
  | n + 1, .lst xs, h => by
    simp only [D.flat] at h ⊢
    exact flatAll_succ n xs h
  | 0, .tup _, h => by simp [D.flat] at h
  | n + 1, .tup xs, h => by
    simp only [D.flat] at h ⊢
    exact flatAll_succ n xs h
  | _, .scr _, h => by simp [D.flat] at h
  | _, .loc _, h => by simp [D.flat] at h
  | _, .dic _ _, h => by simp [D.flat] at h
theorem flatAll_succ : ∀ (n : Nat) (ds : List D), D.flatAll n ds = true → D.flatAll (n + 1) ds = true
  | _, [], _ => rfl
  | n, d :: ds, h => by
    simp only [D.flatAll, Bool.and_eq_true] at h ⊢
    exact ⟨flat_succ n d h.1, flatAll_succ n ds h.2⟩
end
theorem flatAll_of {ds : List D} (h : D.flat 60 (.tup ds) = true) : D.flatAll 60 ds = true := by
  simp only [D.flat] at h
  exact flatAll_succ 59 ds h
theorem flatAll_ofL {ds : List D} (h : D.flat 60 (.lst ds) = true) : D.flatAll 60 ds = true := by
  simp only [D.flat] at h
  exact flatAll_succ 59 ds h
def isStr : D → Bool
  | .str _ => true
  | _ => false
def isBl : D → Bool
  | .bl _ => true
  | _ => false
theorem tys_str {d : D} (h : D.flat 60 d = true) : tysD [.str] d = some (isStr d) := by
  cases d <;> simp [D.flat] at h <;> rfl
theorem tys_bool {d : D} (h : D.flat 60 d = true) : tysD [.bool] d = some (isBl d) := by
  cases d <;> simp [D.flat] at h <;> rfl
end Wt
set_option maxRecDepth 100000
set_option maxHeartbeats 1000000
/-! What the defs yield: plans, stands, values that may be none. -/
namespace Wt
open PySem L2
def winD (v : D) (lo hi : Int) : Bool := match v with
  | .int z => decide (lo ≤ z) && decide (z ≤ hi)
  | _ => false
def rowD (v : D) (m : Int) : Bool := match v with
  | .tup ds => (ds.length : Int) == m
  | _ => false
theorem rowD_t (ds : List D) (m : Int) : rowD (.tup ds) m = ((ds.length : Int) == m) := rfl
theorem is_within_ok (k : Nat) (v : D) (hv : D.flat 60 v = true) (lo hi : Int) (S : Store) : callF tab (k + 1) n_is_within [v, .int lo, .int hi] S = .ok (.bl (winD v lo hi)) S := by
  rw [u_is_within]
  have e : exL (callF tab k) ir_is_within.body [some v, some (.int lo), some (.int hi)] S = .rt (.bl (winD v lo hi)) S := by
    cases v <;> simp [D.flat] at hv <;> simp [ir_is_within, exL_n, exL_c, seq_nx, seq_rt, seq_ex, seq_bk, seq_ct, fl_non, fl_bl, fl_int, fl_str, exS, ev, evs, ix_t, ix_l, ix_s, atI_0, atI_1, atI_2, atI_3, atI_4, atI_5, atI_6, cm_lt, cm_le, cm_gt, cm_ge, cm_eqi, cm_nei, cm_eqs, cm_in2, op_addi, op_subi, op_muli, op_addl, op_addt, op_bl, op_mul0, op_x1, op_x0, op_mod, op_div, pr_int, pr_intb, pr_max, pr_min, pr_abs, bT_n, bT_t, bTs_n, bTs_c, sP_n, sP_c, isNon, iteB, thB, bindB, lift_B, asB_B, setD, tysD, tyD, cmpD, winD]
    rename_i z
    by_cases h : lo ≤ z <;> simp [h, exL_n, exL_c, seq_nx, seq_rt, seq_ex, seq_bk, seq_ct, fl_non, fl_bl, fl_int, fl_str, exS, ev, evs, ix_t, ix_l, ix_s, atI_0, atI_1, atI_2, atI_3, atI_4, atI_5, atI_6, cm_lt, cm_le, cm_gt, cm_ge, cm_eqi, cm_nei, cm_eqs, cm_in2, op_addi, op_subi, op_muli, op_addl, op_addt, op_bl, op_mul0, op_x1, op_x0, op_mod, op_div, pr_int, pr_intb, pr_max, pr_min, pr_abs, bT_n, bT_t, bTs_n, bTs_c, sP_n, sP_c, isNon, iteB, thB, bindB, lift_B, asB_B, setD]
  rw [e, leave_rt]
theorem is_row_ok (k : Nat) (v : D) (hv : D.flat 60 v = true) (m : Int) (S : Store) : callF tab (k + 1) n_is_row [v, .int m] S = .ok (.bl (rowD v m)) S := by
  rw [u_is_row]
  have e : exL (callF tab k) ir_is_row.body [some v, some (.int m)] S = .rt (.bl (rowD v m)) S := by
    cases v <;> simp [D.flat] at hv <;> simp [ir_is_row, exL_n, exL_c, seq_nx, seq_rt, seq_ex, seq_bk, seq_ct, fl_non, fl_bl, fl_int, fl_str, exS, ev, evs, ix_t, ix_l, ix_s, atI_0, atI_1, atI_2, atI_3, atI_4, atI_5, atI_6, cm_lt, cm_le, cm_gt, cm_ge, cm_eqi, cm_nei, cm_eqs, cm_in2, op_addi, op_subi, op_muli, op_addl, op_addt, op_bl, op_mul0, op_x1, op_x0, op_mod, op_div, pr_int, pr_intb, pr_max, pr_min, pr_abs, bT_n, bT_t, bTs_n, bTs_c, sP_n, sP_c, isNon, iteB, thB, bindB, lift_B, asB_B, setD, tysD, tyD, cmpD, prD, D.flat, D.eqv, rowD]
  rw [e, leave_rt]
def hourD (d : D) : Bool := match d with
  | .str h => decide ("all" = h) || decide ("cheap" = h)
  | _ => false
theorem isStr_of {b : D} (h : isStr b = true) : ∃ s, b = .str s := by
  cases b <;> simp [isStr] at h
  exact ⟨_, rfl⟩
theorem hour_no {b : D} (h : ¬ isStr b = true) : hourD b = false := by
  cases b <;> simp [isStr] at h <;> rfl
def progD (v : D) : Bool := match v with
  | .tup [a, h, b] => winD a 0 3 && hourD h && isBl b
  | _ => false
theorem is_program_ok (k : Nat) (v : D) (hv : D.flat 60 v = true) (S : Store) : callF tab (k + 2) n_is_program [v] S = .ok (.bl (progD v)) S := by
  rw [u_is_program]
  have e : exL (callF tab (k + 1)) ir_is_program.body [some v] S = .rt (.bl (progD v)) S := by
    by_cases hr : rowD v 3 = true
    · cases v with
      | tup ds =>
        rcases ds with _ | ⟨a, _ | ⟨b, _ | ⟨c, _ | ⟨d, ds⟩⟩⟩⟩ <;> simp [rowD] at hr
        · have hv' := flatAll_of hv
          simp only [D.flatAll, Bool.and_eq_true] at hv'
          obtain ⟨ha, hb, hc, _⟩ := hv'
          by_cases h1 : winD a 0 3 = true
          · by_cases hs : isStr b = true
            · obtain ⟨s, rfl⟩ := isStr_of hs
              simp [ir_is_program, exL_n, exL_c, seq_nx, seq_rt, seq_ex, seq_bk, seq_ct, fl_non, fl_bl, fl_int, fl_str, exS, ev, evs, ix_t, ix_l, ix_s, atI_0, atI_1, atI_2, atI_3, atI_4, atI_5, atI_6, cm_lt, cm_le, cm_gt, cm_ge, cm_eqi, cm_nei, cm_eqs, cm_in2, op_addi, op_subi, op_muli, op_addl, op_addt, op_bl, op_mul0, op_x1, op_x0, op_mod, op_div, pr_int, pr_intb, pr_max, pr_min, pr_abs, bT_n, bT_t, bTs_n, bTs_c, sP_n, sP_c, isNon, iteB, thB, bindB, lift_B, asB_B, setD, is_row_ok, is_within_ok, hv, ha, hb, hc, rowD_t, tys_str, tys_bool, progD, h1, isStr, hourD]
            · simp [ir_is_program, exL_n, exL_c, seq_nx, seq_rt, seq_ex, seq_bk, seq_ct, fl_non, fl_bl, fl_int, fl_str, exS, ev, evs, ix_t, ix_l, ix_s, atI_0, atI_1, atI_2, atI_3, atI_4, atI_5, atI_6, cm_lt, cm_le, cm_gt, cm_ge, cm_eqi, cm_nei, cm_eqs, cm_in2, op_addi, op_subi, op_muli, op_addl, op_addt, op_bl, op_mul0, op_x1, op_x0, op_mod, op_div, pr_int, pr_intb, pr_max, pr_min, pr_abs, bT_n, bT_t, bTs_n, bTs_c, sP_n, sP_c, isNon, iteB, thB, bindB, lift_B, asB_B, setD, is_row_ok, is_within_ok, hv, ha, hb, hc, rowD_t, tys_str, tys_bool, progD, h1, hs, hour_no]
          · simp [ir_is_program, exL_n, exL_c, seq_nx, seq_rt, seq_ex, seq_bk, seq_ct, fl_non, fl_bl, fl_int, fl_str, exS, ev, evs, ix_t, ix_l, ix_s, atI_0, atI_1, atI_2, atI_3, atI_4, atI_5, atI_6, cm_lt, cm_le, cm_gt, cm_ge, cm_eqi, cm_nei, cm_eqs, cm_in2, op_addi, op_subi, op_muli, op_addl, op_addt, op_bl, op_mul0, op_x1, op_x0, op_mod, op_div, pr_int, pr_intb, pr_max, pr_min, pr_abs, bT_n, bT_t, bTs_n, bTs_c, sP_n, sP_c, isNon, iteB, thB, bindB, lift_B, asB_B, setD, is_row_ok, is_within_ok, hv, ha, hb, hc, rowD_t, tys_str, tys_bool, progD, h1]
        · omega
      | _ => simp [rowD] at hr
    · have e0 : progD v = false := by
        cases v with
        | tup ds =>
          rcases ds with _ | ⟨a, _ | ⟨b, _ | ⟨c, _ | ⟨d, ds⟩⟩⟩⟩ <;> simp [rowD] at hr <;> rfl
        | _ => rfl
      simp [ir_is_program, exL_n, exL_c, seq_nx, seq_rt, seq_ex, seq_bk, seq_ct, fl_non, fl_bl, fl_int, fl_str, exS, ev, evs, ix_t, ix_l, ix_s, atI_0, atI_1, atI_2, atI_3, atI_4, atI_5, atI_6, cm_lt, cm_le, cm_gt, cm_ge, cm_eqi, cm_nei, cm_eqs, cm_in2, op_addi, op_subi, op_muli, op_addl, op_addt, op_bl, op_mul0, op_x1, op_x0, op_mod, op_div, pr_int, pr_intb, pr_max, pr_min, pr_abs, bT_n, bT_t, bTs_n, bTs_c, sP_n, sP_c, isNon, iteB, thB, bindB, lift_B, asB_B, setD, is_row_ok, hv, hr, e0]
  rw [e, leave_rt]
def planD (v : D) : Bool := match v with
  | .tup [a, b, c, p, f] => winD a 1 4 && winD b 1 3 && winD c 0 3 && progD p && match f with
    | .tup [m, q] => winD m 1 4 && winD q 0 3
    | _ => false
  | _ => false
theorem is_plan_ok (k : Nat) (v : D) (hv : D.flat 60 v = true) (S : Store) : callF tab (k + 3) n_is_plan [v] S = .ok (.bl (planD v)) S := by
  rw [u_is_plan]
  have e : exL (callF tab (k + 2)) ir_is_plan.body [some v] S = .rt (.bl (planD v)) S := by
    by_cases hr : rowD v 5 = true
    · cases v with
      | tup ds =>
        rcases ds with _ | ⟨a, _ | ⟨b, _ | ⟨c, _ | ⟨d, _ | ⟨f, _ | ⟨g, ds⟩⟩⟩⟩⟩⟩ <;> simp [rowD] at hr
        · have hv' := flatAll_of hv
          simp only [D.flatAll, Bool.and_eq_true] at hv'
          obtain ⟨ha, hb, hc, hd, hf, _⟩ := hv'
          by_cases h1 : rowD f 2 = true
          · cases f with
            | tup fs =>
              rcases fs with _ | ⟨m, _ | ⟨q, _ | ⟨z, fs⟩⟩⟩ <;> simp [rowD] at h1
              · have hf' := flatAll_of hf
                simp only [D.flatAll, Bool.and_eq_true] at hf'
                obtain ⟨hm, hq, _⟩ := hf'
                by_cases g1 : winD a 1 4 = true <;> by_cases g2 : winD b 1 3 = true <;> by_cases g3 : winD c 0 3 = true <;> by_cases g4 : progD d = true <;> simp [ir_is_plan, exL_n, exL_c, seq_nx, seq_rt, seq_ex, seq_bk, seq_ct, fl_non, fl_bl, fl_int, fl_str, exS, ev, evs, ix_t, ix_l, ix_s, atI_0, atI_1, atI_2, atI_3, atI_4, atI_5, atI_6, cm_lt, cm_le, cm_gt, cm_ge, cm_eqi, cm_nei, cm_eqs, cm_in2, op_addi, op_subi, op_muli, op_addl, op_addt, op_bl, op_mul0, op_x1, op_x0, op_mod, op_div, pr_int, pr_intb, pr_max, pr_min, pr_abs, bT_n, bT_t, bTs_n, bTs_c, sP_n, sP_c, isNon, iteB, thB, bindB, lift_B, asB_B, setD, is_row_ok, is_within_ok, is_program_ok, hv, ha, hb, hc, hd, hf, hm, hq, rowD_t, planD, g1, g2, g3, g4]
              · omega
            | _ => simp [rowD] at h1
          · have e0 : planD (.tup [a, b, c, d, f]) = false := by
              cases f with
              | tup fs =>
                rcases fs with _ | ⟨m, _ | ⟨q, _ | ⟨z, fs⟩⟩⟩ <;> simp [rowD] at h1 <;> simp [planD]
              | _ => simp [planD]
            by_cases g1 : winD a 1 4 = true <;> by_cases g2 : winD b 1 3 = true <;> by_cases g3 : winD c 0 3 = true <;> by_cases g4 : progD d = true <;> simp [ir_is_plan, exL_n, exL_c, seq_nx, seq_rt, seq_ex, seq_bk, seq_ct, fl_non, fl_bl, fl_int, fl_str, exS, ev, evs, ix_t, ix_l, ix_s, atI_0, atI_1, atI_2, atI_3, atI_4, atI_5, atI_6, cm_lt, cm_le, cm_gt, cm_ge, cm_eqi, cm_nei, cm_eqs, cm_in2, op_addi, op_subi, op_muli, op_addl, op_addt, op_bl, op_mul0, op_x1, op_x0, op_mod, op_div, pr_int, pr_intb, pr_max, pr_min, pr_abs, bT_n, bT_t, bTs_n, bTs_c, sP_n, sP_c, isNon, iteB, thB, bindB, lift_B, asB_B, setD, is_row_ok, is_within_ok, is_program_ok, hv, ha, hb, hc, hd, hf, rowD_t, e0, g1, g2, g3, g4, h1]
        · omega
      | _ => simp [rowD] at hr
    · have e0 : planD v = false := by
        cases v with
        | tup ds =>
          rcases ds with _ | ⟨a, _ | ⟨b, _ | ⟨c, _ | ⟨d, _ | ⟨f, _ | ⟨g, ds⟩⟩⟩⟩⟩⟩ <;> simp [rowD] at hr <;> rfl
        | _ => rfl
      simp [ir_is_plan, exL_n, exL_c, seq_nx, seq_rt, seq_ex, seq_bk, seq_ct, fl_non, fl_bl, fl_int, fl_str, exS, ev, evs, ix_t, ix_l, ix_s, atI_0, atI_1, atI_2, atI_3, atI_4, atI_5, atI_6, cm_lt, cm_le, cm_gt, cm_ge, cm_eqi, cm_nei, cm_eqs, cm_in2, op_addi, op_subi, op_muli, op_addl, op_addt, op_bl, op_mul0, op_x1, op_x0, op_mod, op_div, pr_int, pr_intb, pr_max, pr_min, pr_abs, bT_n, bT_t, bTs_n, bTs_c, sP_n, sP_c, isNon, iteB, thB, bindB, lift_B, asB_B, setD, is_row_ok, hv, hr, e0]
  rw [e, leave_rt]
end Wt
set_option maxRecDepth 100000
set_option maxHeartbeats 1000000
/-! Good plans, good stands; choices, ticks. -/
namespace Wt
open PySem L2
structure Pl where
  tank : Int
  heat : Int
  cool : Int
  level : Int
  all : Bool
  hand : Bool
  most : Int
  apart : Int
def hourS (b : Bool) : Str := if b then "all" else "cheap"
def Pl.prog (p : Pl) : D := .tup [.int p.level, .str (hourS p.all), .bl p.hand]
def Pl.d (p : Pl) : D := .tup [.int p.tank, .int p.heat, .int p.cool, .tup [.int p.level, .str (hourS p.all), .bl p.hand], .tup [.int p.most, .int p.apart]]
structure Pl.Ok (p : Pl) : Prop where
  t1 : 1 ≤ p.tank
  t2 : p.tank ≤ 4
  h1 : 1 ≤ p.heat
  h2 : p.heat ≤ 3
  c1 : 0 ≤ p.cool
  c2 : p.cool ≤ 3
  l1 : 0 ≤ p.level
  l2 : p.level ≤ 3
  m1 : 1 ≤ p.most
  m2 : p.most ≤ 4
  a1 : 0 ≤ p.apart
  a2 : p.apart ≤ 3
theorem ok_all : PyData.strOk "all" = true := by decide +kernel
theorem ok_cheap : PyData.strOk "cheap" = true := by decide +kernel
theorem ok_hour (b : Bool) : PyData.strOk (hourS b) = true := by cases b <;> decide +kernel
theorem hour_all (b : Bool) : decide (hourS b = "all") = b := by cases b <;> decide +kernel
theorem flat_plan (p : Pl) : D.flat 60 p.d = true := by simp [Pl.d, D.flat, D.flatAll, ok_hour]
theorem planD_plan {p : Pl} (h : p.Ok) : planD p.d = true := by
  obtain ⟨_, _, _, _, _, _, _, _, _, _, _, _⟩ := h
  have e : hourD (.str (hourS p.all)) = true := by cases p.all <;> decide +kernel
  simp [planD, Pl.d, progD, winD, isBl, e, *]
structure Sd where
  hot : Int
  on : Bool
  warmed : Int
  stood : Int
  hour : Int
  since : Int
  held : Bool
def Sd.d (s : Sd) : D := .tup [.int s.hot, .bl s.on, .int s.warmed, .int s.stood, .int s.hour, .int s.since, .bl s.held]
structure Sd.Ok (s : Sd) (p : Pl) : Prop where
  h1 : 0 ≤ s.hot
  h2 : s.hot ≤ p.tank
  w1 : 0 ≤ s.warmed
  w2 : s.warmed < p.heat
  s1 : 0 ≤ s.stood
  s2 : s.stood = 0 ∨ s.stood < p.cool
  o1 : 0 ≤ s.hour
  o2 : s.hour ≤ 3
  n1 : 0 ≤ s.since
  n2 : s.since ≤ p.apart
theorem flat_stand (s : Sd) : D.flat 60 s.d = true := by simp [Sd.d, D.flat, D.flatAll]
def fitsD (p : Pl) (v : D) : Bool := match v with
  | .tup [a, b, c, d, e, f, g] => winD a 0 p.tank && winD c 0 (p.heat - 1) && isBl b && isBl g && winD e 0 3 && winD d 0 (if p.cool - 1 > 0 then p.cool - 1 else 0) && winD f 0 p.apart
  | _ => false
theorem fitsD_stand {p : Pl} {s : Sd} (h : s.Ok p) : fitsD p s.d = true := by
  obtain ⟨_, _, _, _, _, h6, _, _, _, _⟩ := h
  simp [fitsD, Sd.d, winD, isBl, *]
  constructor
  · omega
  · split <;> omega
theorem fits_ok (k : Nat) (p : Pl) (v : D) (hv : D.flat 60 v = true) (S : Store) : callF tab (k + 2) n_fits [p.d, v] S = .ok (.bl (fitsD p v)) S := by
  rw [u_fits]
  have e : exL (callF tab (k + 1)) ir_fits.body [some p.d, some v, none, none, none, none, none, none] S = .rt (.bl (fitsD p v)) S := by
    by_cases hr : rowD v 7 = true
    · cases v with
      | tup ds =>
        rcases ds with _ | ⟨a, _ | ⟨b, _ | ⟨c, _ | ⟨d, _ | ⟨f, _ | ⟨g, _ | ⟨j, _ | ⟨z, ds⟩⟩⟩⟩⟩⟩⟩⟩ <;> simp [rowD] at hr
        · have hv' := flatAll_of hv
          simp only [D.flatAll, Bool.and_eq_true] at hv'
          obtain ⟨ha, hb, hc, hd, hf, hg, hj, _⟩ := hv'
          by_cases g1 : winD a 0 p.tank = true
          · by_cases g2 : winD c 0 (p.heat - 1) = true
            · by_cases g3 : isBl b = true
              · by_cases g4 : isBl j = true
                · by_cases g5 : winD f 0 3 = true
                  · simp [ir_fits, Pl.d, exL_n, exL_c, seq_nx, seq_rt, seq_ex, seq_bk, seq_ct, fl_non, fl_bl, fl_int, fl_str, exS, ev, evs, ix_t, ix_l, ix_s, atI_0, atI_1, atI_2, atI_3, atI_4, atI_5, atI_6, cm_lt, cm_le, cm_gt, cm_ge, cm_eqi, cm_nei, cm_eqs, cm_in2, op_addi, op_subi, op_muli, op_addl, op_addt, op_bl, op_mul0, op_x1, op_x0, op_mod, op_div, pr_int, pr_intb, pr_max, pr_min, pr_abs, bT_n, bT_t, bTs_n, bTs_c, sP_n, sP_c, isNon, iteB, thB, bindB, lift_B, asB_B, setD, is_row_ok, is_within_ok, hv, ha, hb, hc, hd, hf, hg, hj, rowD_t, fitsD, tys_bool, g1, g2, g3, g4, g5]
                  · simp [ir_fits, Pl.d, exL_n, exL_c, seq_nx, seq_rt, seq_ex, seq_bk, seq_ct, fl_non, fl_bl, fl_int, fl_str, exS, ev, evs, ix_t, ix_l, ix_s, atI_0, atI_1, atI_2, atI_3, atI_4, atI_5, atI_6, cm_lt, cm_le, cm_gt, cm_ge, cm_eqi, cm_nei, cm_eqs, cm_in2, op_addi, op_subi, op_muli, op_addl, op_addt, op_bl, op_mul0, op_x1, op_x0, op_mod, op_div, pr_int, pr_intb, pr_max, pr_min, pr_abs, bT_n, bT_t, bTs_n, bTs_c, sP_n, sP_c, isNon, iteB, thB, bindB, lift_B, asB_B, setD, is_row_ok, is_within_ok, hv, ha, hb, hc, hd, hf, hg, hj, rowD_t, fitsD, tys_bool, g1, g2, g3, g4, g5]
                · simp [ir_fits, Pl.d, exL_n, exL_c, seq_nx, seq_rt, seq_ex, seq_bk, seq_ct, fl_non, fl_bl, fl_int, fl_str, exS, ev, evs, ix_t, ix_l, ix_s, atI_0, atI_1, atI_2, atI_3, atI_4, atI_5, atI_6, cm_lt, cm_le, cm_gt, cm_ge, cm_eqi, cm_nei, cm_eqs, cm_in2, op_addi, op_subi, op_muli, op_addl, op_addt, op_bl, op_mul0, op_x1, op_x0, op_mod, op_div, pr_int, pr_intb, pr_max, pr_min, pr_abs, bT_n, bT_t, bTs_n, bTs_c, sP_n, sP_c, isNon, iteB, thB, bindB, lift_B, asB_B, setD, is_row_ok, is_within_ok, hv, ha, hb, hc, hd, hf, hg, hj, rowD_t, fitsD, tys_bool, g1, g2, g3, g4]
              · simp [ir_fits, Pl.d, exL_n, exL_c, seq_nx, seq_rt, seq_ex, seq_bk, seq_ct, fl_non, fl_bl, fl_int, fl_str, exS, ev, evs, ix_t, ix_l, ix_s, atI_0, atI_1, atI_2, atI_3, atI_4, atI_5, atI_6, cm_lt, cm_le, cm_gt, cm_ge, cm_eqi, cm_nei, cm_eqs, cm_in2, op_addi, op_subi, op_muli, op_addl, op_addt, op_bl, op_mul0, op_x1, op_x0, op_mod, op_div, pr_int, pr_intb, pr_max, pr_min, pr_abs, bT_n, bT_t, bTs_n, bTs_c, sP_n, sP_c, isNon, iteB, thB, bindB, lift_B, asB_B, setD, is_row_ok, is_within_ok, hv, ha, hb, hc, hd, hf, hg, hj, rowD_t, fitsD, tys_bool, g1, g2, g3]
            · simp [ir_fits, Pl.d, exL_n, exL_c, seq_nx, seq_rt, seq_ex, seq_bk, seq_ct, fl_non, fl_bl, fl_int, fl_str, exS, ev, evs, ix_t, ix_l, ix_s, atI_0, atI_1, atI_2, atI_3, atI_4, atI_5, atI_6, cm_lt, cm_le, cm_gt, cm_ge, cm_eqi, cm_nei, cm_eqs, cm_in2, op_addi, op_subi, op_muli, op_addl, op_addt, op_bl, op_mul0, op_x1, op_x0, op_mod, op_div, pr_int, pr_intb, pr_max, pr_min, pr_abs, bT_n, bT_t, bTs_n, bTs_c, sP_n, sP_c, isNon, iteB, thB, bindB, lift_B, asB_B, setD, is_row_ok, is_within_ok, hv, ha, hb, hc, hd, hf, hg, hj, rowD_t, fitsD, tys_bool, g1, g2]
          · simp [ir_fits, Pl.d, exL_n, exL_c, seq_nx, seq_rt, seq_ex, seq_bk, seq_ct, fl_non, fl_bl, fl_int, fl_str, exS, ev, evs, ix_t, ix_l, ix_s, atI_0, atI_1, atI_2, atI_3, atI_4, atI_5, atI_6, cm_lt, cm_le, cm_gt, cm_ge, cm_eqi, cm_nei, cm_eqs, cm_in2, op_addi, op_subi, op_muli, op_addl, op_addt, op_bl, op_mul0, op_x1, op_x0, op_mod, op_div, pr_int, pr_intb, pr_max, pr_min, pr_abs, bT_n, bT_t, bTs_n, bTs_c, sP_n, sP_c, isNon, iteB, thB, bindB, lift_B, asB_B, setD, is_row_ok, is_within_ok, hv, ha, hb, hc, hd, hf, hg, hj, rowD_t, fitsD, tys_bool, g1]
        · omega
      | _ => simp [rowD] at hr
    · have e0 : fitsD p v = false := by
        cases v with
        | tup ds =>
          rcases ds with _ | ⟨a, _ | ⟨b, _ | ⟨c, _ | ⟨d, _ | ⟨f, _ | ⟨g, _ | ⟨j, _ | ⟨z, ds⟩⟩⟩⟩⟩⟩⟩⟩ <;> simp [rowD] at hr <;> rfl
        | _ => rfl
      simp [ir_fits, Pl.d, exL_n, exL_c, seq_nx, seq_rt, seq_ex, seq_bk, seq_ct, fl_non, fl_bl, fl_int, fl_str, exS, ev, evs, ix_t, ix_l, ix_s, atI_0, atI_1, atI_2, atI_3, atI_4, atI_5, atI_6, cm_lt, cm_le, cm_gt, cm_ge, cm_eqi, cm_nei, cm_eqs, cm_in2, op_addi, op_subi, op_muli, op_addl, op_addt, op_bl, op_mul0, op_x1, op_x0, op_mod, op_div, pr_int, pr_intb, pr_max, pr_min, pr_abs, bT_n, bT_t, bTs_n, bTs_c, sP_n, sP_c, isNon, iteB, thB, bindB, lift_B, asB_B, setD, is_row_ok, hv, hr, e0]
  rw [e, leave_rt]
theorem look_at_plan_ok (k : Nat) {p : Pl} (hp : p.Ok) (S : Store) : callF tab (k + 4) n_look_at_plan [p.d] S = .ok .non S := by
  rw [u_look_at_plan]
  have e : exL (callF tab (k + 3)) ir_look_at_plan.body [some p.d] S = .nx [some p.d] S := by
    simp [ir_look_at_plan, exL_n, exL_c, seq_nx, seq_rt, seq_ex, seq_bk, seq_ct, fl_non, fl_bl, fl_int, fl_str, exS, ev, evs, ix_t, ix_l, ix_s, atI_0, atI_1, atI_2, atI_3, atI_4, atI_5, atI_6, cm_lt, cm_le, cm_gt, cm_ge, cm_eqi, cm_nei, cm_eqs, cm_in2, op_addi, op_subi, op_muli, op_addl, op_addt, op_bl, op_mul0, op_x1, op_x0, op_mod, op_div, pr_int, pr_intb, pr_max, pr_min, pr_abs, bT_n, bT_t, bTs_n, bTs_c, sP_n, sP_c, isNon, iteB, thB, bindB, lift_B, asB_B, setD, is_plan_ok, flat_plan, planD_plan hp]
  rw [e, leave_nx]
theorem is_stand_ok (k : Nat) {p : Pl} (hp : p.Ok) (v : D) (hv : D.flat 60 v = true) (S : Store) : callF tab (k + 5) n_is_stand [p.d, v] S = .ok (.bl (fitsD p v)) S := by
  rw [u_is_stand]
  have e : exL (callF tab (k + 4)) ir_is_stand.body [some p.d, some v] S = .rt (.bl (fitsD p v)) S := by
    simp [ir_is_stand, exL_n, exL_c, seq_nx, seq_rt, seq_ex, seq_bk, seq_ct, fl_non, fl_bl, fl_int, fl_str, exS, ev, evs, ix_t, ix_l, ix_s, atI_0, atI_1, atI_2, atI_3, atI_4, atI_5, atI_6, cm_lt, cm_le, cm_gt, cm_ge, cm_eqi, cm_nei, cm_eqs, cm_in2, op_addi, op_subi, op_muli, op_addl, op_addt, op_bl, op_mul0, op_x1, op_x0, op_mod, op_div, pr_int, pr_intb, pr_max, pr_min, pr_abs, bT_n, bT_t, bTs_n, bTs_c, sP_n, sP_c, isNon, iteB, thB, bindB, lift_B, asB_B, setD, look_at_plan_ok _ hp, fits_ok, hv]
  rw [e, leave_rt]
theorem look_at_stand_ok (k : Nat) {p : Pl} (v : D) (hv : D.flat 60 v = true) (h : fitsD p v = true) (S : Store) : callF tab (k + 3) n_look_at_stand [p.d, v] S = .ok .non S := by
  rw [u_look_at_stand]
  have e : exL (callF tab (k + 2)) ir_look_at_stand.body [some p.d, some v] S = .nx [some p.d, some v] S := by
    simp [ir_look_at_stand, exL_n, exL_c, seq_nx, seq_rt, seq_ex, seq_bk, seq_ct, fl_non, fl_bl, fl_int, fl_str, exS, ev, evs, ix_t, ix_l, ix_s, atI_0, atI_1, atI_2, atI_3, atI_4, atI_5, atI_6, cm_lt, cm_le, cm_gt, cm_ge, cm_eqi, cm_nei, cm_eqs, cm_in2, op_addi, op_subi, op_muli, op_addl, op_addt, op_bl, op_mul0, op_x1, op_x0, op_mod, op_div, pr_int, pr_intb, pr_max, pr_min, pr_abs, bT_n, bT_t, bTs_n, bTs_c, sP_n, sP_c, isNon, iteB, thB, bindB, lift_B, asB_B, setD, fits_ok, hv, h]
  rw [e, leave_nx]
end Wt
set_option maxRecDepth 100000
set_option maxHeartbeats 1000000
/-! Choices, ticks. -/
namespace Wt
open PySem L2
def chL (n : Nat) : List D := (List.range n).flatMap fun (i : Nat) => [.tup [.int (i : Int), .bl false], .tup [.int (i : Int), .bl true]]
def chN (p : Pl) (s : Sd) : Nat := if s.since = p.apart then p.most.toNat + 1 else 1
theorem rng_1 : itD .rng [.int 1] = some [.int 0] := rfl
theorem rng_2 : itD .rng [.int 2] = some [.int 0, .int 1] := rfl
theorem rng_3 : itD .rng [.int 3] = some [.int 0, .int 1, .int 2] := rfl
theorem rng_4 : itD .rng [.int 4] = some [.int 0, .int 1, .int 2, .int 3] := rfl
theorem rng_5 : itD .rng [.int 5] = some [.int 0, .int 1, .int 2, .int 3, .int 4] := rfl
theorem rng_12 : itD .rng [.int 1, .int 2] = some [.int 1] := rfl
theorem rng_13 : itD .rng [.int 1, .int 3] = some [.int 1, .int 2] := rfl
theorem rng_14 : itD .rng [.int 1, .int 4] = some [.int 1, .int 2, .int 3] := rfl
theorem rng_15 : itD .rng [.int 1, .int 5] = some [.int 1, .int 2, .int 3, .int 4] := rfl
theorem ch_1 : chL 1 = [.tup [.int 0, .bl false], .tup [.int 0, .bl true]] := rfl
theorem ch_2 : chL 2 = [.tup [.int 0, .bl false], .tup [.int 0, .bl true], .tup [.int 1, .bl false], .tup [.int 1, .bl true]] := rfl
theorem ch_3 : chL 3 = [.tup [.int 0, .bl false], .tup [.int 0, .bl true], .tup [.int 1, .bl false], .tup [.int 1, .bl true], .tup [.int 2, .bl false], .tup [.int 2, .bl true]] := rfl
theorem ch_4 : chL 4 = [.tup [.int 0, .bl false], .tup [.int 0, .bl true], .tup [.int 1, .bl false], .tup [.int 1, .bl true], .tup [.int 2, .bl false], .tup [.int 2, .bl true], .tup [.int 3, .bl false], .tup [.int 3, .bl true]] := rfl
theorem ch_5 : chL 5 = [.tup [.int 0, .bl false], .tup [.int 0, .bl true], .tup [.int 1, .bl false], .tup [.int 1, .bl true], .tup [.int 2, .bl false], .tup [.int 2, .bl true], .tup [.int 3, .bl false], .tup [.int 3, .bl true], .tup [.int 4, .bl false], .tup [.int 4, .bl true]] := rfl
theorem choices_of_ok (k : Nat) {p : Pl} (hp : p.Ok) (s : Sd) (S : Store) : callF tab (k + 1) n_choices_of [p.d, s.d] S = .ok (.lst (chL (chN p s))) S := by
  rw [u_choices_of]
  have a : (exL (callF tab k) ir_choices_of.body [some p.d, some s.d, none, none, none, none] S) = .rt (.lst (chL (chN p s))) S := by
    obtain ⟨tank, heat, cool, level, all, hand, most, apart⟩ := p
    have m1 := hp.m1
    have m2 := hp.m2
    simp only at m1 m2
    by_cases h : s.since = apart
    · obtain rfl | rfl | rfl | rfl : most = 1 ∨ most = 2 ∨ most = 3 ∨ most = 4 := by omega
      all_goals simp [ir_choices_of, Pl.d, Sd.d, exL_n, exL_c, seq_nx, seq_rt, seq_ex, seq_bk, seq_ct, fl_non, fl_bl, fl_int, fl_str, exS, ev, evs, ix_t, ix_l, ix_s, atI_0, atI_1, atI_2, atI_3, atI_4, atI_5, atI_6, cm_lt, cm_le, cm_gt, cm_ge, cm_eqi, cm_nei, cm_eqs, cm_in2, op_addi, op_subi, op_muli, op_addl, op_addt, op_bl, op_mul0, op_x1, op_x0, op_mod, op_div, pr_int, pr_intb, pr_max, pr_min, pr_abs, bT_n, bT_t, bTs_n, bTs_c, sP_n, sP_c, isNon, iteB, thB, bindB, lift_B, asB_B, setD, h, rng_2, rng_3, rng_4, rng_5, forL, chN, ch_2, ch_3, ch_4, ch_5]
    · simp [ir_choices_of, Pl.d, Sd.d, exL_n, exL_c, seq_nx, seq_rt, seq_ex, seq_bk, seq_ct, fl_non, fl_bl, fl_int, fl_str, exS, ev, evs, ix_t, ix_l, ix_s, atI_0, atI_1, atI_2, atI_3, atI_4, atI_5, atI_6, cm_lt, cm_le, cm_gt, cm_ge, cm_eqi, cm_nei, cm_eqs, cm_in2, op_addi, op_subi, op_muli, op_addl, op_addt, op_bl, op_mul0, op_x1, op_x0, op_mod, op_div, pr_int, pr_intb, pr_max, pr_min, pr_abs, bT_n, bT_t, bTs_n, bTs_c, sP_n, sP_c, isNon, iteB, thB, bindB, lift_B, asB_B, setD, h, rng_1, forL, chN, ch_1]
  rw [a, leave_rt]
theorem law_choices_ok (k : Nat) {p : Pl} (hp : p.Ok) (s : Sd) (S : Store) : callF tab (k + 1) n__law_choices [p.d, s.d] S = .ok (.lst (chL (chN p s))) S := by
  rw [u__law_choices]
  have a : (exL (callF tab k) ir__law_choices.body [some p.d, some s.d, none, none] S) = .rt (.lst (chL (chN p s))) S := by
    obtain ⟨tank, heat, cool, level, all, hand, most, apart⟩ := p
    have m1 := hp.m1
    have m2 := hp.m2
    simp only at m1 m2
    by_cases h : s.since = apart
    · obtain rfl | rfl | rfl | rfl : most = 1 ∨ most = 2 ∨ most = 3 ∨ most = 4 := by omega
      all_goals simp [ir__law_choices, Pl.d, Sd.d, exL_n, exL_c, seq_nx, seq_rt, seq_ex, seq_bk, seq_ct, fl_non, fl_bl, fl_int, fl_str, exS, ev, evs, ix_t, ix_l, ix_s, atI_0, atI_1, atI_2, atI_3, atI_4, atI_5, atI_6, cm_lt, cm_le, cm_gt, cm_ge, cm_eqi, cm_nei, cm_eqs, cm_in2, op_addi, op_subi, op_muli, op_addl, op_addt, op_bl, op_mul0, op_x1, op_x0, op_mod, op_div, pr_int, pr_intb, pr_max, pr_min, pr_abs, bT_n, bT_t, bTs_n, bTs_c, sP_n, sP_c, isNon, iteB, thB, bindB, lift_B, asB_B, setD, h, rng_12, rng_13, rng_14, rng_15, forL, chN, ch_2, ch_3, ch_4, ch_5]
    · simp [ir__law_choices, Pl.d, Sd.d, exL_n, exL_c, seq_nx, seq_rt, seq_ex, seq_bk, seq_ct, fl_non, fl_bl, fl_int, fl_str, exS, ev, evs, ix_t, ix_l, ix_s, atI_0, atI_1, atI_2, atI_3, atI_4, atI_5, atI_6, cm_lt, cm_le, cm_gt, cm_ge, cm_eqi, cm_nei, cm_eqs, cm_in2, op_addi, op_subi, op_muli, op_addl, op_addt, op_bl, op_mul0, op_x1, op_x0, op_mod, op_div, pr_int, pr_intb, pr_max, pr_min, pr_abs, bT_n, bT_t, bTs_n, bTs_c, sP_n, sP_c, isNon, iteB, thB, bindB, lift_B, asB_B, setD, h, forL, chN, ch_1]
  rw [a, leave_rt]
def drawnL (p : Pl) (s : Sd) (dr : Int) : Int × Int × Int × List Str :=
  if 0 < dr then ((if s.hot - dr > 0 then s.hot - dr else 0), 0, 0, if s.hot < dr then ["cold"] else [])
  else if s.hot = 0 then (s.hot, 0, (if s.since + 1 < p.apart then s.since + 1 else p.apart), [])
  else if p.cool = 0 then (s.hot, 0, (if s.since + 1 < p.apart then s.since + 1 else p.apart), [])
  else if s.stood + 1 = p.cool then (s.hot - 1, 0, (if s.since + 1 < p.apart then s.since + 1 else p.apart), ["lost"])
  else (s.hot, s.stood + 1, (if s.since + 1 < p.apart then s.since + 1 else p.apart), [])
def wordsD (l : List Str) : D := .lst (l.map D.str)
theorem drawn_ok (k : Nat) (p : Pl) (s : Sd) (dr : Int) (S : Store) : callF tab (k + 1) n_drawn [p.d, s.d, .int dr] S = .ok (.tup [.int (drawnL p s dr).1, .int (drawnL p s dr).2.1, .int (drawnL p s dr).2.2.1, wordsD (drawnL p s dr).2.2.2]) S := by
  rw [u_drawn]
  have e : exL (callF tab k) ir_drawn.body [some p.d, some s.d, some (.int dr), none, none, none, none, none, none, none, none, none] S = .rt (.tup [.int (drawnL p s dr).1, .int (drawnL p s dr).2.1, .int (drawnL p s dr).2.2.1, wordsD (drawnL p s dr).2.2.2]) S := by
    by_cases h : 0 < dr
    · by_cases h2 : s.hot < dr <;> simp [ir_drawn, Pl.d, Sd.d, exL_n, exL_c, seq_nx, seq_rt, seq_ex, seq_bk, seq_ct, fl_non, fl_bl, fl_int, fl_str, exS, ev, evs, ix_t, ix_l, ix_s, atI_0, atI_1, atI_2, atI_3, atI_4, atI_5, atI_6, cm_lt, cm_le, cm_gt, cm_ge, cm_eqi, cm_nei, cm_eqs, cm_in2, op_addi, op_subi, op_muli, op_addl, op_addt, op_bl, op_mul0, op_x1, op_x0, op_mod, op_div, pr_int, pr_intb, pr_max, pr_min, pr_abs, bT_n, bT_t, bTs_n, bTs_c, sP_n, sP_c, isNon, iteB, thB, bindB, lift_B, asB_B, setD, drawnL, wordsD, h, h2]
    · by_cases h2 : s.hot = 0
      · simp [ir_drawn, Pl.d, Sd.d, exL_n, exL_c, seq_nx, seq_rt, seq_ex, seq_bk, seq_ct, fl_non, fl_bl, fl_int, fl_str, exS, ev, evs, ix_t, ix_l, ix_s, atI_0, atI_1, atI_2, atI_3, atI_4, atI_5, atI_6, cm_lt, cm_le, cm_gt, cm_ge, cm_eqi, cm_nei, cm_eqs, cm_in2, op_addi, op_subi, op_muli, op_addl, op_addt, op_bl, op_mul0, op_x1, op_x0, op_mod, op_div, pr_int, pr_intb, pr_max, pr_min, pr_abs, bT_n, bT_t, bTs_n, bTs_c, sP_n, sP_c, isNon, iteB, thB, bindB, lift_B, asB_B, setD, drawnL, wordsD, h, h2]
      · by_cases h3 : p.cool = 0
        · simp [ir_drawn, Pl.d, Sd.d, exL_n, exL_c, seq_nx, seq_rt, seq_ex, seq_bk, seq_ct, fl_non, fl_bl, fl_int, fl_str, exS, ev, evs, ix_t, ix_l, ix_s, atI_0, atI_1, atI_2, atI_3, atI_4, atI_5, atI_6, cm_lt, cm_le, cm_gt, cm_ge, cm_eqi, cm_nei, cm_eqs, cm_in2, op_addi, op_subi, op_muli, op_addl, op_addt, op_bl, op_mul0, op_x1, op_x0, op_mod, op_div, pr_int, pr_intb, pr_max, pr_min, pr_abs, bT_n, bT_t, bTs_n, bTs_c, sP_n, sP_c, isNon, iteB, thB, bindB, lift_B, asB_B, setD, drawnL, wordsD, h, h2, h3]
        · by_cases h4 : s.stood + 1 = p.cool <;> simp [ir_drawn, Pl.d, Sd.d, exL_n, exL_c, seq_nx, seq_rt, seq_ex, seq_bk, seq_ct, fl_non, fl_bl, fl_int, fl_str, exS, ev, evs, ix_t, ix_l, ix_s, atI_0, atI_1, atI_2, atI_3, atI_4, atI_5, atI_6, cm_lt, cm_le, cm_gt, cm_ge, cm_eqi, cm_nei, cm_eqs, cm_in2, op_addi, op_subi, op_muli, op_addl, op_addt, op_bl, op_mul0, op_x1, op_x0, op_mod, op_div, pr_int, pr_intb, pr_max, pr_min, pr_abs, bT_n, bT_t, bTs_n, bTs_c, sP_n, sP_c, isNon, iteB, thB, bindB, lift_B, asB_B, setD, drawnL, wordsD, h, h2, h3, h4]
  rw [e, leave_rt]
def onL (p : Pl) (hot : Int) (on : Bool) : Bool := if hot = p.tank then false else (decide (hot ≤ p.level) || on)
/-- does it heat? -/
def heatsL (p : Pl) (hot hour : Int) (on held : Bool) : Bool := decide (hot ≠ p.tank) && (held || (onL p hot on && (p.all || decide (hour < 2))))
def tickL (p : Pl) (hot : Int) (on : Bool) (warmed hour : Int) (held : Bool) : Int × Bool × Int :=
  if heatsL p hot hour on held = true then (if warmed + 1 = p.heat then (hot + 1, onL p hot on && decide (hot + 1 < p.tank), 0) else (hot, onL p hot on, warmed + 1))
  else (hot, onL p hot on, if hot = p.tank then 0 else warmed)
def heldL (p : Pl) (s : Sd) (pr : Bool) : Bool := s.held || (pr && p.hand)
abbrev Dr := Int × Int × Int × List Str
def wordQ (p : Pl) (s : Sd) (pr : Bool) (q : Dr) : List Str :=
  (q.2.2.2 ++ (if heatsL p q.1 s.hour s.on (heldL p s pr) = true then ([if s.hour < 2 then "cheap" else "dear"] : List Str) else [])) ++ (if (tickL p q.1 s.on s.warmed s.hour (heldL p s pr)).1 = 0 then (["empty"] : List Str) else [])
def nextQ (p : Pl) (s : Sd) (pr : Bool) (q : Dr) : Sd :=
  ⟨(tickL p q.1 s.on s.warmed s.hour (heldL p s pr)).1, (tickL p q.1 s.on s.warmed s.hour (heldL p s pr)).2.1, (tickL p q.1 s.on s.warmed s.hour (heldL p s pr)).2.2, q.2.1, (s.hour + 1) % 4, q.2.2.1, heldL p s pr && decide (0 < (s.hour + 1) % 4)⟩
def passedQ (p : Pl) (s : Sd) (pr : Bool) (q : Dr) : D := .tup [(nextQ p s pr q).d, wordsD (sortS (wordQ p s pr q))]
def passedD (p : Pl) (s : Sd) (dr : Int) (pr : Bool) : D := passedQ p s pr (drawnL p s dr)
theorem drawn_hot {p : Pl} {s : Sd} (hs : s.Ok p) (dr : Int) : 0 ≤ (drawnL p s dr).1 ∧ (drawnL p s dr).1 ≤ p.tank := by
  obtain ⟨_, _, _, _, _, _, _, _, _, _⟩ := hs
  unfold drawnL
  by_cases h : 0 < dr
  · simp only [h, if_true]; split <;> constructor <;> omega
  · simp only [h, if_false]
    split
    · simp; omega
    · split
      · simp; omega
      · split <;> simp <;> omega
theorem drawn_words (p : Pl) (s : Sd) (dr : Int) : (drawnL p s dr).2.2.2.length ≤ 1 := by
  unfold drawnL
  repeat' split
  all_goals simp
theorem strsD_map : ∀ l : List Str, strsD (l.map D.str) = some l
  | [] => rfl
  | x :: r => by simp only [List.map_cons, strsD, strsD_map r, Option.map_some]
theorem strsD_c (x : Str) (r : List D) : strsD (.str x :: r) = (strsD r).map (x :: ·) := rfl
theorem strsD_n : strsD [] = some [] := rfl
theorem strsD_app (l : List Str) (b : List D) : strsD (l.map D.str ++ b) = (strsD b).map (l ++ ·) := by
  induction l with
  | nil => simp
  | cons x l ih =>
    simp only [List.map_cons, List.cons_append, strsD_c, ih]
    cases strsD b <;> rfl
theorem pr_sS (xs : List D) (S : Store) : prD .sorted [.lst xs] S = (strsD xs).bind fun ss => if decide (ss.length < 64) = true then some (.lst ((sortS ss).map D.str)) else none := rfl
theorem pr_sort (l : List Str) (h : l.length < 64) (S : Store) : prD .sorted [.lst (l.map D.str)] S = some (wordsD (sortS l)) := by
  simp only [prD, strsD_map, Option.bind_some, h, decide_true, if_true, wordsD]
theorem passed_q (k : Nat) {p : Pl} {s : Sd} (o1 : 0 ≤ s.hour) (o2 : s.hour ≤ 3) (dr : Int) (pr : Bool) (S : Store) (hot stood since : Int) (ws : List Str) (hz : 0 ≤ hot) (hb : hot ≤ p.tank) (hw : ws.length ≤ 1)
    (hd : callF tab (k + 1) n_drawn [p.d, s.d, .int dr] S = .ok (.tup [.int hot, .int stood, .int since, .lst (ws.map D.str)]) S) :
    exL (callF tab (k + 1)) ir_passed.body [some p.d, some s.d, some (.tup [.int dr, .bl pr]), none, none, none, none, none, none, none, none, none, none, none, none, none, none, none, none] S = .rt (passedQ p s pr (hot, stood, since, ws)) S := by
  obtain ⟨tank, heat, cool, level, al, hand, most, apart⟩ := p
  obtain ⟨hot0, on, warmed, stood0, hour, since0, held⟩ := s
  simp only [Pl.d, Sd.d] at *
  have hl1 : ws.length < 64 := by omega
  have hl2 : ws.length + 1 < 64 := by omega
  have hl3 : ws.length + 1 + 1 < 64 := by omega
  have hl4 : ws.length + 1 ≤ 1000000 := by omega
  have hl5 : ws.length + 1 + 1 ≤ 1000000 := by omega
  have hl6 : ws.length ≤ 1000000 := by omega
  have ha := hour_all al
  have hk := ok_hour al
  have oa := ok_all
  by_cases h1 : hot = tank
  · subst h1
    by_cases h0 : hot = 0
    · subst h0
      simp [ir_passed, Pl.d, Sd.d, exL_n, exL_c, seq_nx, seq_rt, seq_ex, seq_bk, seq_ct, fl_non, fl_bl, fl_int, fl_str, exS, ev, evs, ix_t, ix_l, ix_s, atI_0, atI_1, atI_2, atI_3, atI_4, atI_5, atI_6, cm_lt, cm_le, cm_gt, cm_ge, cm_eqi, cm_nei, cm_eqs, cm_in2, op_addi, op_subi, op_muli, op_addl, op_addt, op_bl, op_mul0, op_x1, op_x0, op_mod, op_div, pr_int, pr_intb, pr_max, pr_min, pr_abs, bT_n, bT_t, bTs_n, bTs_c, sP_n, sP_c, isNon, iteB, thB, bindB, lift_B, asB_B, setD, strsD_c, strsD_n, strsD_app, strsD_map, pr_sS, wordsD, hd, hl1, hl2, hl3, hl4, hl5, hl6, passedQ, nextQ, wordQ, tickL, heatsL, onL, heldL]
    · simp [ir_passed, Pl.d, Sd.d, exL_n, exL_c, seq_nx, seq_rt, seq_ex, seq_bk, seq_ct, fl_non, fl_bl, fl_int, fl_str, exS, ev, evs, ix_t, ix_l, ix_s, atI_0, atI_1, atI_2, atI_3, atI_4, atI_5, atI_6, cm_lt, cm_le, cm_gt, cm_ge, cm_eqi, cm_nei, cm_eqs, cm_in2, op_addi, op_subi, op_muli, op_addl, op_addt, op_bl, op_mul0, op_x1, op_x0, op_mod, op_div, pr_int, pr_intb, pr_max, pr_min, pr_abs, bT_n, bT_t, bTs_n, bTs_c, sP_n, sP_c, isNon, iteB, thB, bindB, lift_B, asB_B, setD, strsD_c, strsD_n, strsD_app, strsD_map, pr_sS, wordsD, hd, h0, hl1, hl2, hl3, hl4, hl5, hl6, passedQ, nextQ, wordQ, tickL, heatsL, onL, heldL]
  · have h2 : hot < tank := by omega
    have h5 : ¬ hot + 1 = 0 := by omega
    have h7 : ¬ tank = hot := by omega
    have h8 : (0 : Int) < tank := by omega
    by_cases h3 : hot ≤ level
    · by_cases h4 : hour < 2
      · by_cases hw : warmed + 1 = heat
        · subst hw
          simp [ir_passed, Pl.d, Sd.d, exL_n, exL_c, seq_nx, seq_rt, seq_ex, seq_bk, seq_ct, fl_non, fl_bl, fl_int, fl_str, exS, ev, evs, ix_t, ix_l, ix_s, atI_0, atI_1, atI_2, atI_3, atI_4, atI_5, atI_6, cm_lt, cm_le, cm_gt, cm_ge, cm_eqi, cm_nei, cm_eqs, cm_in2, op_addi, op_subi, op_muli, op_addl, op_addt, op_bl, op_mul0, op_x1, op_x0, op_mod, op_div, pr_int, pr_intb, pr_max, pr_min, pr_abs, bT_n, bT_t, bTs_n, bTs_c, sP_n, sP_c, isNon, iteB, thB, bindB, lift_B, asB_B, setD, strsD_c, strsD_n, strsD_app, strsD_map, pr_sS, wordsD, hd, h1, h2, h3, h4, h5, h7, h8, ha, hk, oa, hl1, hl2, hl3, hl4, hl5, hl6, passedQ, nextQ, wordQ, tickL, heatsL, onL, heldL]
        · by_cases h0 : hot = 0
          · subst h0
            simp [ir_passed, Pl.d, Sd.d, exL_n, exL_c, seq_nx, seq_rt, seq_ex, seq_bk, seq_ct, fl_non, fl_bl, fl_int, fl_str, exS, ev, evs, ix_t, ix_l, ix_s, atI_0, atI_1, atI_2, atI_3, atI_4, atI_5, atI_6, cm_lt, cm_le, cm_gt, cm_ge, cm_eqi, cm_nei, cm_eqs, cm_in2, op_addi, op_subi, op_muli, op_addl, op_addt, op_bl, op_mul0, op_x1, op_x0, op_mod, op_div, pr_int, pr_intb, pr_max, pr_min, pr_abs, bT_n, bT_t, bTs_n, bTs_c, sP_n, sP_c, isNon, iteB, thB, bindB, lift_B, asB_B, setD, strsD_c, strsD_n, strsD_app, strsD_map, pr_sS, wordsD, hd, h1, h2, h3, h4, h5, h7, h8, ha, hk, oa, hl1, hl2, hl3, hl4, hl5, hl6, passedQ, nextQ, wordQ, tickL, heatsL, onL, heldL, hw]
          · simp [ir_passed, Pl.d, Sd.d, exL_n, exL_c, seq_nx, seq_rt, seq_ex, seq_bk, seq_ct, fl_non, fl_bl, fl_int, fl_str, exS, ev, evs, ix_t, ix_l, ix_s, atI_0, atI_1, atI_2, atI_3, atI_4, atI_5, atI_6, cm_lt, cm_le, cm_gt, cm_ge, cm_eqi, cm_nei, cm_eqs, cm_in2, op_addi, op_subi, op_muli, op_addl, op_addt, op_bl, op_mul0, op_x1, op_x0, op_mod, op_div, pr_int, pr_intb, pr_max, pr_min, pr_abs, bT_n, bT_t, bTs_n, bTs_c, sP_n, sP_c, isNon, iteB, thB, bindB, lift_B, asB_B, setD, strsD_c, strsD_n, strsD_app, strsD_map, pr_sS, wordsD, hd, h1, h2, h3, h4, h5, h7, h8, ha, hk, oa, hl1, hl2, hl3, hl4, hl5, hl6, passedQ, nextQ, wordQ, tickL, heatsL, onL, heldL, hw, h0]
      · cases hG : ((held || pr && hand) || al)
        · by_cases h0 : hot = 0
          · subst h0
            simp [ir_passed, Pl.d, Sd.d, exL_n, exL_c, seq_nx, seq_rt, seq_ex, seq_bk, seq_ct, fl_non, fl_bl, fl_int, fl_str, exS, ev, evs, ix_t, ix_l, ix_s, atI_0, atI_1, atI_2, atI_3, atI_4, atI_5, atI_6, cm_lt, cm_le, cm_gt, cm_ge, cm_eqi, cm_nei, cm_eqs, cm_in2, op_addi, op_subi, op_muli, op_addl, op_addt, op_bl, op_mul0, op_x1, op_x0, op_mod, op_div, pr_int, pr_intb, pr_max, pr_min, pr_abs, bT_n, bT_t, bTs_n, bTs_c, sP_n, sP_c, isNon, iteB, thB, bindB, lift_B, asB_B, setD, strsD_c, strsD_n, strsD_app, strsD_map, pr_sS, wordsD, hd, h1, h2, h3, h4, h5, h7, h8, ha, hk, oa, hl1, hl2, hl3, hl4, hl5, hl6, passedQ, nextQ, wordQ, tickL, heatsL, onL, heldL, hG]
          · simp [ir_passed, Pl.d, Sd.d, exL_n, exL_c, seq_nx, seq_rt, seq_ex, seq_bk, seq_ct, fl_non, fl_bl, fl_int, fl_str, exS, ev, evs, ix_t, ix_l, ix_s, atI_0, atI_1, atI_2, atI_3, atI_4, atI_5, atI_6, cm_lt, cm_le, cm_gt, cm_ge, cm_eqi, cm_nei, cm_eqs, cm_in2, op_addi, op_subi, op_muli, op_addl, op_addt, op_bl, op_mul0, op_x1, op_x0, op_mod, op_div, pr_int, pr_intb, pr_max, pr_min, pr_abs, bT_n, bT_t, bTs_n, bTs_c, sP_n, sP_c, isNon, iteB, thB, bindB, lift_B, asB_B, setD, strsD_c, strsD_n, strsD_app, strsD_map, pr_sS, wordsD, hd, h1, h2, h3, h4, h5, h7, h8, ha, hk, oa, hl1, hl2, hl3, hl4, hl5, hl6, passedQ, nextQ, wordQ, tickL, heatsL, onL, heldL, hG, h0]
        · by_cases hw : warmed + 1 = heat
          · subst hw
            simp [ir_passed, Pl.d, Sd.d, exL_n, exL_c, seq_nx, seq_rt, seq_ex, seq_bk, seq_ct, fl_non, fl_bl, fl_int, fl_str, exS, ev, evs, ix_t, ix_l, ix_s, atI_0, atI_1, atI_2, atI_3, atI_4, atI_5, atI_6, cm_lt, cm_le, cm_gt, cm_ge, cm_eqi, cm_nei, cm_eqs, cm_in2, op_addi, op_subi, op_muli, op_addl, op_addt, op_bl, op_mul0, op_x1, op_x0, op_mod, op_div, pr_int, pr_intb, pr_max, pr_min, pr_abs, bT_n, bT_t, bTs_n, bTs_c, sP_n, sP_c, isNon, iteB, thB, bindB, lift_B, asB_B, setD, strsD_c, strsD_n, strsD_app, strsD_map, pr_sS, wordsD, hd, h1, h2, h3, h4, h5, h7, h8, ha, hk, oa, hl1, hl2, hl3, hl4, hl5, hl6, passedQ, nextQ, wordQ, tickL, heatsL, onL, heldL, hG]
          · by_cases h0 : hot = 0
            · subst h0
              simp [ir_passed, Pl.d, Sd.d, exL_n, exL_c, seq_nx, seq_rt, seq_ex, seq_bk, seq_ct, fl_non, fl_bl, fl_int, fl_str, exS, ev, evs, ix_t, ix_l, ix_s, atI_0, atI_1, atI_2, atI_3, atI_4, atI_5, atI_6, cm_lt, cm_le, cm_gt, cm_ge, cm_eqi, cm_nei, cm_eqs, cm_in2, op_addi, op_subi, op_muli, op_addl, op_addt, op_bl, op_mul0, op_x1, op_x0, op_mod, op_div, pr_int, pr_intb, pr_max, pr_min, pr_abs, bT_n, bT_t, bTs_n, bTs_c, sP_n, sP_c, isNon, iteB, thB, bindB, lift_B, asB_B, setD, strsD_c, strsD_n, strsD_app, strsD_map, pr_sS, wordsD, hd, h1, h2, h3, h4, h5, h7, h8, ha, hk, oa, hl1, hl2, hl3, hl4, hl5, hl6, passedQ, nextQ, wordQ, tickL, heatsL, onL, heldL, hG, hw]
            · simp [ir_passed, Pl.d, Sd.d, exL_n, exL_c, seq_nx, seq_rt, seq_ex, seq_bk, seq_ct, fl_non, fl_bl, fl_int, fl_str, exS, ev, evs, ix_t, ix_l, ix_s, atI_0, atI_1, atI_2, atI_3, atI_4, atI_5, atI_6, cm_lt, cm_le, cm_gt, cm_ge, cm_eqi, cm_nei, cm_eqs, cm_in2, op_addi, op_subi, op_muli, op_addl, op_addt, op_bl, op_mul0, op_x1, op_x0, op_mod, op_div, pr_int, pr_intb, pr_max, pr_min, pr_abs, bT_n, bT_t, bTs_n, bTs_c, sP_n, sP_c, isNon, iteB, thB, bindB, lift_B, asB_B, setD, strsD_c, strsD_n, strsD_app, strsD_map, pr_sS, wordsD, hd, h1, h2, h3, h4, h5, h7, h8, ha, hk, oa, hl1, hl2, hl3, hl4, hl5, hl6, passedQ, nextQ, wordQ, tickL, heatsL, onL, heldL, hG, hw, h0]
    · by_cases h4 : hour < 2
      · cases hG : ((held || pr && hand) || on)
        · by_cases h0 : hot = 0
          · subst h0
            simp [ir_passed, Pl.d, Sd.d, exL_n, exL_c, seq_nx, seq_rt, seq_ex, seq_bk, seq_ct, fl_non, fl_bl, fl_int, fl_str, exS, ev, evs, ix_t, ix_l, ix_s, atI_0, atI_1, atI_2, atI_3, atI_4, atI_5, atI_6, cm_lt, cm_le, cm_gt, cm_ge, cm_eqi, cm_nei, cm_eqs, cm_in2, op_addi, op_subi, op_muli, op_addl, op_addt, op_bl, op_mul0, op_x1, op_x0, op_mod, op_div, pr_int, pr_intb, pr_max, pr_min, pr_abs, bT_n, bT_t, bTs_n, bTs_c, sP_n, sP_c, isNon, iteB, thB, bindB, lift_B, asB_B, setD, strsD_c, strsD_n, strsD_app, strsD_map, pr_sS, wordsD, hd, h1, h2, h3, h4, h5, h7, h8, ha, hk, oa, hl1, hl2, hl3, hl4, hl5, hl6, passedQ, nextQ, wordQ, tickL, heatsL, onL, heldL, hG]
          · simp [ir_passed, Pl.d, Sd.d, exL_n, exL_c, seq_nx, seq_rt, seq_ex, seq_bk, seq_ct, fl_non, fl_bl, fl_int, fl_str, exS, ev, evs, ix_t, ix_l, ix_s, atI_0, atI_1, atI_2, atI_3, atI_4, atI_5, atI_6, cm_lt, cm_le, cm_gt, cm_ge, cm_eqi, cm_nei, cm_eqs, cm_in2, op_addi, op_subi, op_muli, op_addl, op_addt, op_bl, op_mul0, op_x1, op_x0, op_mod, op_div, pr_int, pr_intb, pr_max, pr_min, pr_abs, bT_n, bT_t, bTs_n, bTs_c, sP_n, sP_c, isNon, iteB, thB, bindB, lift_B, asB_B, setD, strsD_c, strsD_n, strsD_app, strsD_map, pr_sS, wordsD, hd, h1, h2, h3, h4, h5, h7, h8, ha, hk, oa, hl1, hl2, hl3, hl4, hl5, hl6, passedQ, nextQ, wordQ, tickL, heatsL, onL, heldL, hG, h0]
        · by_cases hw : warmed + 1 = heat
          · subst hw
            simp [ir_passed, Pl.d, Sd.d, exL_n, exL_c, seq_nx, seq_rt, seq_ex, seq_bk, seq_ct, fl_non, fl_bl, fl_int, fl_str, exS, ev, evs, ix_t, ix_l, ix_s, atI_0, atI_1, atI_2, atI_3, atI_4, atI_5, atI_6, cm_lt, cm_le, cm_gt, cm_ge, cm_eqi, cm_nei, cm_eqs, cm_in2, op_addi, op_subi, op_muli, op_addl, op_addt, op_bl, op_mul0, op_x1, op_x0, op_mod, op_div, pr_int, pr_intb, pr_max, pr_min, pr_abs, bT_n, bT_t, bTs_n, bTs_c, sP_n, sP_c, isNon, iteB, thB, bindB, lift_B, asB_B, setD, strsD_c, strsD_n, strsD_app, strsD_map, pr_sS, wordsD, hd, h1, h2, h3, h4, h5, h7, h8, ha, hk, oa, hl1, hl2, hl3, hl4, hl5, hl6, passedQ, nextQ, wordQ, tickL, heatsL, onL, heldL, hG]
          · by_cases h0 : hot = 0
            · subst h0
              simp [ir_passed, Pl.d, Sd.d, exL_n, exL_c, seq_nx, seq_rt, seq_ex, seq_bk, seq_ct, fl_non, fl_bl, fl_int, fl_str, exS, ev, evs, ix_t, ix_l, ix_s, atI_0, atI_1, atI_2, atI_3, atI_4, atI_5, atI_6, cm_lt, cm_le, cm_gt, cm_ge, cm_eqi, cm_nei, cm_eqs, cm_in2, op_addi, op_subi, op_muli, op_addl, op_addt, op_bl, op_mul0, op_x1, op_x0, op_mod, op_div, pr_int, pr_intb, pr_max, pr_min, pr_abs, bT_n, bT_t, bTs_n, bTs_c, sP_n, sP_c, isNon, iteB, thB, bindB, lift_B, asB_B, setD, strsD_c, strsD_n, strsD_app, strsD_map, pr_sS, wordsD, hd, h1, h2, h3, h4, h5, h7, h8, ha, hk, oa, hl1, hl2, hl3, hl4, hl5, hl6, passedQ, nextQ, wordQ, tickL, heatsL, onL, heldL, hG, hw]
            · simp [ir_passed, Pl.d, Sd.d, exL_n, exL_c, seq_nx, seq_rt, seq_ex, seq_bk, seq_ct, fl_non, fl_bl, fl_int, fl_str, exS, ev, evs, ix_t, ix_l, ix_s, atI_0, atI_1, atI_2, atI_3, atI_4, atI_5, atI_6, cm_lt, cm_le, cm_gt, cm_ge, cm_eqi, cm_nei, cm_eqs, cm_in2, op_addi, op_subi, op_muli, op_addl, op_addt, op_bl, op_mul0, op_x1, op_x0, op_mod, op_div, pr_int, pr_intb, pr_max, pr_min, pr_abs, bT_n, bT_t, bTs_n, bTs_c, sP_n, sP_c, isNon, iteB, thB, bindB, lift_B, asB_B, setD, strsD_c, strsD_n, strsD_app, strsD_map, pr_sS, wordsD, hd, h1, h2, h3, h4, h5, h7, h8, ha, hk, oa, hl1, hl2, hl3, hl4, hl5, hl6, passedQ, nextQ, wordQ, tickL, heatsL, onL, heldL, hG, hw, h0]
      · cases hG : ((held || pr && hand) || (on && al))
        · by_cases h0 : hot = 0
          · subst h0
            simp [ir_passed, Pl.d, Sd.d, exL_n, exL_c, seq_nx, seq_rt, seq_ex, seq_bk, seq_ct, fl_non, fl_bl, fl_int, fl_str, exS, ev, evs, ix_t, ix_l, ix_s, atI_0, atI_1, atI_2, atI_3, atI_4, atI_5, atI_6, cm_lt, cm_le, cm_gt, cm_ge, cm_eqi, cm_nei, cm_eqs, cm_in2, op_addi, op_subi, op_muli, op_addl, op_addt, op_bl, op_mul0, op_x1, op_x0, op_mod, op_div, pr_int, pr_intb, pr_max, pr_min, pr_abs, bT_n, bT_t, bTs_n, bTs_c, sP_n, sP_c, isNon, iteB, thB, bindB, lift_B, asB_B, setD, strsD_c, strsD_n, strsD_app, strsD_map, pr_sS, wordsD, hd, h1, h2, h3, h4, h5, h7, h8, ha, hk, oa, hl1, hl2, hl3, hl4, hl5, hl6, passedQ, nextQ, wordQ, tickL, heatsL, onL, heldL, hG]
          · simp [ir_passed, Pl.d, Sd.d, exL_n, exL_c, seq_nx, seq_rt, seq_ex, seq_bk, seq_ct, fl_non, fl_bl, fl_int, fl_str, exS, ev, evs, ix_t, ix_l, ix_s, atI_0, atI_1, atI_2, atI_3, atI_4, atI_5, atI_6, cm_lt, cm_le, cm_gt, cm_ge, cm_eqi, cm_nei, cm_eqs, cm_in2, op_addi, op_subi, op_muli, op_addl, op_addt, op_bl, op_mul0, op_x1, op_x0, op_mod, op_div, pr_int, pr_intb, pr_max, pr_min, pr_abs, bT_n, bT_t, bTs_n, bTs_c, sP_n, sP_c, isNon, iteB, thB, bindB, lift_B, asB_B, setD, strsD_c, strsD_n, strsD_app, strsD_map, pr_sS, wordsD, hd, h1, h2, h3, h4, h5, h7, h8, ha, hk, oa, hl1, hl2, hl3, hl4, hl5, hl6, passedQ, nextQ, wordQ, tickL, heatsL, onL, heldL, hG, h0]
        · by_cases hw : warmed + 1 = heat
          · subst hw
            simp [ir_passed, Pl.d, Sd.d, exL_n, exL_c, seq_nx, seq_rt, seq_ex, seq_bk, seq_ct, fl_non, fl_bl, fl_int, fl_str, exS, ev, evs, ix_t, ix_l, ix_s, atI_0, atI_1, atI_2, atI_3, atI_4, atI_5, atI_6, cm_lt, cm_le, cm_gt, cm_ge, cm_eqi, cm_nei, cm_eqs, cm_in2, op_addi, op_subi, op_muli, op_addl, op_addt, op_bl, op_mul0, op_x1, op_x0, op_mod, op_div, pr_int, pr_intb, pr_max, pr_min, pr_abs, bT_n, bT_t, bTs_n, bTs_c, sP_n, sP_c, isNon, iteB, thB, bindB, lift_B, asB_B, setD, strsD_c, strsD_n, strsD_app, strsD_map, pr_sS, wordsD, hd, h1, h2, h3, h4, h5, h7, h8, ha, hk, oa, hl1, hl2, hl3, hl4, hl5, hl6, passedQ, nextQ, wordQ, tickL, heatsL, onL, heldL, hG]
          · by_cases h0 : hot = 0
            · subst h0
              simp [ir_passed, Pl.d, Sd.d, exL_n, exL_c, seq_nx, seq_rt, seq_ex, seq_bk, seq_ct, fl_non, fl_bl, fl_int, fl_str, exS, ev, evs, ix_t, ix_l, ix_s, atI_0, atI_1, atI_2, atI_3, atI_4, atI_5, atI_6, cm_lt, cm_le, cm_gt, cm_ge, cm_eqi, cm_nei, cm_eqs, cm_in2, op_addi, op_subi, op_muli, op_addl, op_addt, op_bl, op_mul0, op_x1, op_x0, op_mod, op_div, pr_int, pr_intb, pr_max, pr_min, pr_abs, bT_n, bT_t, bTs_n, bTs_c, sP_n, sP_c, isNon, iteB, thB, bindB, lift_B, asB_B, setD, strsD_c, strsD_n, strsD_app, strsD_map, pr_sS, wordsD, hd, h1, h2, h3, h4, h5, h7, h8, ha, hk, oa, hl1, hl2, hl3, hl4, hl5, hl6, passedQ, nextQ, wordQ, tickL, heatsL, onL, heldL, hG, hw]
            · simp [ir_passed, Pl.d, Sd.d, exL_n, exL_c, seq_nx, seq_rt, seq_ex, seq_bk, seq_ct, fl_non, fl_bl, fl_int, fl_str, exS, ev, evs, ix_t, ix_l, ix_s, atI_0, atI_1, atI_2, atI_3, atI_4, atI_5, atI_6, cm_lt, cm_le, cm_gt, cm_ge, cm_eqi, cm_nei, cm_eqs, cm_in2, op_addi, op_subi, op_muli, op_addl, op_addt, op_bl, op_mul0, op_x1, op_x0, op_mod, op_div, pr_int, pr_intb, pr_max, pr_min, pr_abs, bT_n, bT_t, bTs_n, bTs_c, sP_n, sP_c, isNon, iteB, thB, bindB, lift_B, asB_B, setD, strsD_c, strsD_n, strsD_app, strsD_map, pr_sS, wordsD, hd, h1, h2, h3, h4, h5, h7, h8, ha, hk, oa, hl1, hl2, hl3, hl4, hl5, hl6, passedQ, nextQ, wordQ, tickL, heatsL, onL, heldL, hG, hw, h0]
end Wt
set_option maxRecDepth 100000
set_option maxHeartbeats 1000000
/-! The tick as the law has it. -/
namespace Wt
open PySem L2
theorem passed_ok (k : Nat) {p : Pl} {s : Sd} (hs : s.Ok p) (dr : Int) (pr : Bool) (S : Store) : callF tab (k + 2) n_passed [p.d, s.d, .tup [.int dr, .bl pr]] S = .ok (passedD p s dr pr) S := by
  rw [u_passed, passed_q k hs.o1 hs.o2 dr pr S _ _ _ _ (drawn_hot hs dr).1 (drawn_hot hs dr).2 (drawn_words p s dr) (drawn_ok k p s dr S), leave_rt]
  rfl
theorem exL_app (F : Nat → List D → Store → Out D) : ∀ (a b : List Wt.S) (ρ : Slots) (S : Store), exL F (a ++ b) ρ S = (exL F a ρ S).seq fun ρ1 S1 => exL F b ρ1 S1
  | [], b, ρ, S => rfl
  | s :: a, b, ρ, S => by
    rw [List.cons_append, exL_c, exL_c]
    cases exS F s ρ S <;> simp only [seq_nx, seq_rt, seq_ex, seq_bk, seq_ct, exL_app F a b] <;> rfl
theorem tick1 (F : Nat → List D → Store → Out D) {p : Pl} {s : Sd} (hp : p.Ok) (hs : s.Ok p) (dr : Int) (h0 : 0 ≤ dr) (pr : Bool) (S : Store) :
    ∃ d, exL F (ir__law_tick.body.take 5) ([some p.d, some s.d, some (.tup [.int dr, .bl pr])] ++ List.replicate 18 none) S =
      .nx [some p.d, some s.d, some (.tup [.int dr, .bl pr]), some (.int s.hour), some (.int p.tank), some (.int p.heat), some (.int p.cool), some (.int (drawnL p s dr).1), some (.bl s.on), some (.int s.warmed), some (.int (drawnL p s dr).2.1), some (.int (drawnL p s dr).2.2.1),
        some (.bl (heldL p s pr)), some (.int dr), some (.bl pr), some (wordsD (drawnL p s dr).2.2.2), some (.int p.level), some (.str (hourS p.all)), some (.bl p.hand), some (.int p.most), some (.int p.apart)] S ∧ d = 0 := by
  refine ⟨0, ?_, rfl⟩
  have hc0 := hp.c1
  obtain ⟨tank, heat, cool, level, al, hand, most, apart⟩ := p
  obtain ⟨hot0, on, warmed, stood0, hour, since0, held⟩ := s
  obtain ⟨a1, a2, a3, a4, a5, a6, a7, a8, a9, a10⟩ := hs
  simp only at *
  by_cases h : dr = 0
  · subst h
    have hn : since0 + (if since0 < apart then 1 else 0) = if since0 + 1 < apart then since0 + 1 else apart := by
      split <;> split <;> omega
    by_cases h1 : hot0 = 0
    · subst h1
      by_cases h2 : cool = 0
      · subst h2
        simp [ir__law_tick, Pl.d, Sd.d, exL_n, exL_c, seq_nx, seq_rt, seq_ex, seq_bk, seq_ct, fl_non, fl_bl, fl_int, fl_str, exS, ev, evs, ix_t, ix_l, ix_s, atI_0, atI_1, atI_2, atI_3, atI_4, atI_5, atI_6, cm_lt, cm_le, cm_gt, cm_ge, cm_eqi, cm_nei, cm_eqs, cm_in2, op_addi, op_subi, op_muli, op_addl, op_addt, op_bl, op_mul0, op_x1, op_x0, op_mod, op_div, pr_int, pr_intb, pr_max, pr_min, pr_abs, bT_n, bT_t, bTs_n, bTs_c, sP_n, sP_c, isNon, iteB, thB, bindB, lift_B, asB_B, setD, drawnL, wordsD, heldL, hn]
      · have h3 : ¬ (0 : Int) = cool := by omega
        simp [ir__law_tick, Pl.d, Sd.d, exL_n, exL_c, seq_nx, seq_rt, seq_ex, seq_bk, seq_ct, fl_non, fl_bl, fl_int, fl_str, exS, ev, evs, ix_t, ix_l, ix_s, atI_0, atI_1, atI_2, atI_3, atI_4, atI_5, atI_6, cm_lt, cm_le, cm_gt, cm_ge, cm_eqi, cm_nei, cm_eqs, cm_in2, op_addi, op_subi, op_muli, op_addl, op_addt, op_bl, op_mul0, op_x1, op_x0, op_mod, op_div, pr_int, pr_intb, pr_max, pr_min, pr_abs, bT_n, bT_t, bTs_n, bTs_c, sP_n, sP_c, isNon, iteB, thB, bindB, lift_B, asB_B, setD, drawnL, wordsD, heldL, hn, h2, h3]
    · have h4 : 0 < hot0 := by omega
      by_cases h2 : cool ≤ 0
      · by_cases hc : cool = 0
        · subst hc
          simp [ir__law_tick, Pl.d, Sd.d, exL_n, exL_c, seq_nx, seq_rt, seq_ex, seq_bk, seq_ct, fl_non, fl_bl, fl_int, fl_str, exS, ev, evs, ix_t, ix_l, ix_s, atI_0, atI_1, atI_2, atI_3, atI_4, atI_5, atI_6, cm_lt, cm_le, cm_gt, cm_ge, cm_eqi, cm_nei, cm_eqs, cm_in2, op_addi, op_subi, op_muli, op_addl, op_addt, op_bl, op_mul0, op_x1, op_x0, op_mod, op_div, pr_int, pr_intb, pr_max, pr_min, pr_abs, bT_n, bT_t, bTs_n, bTs_c, sP_n, sP_c, isNon, iteB, thB, bindB, lift_B, asB_B, setD, drawnL, wordsD, heldL, hn, h1, h4]
        · omega
      · have h3 : 0 < cool := by omega
        have h6 : ¬ cool = 0 := by omega
        by_cases h5 : stood0 + 1 = cool
        · subst h5
          simp [ir__law_tick, Pl.d, Sd.d, exL_n, exL_c, seq_nx, seq_rt, seq_ex, seq_bk, seq_ct, fl_non, fl_bl, fl_int, fl_str, exS, ev, evs, ix_t, ix_l, ix_s, atI_0, atI_1, atI_2, atI_3, atI_4, atI_5, atI_6, cm_lt, cm_le, cm_gt, cm_ge, cm_eqi, cm_nei, cm_eqs, cm_in2, op_addi, op_subi, op_muli, op_addl, op_addt, op_bl, op_mul0, op_x1, op_x0, op_mod, op_div, pr_int, pr_intb, pr_max, pr_min, pr_abs, bT_n, bT_t, bTs_n, bTs_c, sP_n, sP_c, isNon, iteB, thB, bindB, lift_B, asB_B, setD, drawnL, wordsD, heldL, hn, h1, h4, h3, h6]
        · simp [ir__law_tick, Pl.d, Sd.d, exL_n, exL_c, seq_nx, seq_rt, seq_ex, seq_bk, seq_ct, fl_non, fl_bl, fl_int, fl_str, exS, ev, evs, ix_t, ix_l, ix_s, atI_0, atI_1, atI_2, atI_3, atI_4, atI_5, atI_6, cm_lt, cm_le, cm_gt, cm_ge, cm_eqi, cm_nei, cm_eqs, cm_in2, op_addi, op_subi, op_muli, op_addl, op_addt, op_bl, op_mul0, op_x1, op_x0, op_mod, op_div, pr_int, pr_intb, pr_max, pr_min, pr_abs, bT_n, bT_t, bTs_n, bTs_c, sP_n, sP_c, isNon, iteB, thB, bindB, lift_B, asB_B, setD, drawnL, wordsD, heldL, hn, h1, h4, h3, h5, h6]
  · have h1 : 0 < dr := by omega
    have h2 : (if (0 : Int) > hot0 - dr then 0 else hot0 - dr) = if hot0 - dr > 0 then hot0 - dr else 0 := by split <;> split <;> omega
    by_cases h3 : hot0 < dr
    · simp [ir__law_tick, Pl.d, Sd.d, exL_n, exL_c, seq_nx, seq_rt, seq_ex, seq_bk, seq_ct, fl_non, fl_bl, fl_int, fl_str, exS, ev, evs, ix_t, ix_l, ix_s, atI_0, atI_1, atI_2, atI_3, atI_4, atI_5, atI_6, cm_lt, cm_le, cm_gt, cm_ge, cm_eqi, cm_nei, cm_eqs, cm_in2, op_addi, op_subi, op_muli, op_addl, op_addt, op_bl, op_mul0, op_x1, op_x0, op_mod, op_div, pr_int, pr_intb, pr_max, pr_min, pr_abs, bT_n, bT_t, bTs_n, bTs_c, sP_n, sP_c, isNon, iteB, thB, bindB, lift_B, asB_B, setD, drawnL, wordsD, heldL, h, h1, h2, h3]
      all_goals (try omega)
    · simp [ir__law_tick, Pl.d, Sd.d, exL_n, exL_c, seq_nx, seq_rt, seq_ex, seq_bk, seq_ct, fl_non, fl_bl, fl_int, fl_str, exS, ev, evs, ix_t, ix_l, ix_s, atI_0, atI_1, atI_2, atI_3, atI_4, atI_5, atI_6, cm_lt, cm_le, cm_gt, cm_ge, cm_eqi, cm_nei, cm_eqs, cm_in2, op_addi, op_subi, op_muli, op_addl, op_addt, op_bl, op_mul0, op_x1, op_x0, op_mod, op_div, pr_int, pr_intb, pr_max, pr_min, pr_abs, bT_n, bT_t, bTs_n, bTs_c, sP_n, sP_c, isNon, iteB, thB, bindB, lift_B, asB_B, setD, drawnL, wordsD, heldL, h, h1, h2, h3]
      all_goals (try omega)
theorem in01 (x : Int) : cmpD .In (.int x) (.lst [.int 0, .int 1]) = some (decide (0 = x) || decide (1 = x)) := by
  have e : (D.flat 60 (.int x) && D.flatAll 60 [.int 0, .int 1]) = true := rfl
  show (if (D.flat 60 (.int x) && D.flatAll 60 [.int 0, .int 1]) = true then some ([D.int 0, .int 1].any fun z => D.eqv z (.int x)) else none) = _
  rw [e]
  simp [D.eqv]
  by_cases h : 0 = x <;> by_cases h2 : 1 = x <;> simp [h, h2]
theorem tick2 (F : Nat → List D → Store → Out D) {p : Pl} {s : Sd} (hp : p.Ok) (hs : s.Ok p) (a b c : D) (dr : Int) (pr : Bool) (S : Store) (hot stood since : Int) (ws : List Str) (hz : 0 ≤ hot) (hb : hot ≤ p.tank) (hw : ws.length ≤ 1) :
    exL F (ir__law_tick.body.drop 5) [some a, some b, some c, some (.int s.hour), some (.int p.tank), some (.int p.heat), some (.int p.cool), some (.int hot), some (.bl s.on), some (.int s.warmed), some (.int stood), some (.int since),
        some (.bl (heldL p s pr)), some (.int dr), some (.bl pr), some (wordsD ws), some (.int p.level), some (.str (hourS p.all)), some (.bl p.hand), some (.int p.most), some (.int p.apart)] S = .rt (passedQ p s pr (hot, stood, since, ws)) S := by
  have ph := hp.h1
  obtain ⟨tank, heat, cool, level, al, hand, most, apart⟩ := p
  obtain ⟨hot0, on, warmed, stood0, hour, since0, held⟩ := s
  obtain ⟨a1, a2, a3, a4, a5, a6, a7, a8, a9, a10⟩ := hs
  simp only at *
  have hl1 : ws.length < 64 := by omega
  have hl2 : ws.length + 1 < 64 := by omega
  have hl3 : ws.length + 1 + 1 < 64 := by omega
  have hl4 : ws.length + 1 ≤ 1000000 := by omega
  have hl5 : ws.length + 1 + 1 ≤ 1000000 := by omega
  have hl6 : ws.length ≤ 1000000 := by omega
  have ha := hour_all al
  have hk := ok_hour al
  have oa := ok_all
  by_cases h1 : hot = tank
  · subst h1
    by_cases h0 : hot = 0
    · subst h0
      obtain rfl | rfl | rfl | rfl : hour = 0 ∨ hour = 1 ∨ hour = 2 ∨ hour = 3 := by omega
      all_goals simp [ir__law_tick, exL_n, exL_c, seq_nx, seq_rt, seq_ex, seq_bk, seq_ct, fl_non, fl_bl, fl_int, fl_str, exS, ev, evs, ix_t, ix_l, ix_s, atI_0, atI_1, atI_2, atI_3, atI_4, atI_5, atI_6, cm_lt, cm_le, cm_gt, cm_ge, cm_eqi, cm_nei, cm_eqs, cm_in2, op_addi, op_subi, op_muli, op_addl, op_addt, op_bl, op_mul0, op_x1, op_x0, op_mod, op_div, pr_int, pr_intb, pr_max, pr_min, pr_abs, bT_n, bT_t, bTs_n, bTs_c, sP_n, sP_c, isNon, iteB, thB, bindB, lift_B, asB_B, setD, strsD_c, strsD_n, strsD_app, strsD_map, pr_sS, wordsD, heldL, hl1, hl2, hl3, hl4, hl5, hl6, passedQ, nextQ, wordQ, tickL, heatsL, onL, Sd.d]
    · obtain rfl | rfl | rfl | rfl : hour = 0 ∨ hour = 1 ∨ hour = 2 ∨ hour = 3 := by omega
      all_goals simp [ir__law_tick, exL_n, exL_c, seq_nx, seq_rt, seq_ex, seq_bk, seq_ct, fl_non, fl_bl, fl_int, fl_str, exS, ev, evs, ix_t, ix_l, ix_s, atI_0, atI_1, atI_2, atI_3, atI_4, atI_5, atI_6, cm_lt, cm_le, cm_gt, cm_ge, cm_eqi, cm_nei, cm_eqs, cm_in2, op_addi, op_subi, op_muli, op_addl, op_addt, op_bl, op_mul0, op_x1, op_x0, op_mod, op_div, pr_int, pr_intb, pr_max, pr_min, pr_abs, bT_n, bT_t, bTs_n, bTs_c, sP_n, sP_c, isNon, iteB, thB, bindB, lift_B, asB_B, setD, strsD_c, strsD_n, strsD_app, strsD_map, pr_sS, wordsD, h0, heldL, hl1, hl2, hl3, hl4, hl5, hl6, passedQ, nextQ, wordQ, tickL, heatsL, onL, Sd.d]
  · have h2 : hot < tank := by omega
    have h5 : ¬ hot + 1 = 0 := by omega
    have h7 : ¬ tank = hot := by omega
    have h8 : (0 : Int) < heat := by omega
    have he : decide (hot + 1 < tank) = !decide (hot + 1 = tank) := by by_cases q : hot + 1 = tank <;> simp [q] <;> omega
    have hm : True := trivial
    by_cases h3 : hot ≤ level
    · obtain rfl | rfl | rfl | rfl : hour = 0 ∨ hour = 1 ∨ hour = 2 ∨ hour = 3 := by omega
      · by_cases hw : warmed + 1 = heat
        · subst hw
          simp [ir__law_tick, exL_n, exL_c, seq_nx, seq_rt, seq_ex, seq_bk, seq_ct, fl_non, fl_bl, fl_int, fl_str, exS, ev, evs, ix_t, ix_l, ix_s, atI_0, atI_1, atI_2, atI_3, atI_4, atI_5, atI_6, cm_lt, cm_le, cm_gt, cm_ge, cm_eqi, cm_nei, cm_eqs, cm_in2, op_addi, op_subi, op_muli, op_addl, op_addt, op_bl, op_mul0, op_x1, op_x0, op_mod, op_div, pr_int, pr_intb, pr_max, pr_min, pr_abs, bT_n, bT_t, bTs_n, bTs_c, sP_n, sP_c, isNon, iteB, thB, bindB, lift_B, asB_B, setD, strsD_c, strsD_n, strsD_app, strsD_map, pr_sS, wordsD, heldL, h1, h2, h3, h5, h7, h8, ha, hk, oa, in01, hm, hl1, hl2, hl3, hl4, hl5, hl6, passedQ, nextQ, wordQ, tickL, heatsL, onL, Sd.d, he]
        · have hm : (warmed + 1) % heat = warmed + 1 := Int.emod_eq_of_lt (by omega) (by omega)
          have hn : ¬ warmed + 1 = 0 := by omega
          by_cases h0 : hot = 0
          · subst h0
            simp [ir__law_tick, exL_n, exL_c, seq_nx, seq_rt, seq_ex, seq_bk, seq_ct, fl_non, fl_bl, fl_int, fl_str, exS, ev, evs, ix_t, ix_l, ix_s, atI_0, atI_1, atI_2, atI_3, atI_4, atI_5, atI_6, cm_lt, cm_le, cm_gt, cm_ge, cm_eqi, cm_nei, cm_eqs, cm_in2, op_addi, op_subi, op_muli, op_addl, op_addt, op_bl, op_mul0, op_x1, op_x0, op_mod, op_div, pr_int, pr_intb, pr_max, pr_min, pr_abs, bT_n, bT_t, bTs_n, bTs_c, sP_n, sP_c, isNon, iteB, thB, bindB, lift_B, asB_B, setD, strsD_c, strsD_n, strsD_app, strsD_map, pr_sS, wordsD, heldL, h1, h2, h3, h5, h7, h8, ha, hk, oa, in01, hm, hl1, hl2, hl3, hl4, hl5, hl6, passedQ, nextQ, wordQ, tickL, heatsL, onL, Sd.d, he, hw, hn]
          · simp [ir__law_tick, exL_n, exL_c, seq_nx, seq_rt, seq_ex, seq_bk, seq_ct, fl_non, fl_bl, fl_int, fl_str, exS, ev, evs, ix_t, ix_l, ix_s, atI_0, atI_1, atI_2, atI_3, atI_4, atI_5, atI_6, cm_lt, cm_le, cm_gt, cm_ge, cm_eqi, cm_nei, cm_eqs, cm_in2, op_addi, op_subi, op_muli, op_addl, op_addt, op_bl, op_mul0, op_x1, op_x0, op_mod, op_div, pr_int, pr_intb, pr_max, pr_min, pr_abs, bT_n, bT_t, bTs_n, bTs_c, sP_n, sP_c, isNon, iteB, thB, bindB, lift_B, asB_B, setD, strsD_c, strsD_n, strsD_app, strsD_map, pr_sS, wordsD, heldL, h1, h2, h3, h5, h7, h8, ha, hk, oa, in01, hm, hl1, hl2, hl3, hl4, hl5, hl6, passedQ, nextQ, wordQ, tickL, heatsL, onL, Sd.d, he, hw, hn, h0]
      · by_cases hw : warmed + 1 = heat
        · subst hw
          simp [ir__law_tick, exL_n, exL_c, seq_nx, seq_rt, seq_ex, seq_bk, seq_ct, fl_non, fl_bl, fl_int, fl_str, exS, ev, evs, ix_t, ix_l, ix_s, atI_0, atI_1, atI_2, atI_3, atI_4, atI_5, atI_6, cm_lt, cm_le, cm_gt, cm_ge, cm_eqi, cm_nei, cm_eqs, cm_in2, op_addi, op_subi, op_muli, op_addl, op_addt, op_bl, op_mul0, op_x1, op_x0, op_mod, op_div, pr_int, pr_intb, pr_max, pr_min, pr_abs, bT_n, bT_t, bTs_n, bTs_c, sP_n, sP_c, isNon, iteB, thB, bindB, lift_B, asB_B, setD, strsD_c, strsD_n, strsD_app, strsD_map, pr_sS, wordsD, heldL, h1, h2, h3, h5, h7, h8, ha, hk, oa, in01, hm, hl1, hl2, hl3, hl4, hl5, hl6, passedQ, nextQ, wordQ, tickL, heatsL, onL, Sd.d, he]
        · have hm : (warmed + 1) % heat = warmed + 1 := Int.emod_eq_of_lt (by omega) (by omega)
          have hn : ¬ warmed + 1 = 0 := by omega
          by_cases h0 : hot = 0
          · subst h0
            simp [ir__law_tick, exL_n, exL_c, seq_nx, seq_rt, seq_ex, seq_bk, seq_ct, fl_non, fl_bl, fl_int, fl_str, exS, ev, evs, ix_t, ix_l, ix_s, atI_0, atI_1, atI_2, atI_3, atI_4, atI_5, atI_6, cm_lt, cm_le, cm_gt, cm_ge, cm_eqi, cm_nei, cm_eqs, cm_in2, op_addi, op_subi, op_muli, op_addl, op_addt, op_bl, op_mul0, op_x1, op_x0, op_mod, op_div, pr_int, pr_intb, pr_max, pr_min, pr_abs, bT_n, bT_t, bTs_n, bTs_c, sP_n, sP_c, isNon, iteB, thB, bindB, lift_B, asB_B, setD, strsD_c, strsD_n, strsD_app, strsD_map, pr_sS, wordsD, heldL, h1, h2, h3, h5, h7, h8, ha, hk, oa, in01, hm, hl1, hl2, hl3, hl4, hl5, hl6, passedQ, nextQ, wordQ, tickL, heatsL, onL, Sd.d, he, hw, hn]
          · simp [ir__law_tick, exL_n, exL_c, seq_nx, seq_rt, seq_ex, seq_bk, seq_ct, fl_non, fl_bl, fl_int, fl_str, exS, ev, evs, ix_t, ix_l, ix_s, atI_0, atI_1, atI_2, atI_3, atI_4, atI_5, atI_6, cm_lt, cm_le, cm_gt, cm_ge, cm_eqi, cm_nei, cm_eqs, cm_in2, op_addi, op_subi, op_muli, op_addl, op_addt, op_bl, op_mul0, op_x1, op_x0, op_mod, op_div, pr_int, pr_intb, pr_max, pr_min, pr_abs, bT_n, bT_t, bTs_n, bTs_c, sP_n, sP_c, isNon, iteB, thB, bindB, lift_B, asB_B, setD, strsD_c, strsD_n, strsD_app, strsD_map, pr_sS, wordsD, heldL, h1, h2, h3, h5, h7, h8, ha, hk, oa, in01, hm, hl1, hl2, hl3, hl4, hl5, hl6, passedQ, nextQ, wordQ, tickL, heatsL, onL, Sd.d, he, hw, hn, h0]
      · cases hG : ((held || pr && hand) || al)
        · by_cases h0 : hot = 0
          · subst h0
            simp [ir__law_tick, exL_n, exL_c, seq_nx, seq_rt, seq_ex, seq_bk, seq_ct, fl_non, fl_bl, fl_int, fl_str, exS, ev, evs, ix_t, ix_l, ix_s, atI_0, atI_1, atI_2, atI_3, atI_4, atI_5, atI_6, cm_lt, cm_le, cm_gt, cm_ge, cm_eqi, cm_nei, cm_eqs, cm_in2, op_addi, op_subi, op_muli, op_addl, op_addt, op_bl, op_mul0, op_x1, op_x0, op_mod, op_div, pr_int, pr_intb, pr_max, pr_min, pr_abs, bT_n, bT_t, bTs_n, bTs_c, sP_n, sP_c, isNon, iteB, thB, bindB, lift_B, asB_B, setD, strsD_c, strsD_n, strsD_app, strsD_map, pr_sS, wordsD, heldL, h1, h2, h3, h5, h7, h8, ha, hk, oa, in01, hm, hl1, hl2, hl3, hl4, hl5, hl6, passedQ, nextQ, wordQ, tickL, heatsL, onL, Sd.d, hG, he]
          · simp [ir__law_tick, exL_n, exL_c, seq_nx, seq_rt, seq_ex, seq_bk, seq_ct, fl_non, fl_bl, fl_int, fl_str, exS, ev, evs, ix_t, ix_l, ix_s, atI_0, atI_1, atI_2, atI_3, atI_4, atI_5, atI_6, cm_lt, cm_le, cm_gt, cm_ge, cm_eqi, cm_nei, cm_eqs, cm_in2, op_addi, op_subi, op_muli, op_addl, op_addt, op_bl, op_mul0, op_x1, op_x0, op_mod, op_div, pr_int, pr_intb, pr_max, pr_min, pr_abs, bT_n, bT_t, bTs_n, bTs_c, sP_n, sP_c, isNon, iteB, thB, bindB, lift_B, asB_B, setD, strsD_c, strsD_n, strsD_app, strsD_map, pr_sS, wordsD, heldL, h1, h2, h3, h5, h7, h8, ha, hk, oa, in01, hm, hl1, hl2, hl3, hl4, hl5, hl6, passedQ, nextQ, wordQ, tickL, heatsL, onL, Sd.d, hG, he, h0]
        · by_cases hw : warmed + 1 = heat
          · subst hw
            simp [ir__law_tick, exL_n, exL_c, seq_nx, seq_rt, seq_ex, seq_bk, seq_ct, fl_non, fl_bl, fl_int, fl_str, exS, ev, evs, ix_t, ix_l, ix_s, atI_0, atI_1, atI_2, atI_3, atI_4, atI_5, atI_6, cm_lt, cm_le, cm_gt, cm_ge, cm_eqi, cm_nei, cm_eqs, cm_in2, op_addi, op_subi, op_muli, op_addl, op_addt, op_bl, op_mul0, op_x1, op_x0, op_mod, op_div, pr_int, pr_intb, pr_max, pr_min, pr_abs, bT_n, bT_t, bTs_n, bTs_c, sP_n, sP_c, isNon, iteB, thB, bindB, lift_B, asB_B, setD, strsD_c, strsD_n, strsD_app, strsD_map, pr_sS, wordsD, heldL, h1, h2, h3, h5, h7, h8, ha, hk, oa, in01, hm, hl1, hl2, hl3, hl4, hl5, hl6, passedQ, nextQ, wordQ, tickL, heatsL, onL, Sd.d, hG, he]
          · have hm : (warmed + 1) % heat = warmed + 1 := Int.emod_eq_of_lt (by omega) (by omega)
            have hn : ¬ warmed + 1 = 0 := by omega
            by_cases h0 : hot = 0
            · subst h0
              simp [ir__law_tick, exL_n, exL_c, seq_nx, seq_rt, seq_ex, seq_bk, seq_ct, fl_non, fl_bl, fl_int, fl_str, exS, ev, evs, ix_t, ix_l, ix_s, atI_0, atI_1, atI_2, atI_3, atI_4, atI_5, atI_6, cm_lt, cm_le, cm_gt, cm_ge, cm_eqi, cm_nei, cm_eqs, cm_in2, op_addi, op_subi, op_muli, op_addl, op_addt, op_bl, op_mul0, op_x1, op_x0, op_mod, op_div, pr_int, pr_intb, pr_max, pr_min, pr_abs, bT_n, bT_t, bTs_n, bTs_c, sP_n, sP_c, isNon, iteB, thB, bindB, lift_B, asB_B, setD, strsD_c, strsD_n, strsD_app, strsD_map, pr_sS, wordsD, heldL, h1, h2, h3, h5, h7, h8, ha, hk, oa, in01, hm, hl1, hl2, hl3, hl4, hl5, hl6, passedQ, nextQ, wordQ, tickL, heatsL, onL, Sd.d, hG, he, hw, hn]
            · simp [ir__law_tick, exL_n, exL_c, seq_nx, seq_rt, seq_ex, seq_bk, seq_ct, fl_non, fl_bl, fl_int, fl_str, exS, ev, evs, ix_t, ix_l, ix_s, atI_0, atI_1, atI_2, atI_3, atI_4, atI_5, atI_6, cm_lt, cm_le, cm_gt, cm_ge, cm_eqi, cm_nei, cm_eqs, cm_in2, op_addi, op_subi, op_muli, op_addl, op_addt, op_bl, op_mul0, op_x1, op_x0, op_mod, op_div, pr_int, pr_intb, pr_max, pr_min, pr_abs, bT_n, bT_t, bTs_n, bTs_c, sP_n, sP_c, isNon, iteB, thB, bindB, lift_B, asB_B, setD, strsD_c, strsD_n, strsD_app, strsD_map, pr_sS, wordsD, heldL, h1, h2, h3, h5, h7, h8, ha, hk, oa, in01, hm, hl1, hl2, hl3, hl4, hl5, hl6, passedQ, nextQ, wordQ, tickL, heatsL, onL, Sd.d, hG, he, hw, hn, h0]
      · cases hG : ((held || pr && hand) || al)
        · by_cases h0 : hot = 0
          · subst h0
            simp [ir__law_tick, exL_n, exL_c, seq_nx, seq_rt, seq_ex, seq_bk, seq_ct, fl_non, fl_bl, fl_int, fl_str, exS, ev, evs, ix_t, ix_l, ix_s, atI_0, atI_1, atI_2, atI_3, atI_4, atI_5, atI_6, cm_lt, cm_le, cm_gt, cm_ge, cm_eqi, cm_nei, cm_eqs, cm_in2, op_addi, op_subi, op_muli, op_addl, op_addt, op_bl, op_mul0, op_x1, op_x0, op_mod, op_div, pr_int, pr_intb, pr_max, pr_min, pr_abs, bT_n, bT_t, bTs_n, bTs_c, sP_n, sP_c, isNon, iteB, thB, bindB, lift_B, asB_B, setD, strsD_c, strsD_n, strsD_app, strsD_map, pr_sS, wordsD, heldL, h1, h2, h3, h5, h7, h8, ha, hk, oa, in01, hm, hl1, hl2, hl3, hl4, hl5, hl6, passedQ, nextQ, wordQ, tickL, heatsL, onL, Sd.d, hG, he]
          · simp [ir__law_tick, exL_n, exL_c, seq_nx, seq_rt, seq_ex, seq_bk, seq_ct, fl_non, fl_bl, fl_int, fl_str, exS, ev, evs, ix_t, ix_l, ix_s, atI_0, atI_1, atI_2, atI_3, atI_4, atI_5, atI_6, cm_lt, cm_le, cm_gt, cm_ge, cm_eqi, cm_nei, cm_eqs, cm_in2, op_addi, op_subi, op_muli, op_addl, op_addt, op_bl, op_mul0, op_x1, op_x0, op_mod, op_div, pr_int, pr_intb, pr_max, pr_min, pr_abs, bT_n, bT_t, bTs_n, bTs_c, sP_n, sP_c, isNon, iteB, thB, bindB, lift_B, asB_B, setD, strsD_c, strsD_n, strsD_app, strsD_map, pr_sS, wordsD, heldL, h1, h2, h3, h5, h7, h8, ha, hk, oa, in01, hm, hl1, hl2, hl3, hl4, hl5, hl6, passedQ, nextQ, wordQ, tickL, heatsL, onL, Sd.d, hG, he, h0]
        · by_cases hw : warmed + 1 = heat
          · subst hw
            simp [ir__law_tick, exL_n, exL_c, seq_nx, seq_rt, seq_ex, seq_bk, seq_ct, fl_non, fl_bl, fl_int, fl_str, exS, ev, evs, ix_t, ix_l, ix_s, atI_0, atI_1, atI_2, atI_3, atI_4, atI_5, atI_6, cm_lt, cm_le, cm_gt, cm_ge, cm_eqi, cm_nei, cm_eqs, cm_in2, op_addi, op_subi, op_muli, op_addl, op_addt, op_bl, op_mul0, op_x1, op_x0, op_mod, op_div, pr_int, pr_intb, pr_max, pr_min, pr_abs, bT_n, bT_t, bTs_n, bTs_c, sP_n, sP_c, isNon, iteB, thB, bindB, lift_B, asB_B, setD, strsD_c, strsD_n, strsD_app, strsD_map, pr_sS, wordsD, heldL, h1, h2, h3, h5, h7, h8, ha, hk, oa, in01, hm, hl1, hl2, hl3, hl4, hl5, hl6, passedQ, nextQ, wordQ, tickL, heatsL, onL, Sd.d, hG, he]
          · have hm : (warmed + 1) % heat = warmed + 1 := Int.emod_eq_of_lt (by omega) (by omega)
            have hn : ¬ warmed + 1 = 0 := by omega
            by_cases h0 : hot = 0
            · subst h0
              simp [ir__law_tick, exL_n, exL_c, seq_nx, seq_rt, seq_ex, seq_bk, seq_ct, fl_non, fl_bl, fl_int, fl_str, exS, ev, evs, ix_t, ix_l, ix_s, atI_0, atI_1, atI_2, atI_3, atI_4, atI_5, atI_6, cm_lt, cm_le, cm_gt, cm_ge, cm_eqi, cm_nei, cm_eqs, cm_in2, op_addi, op_subi, op_muli, op_addl, op_addt, op_bl, op_mul0, op_x1, op_x0, op_mod, op_div, pr_int, pr_intb, pr_max, pr_min, pr_abs, bT_n, bT_t, bTs_n, bTs_c, sP_n, sP_c, isNon, iteB, thB, bindB, lift_B, asB_B, setD, strsD_c, strsD_n, strsD_app, strsD_map, pr_sS, wordsD, heldL, h1, h2, h3, h5, h7, h8, ha, hk, oa, in01, hm, hl1, hl2, hl3, hl4, hl5, hl6, passedQ, nextQ, wordQ, tickL, heatsL, onL, Sd.d, hG, he, hw, hn]
            · simp [ir__law_tick, exL_n, exL_c, seq_nx, seq_rt, seq_ex, seq_bk, seq_ct, fl_non, fl_bl, fl_int, fl_str, exS, ev, evs, ix_t, ix_l, ix_s, atI_0, atI_1, atI_2, atI_3, atI_4, atI_5, atI_6, cm_lt, cm_le, cm_gt, cm_ge, cm_eqi, cm_nei, cm_eqs, cm_in2, op_addi, op_subi, op_muli, op_addl, op_addt, op_bl, op_mul0, op_x1, op_x0, op_mod, op_div, pr_int, pr_intb, pr_max, pr_min, pr_abs, bT_n, bT_t, bTs_n, bTs_c, sP_n, sP_c, isNon, iteB, thB, bindB, lift_B, asB_B, setD, strsD_c, strsD_n, strsD_app, strsD_map, pr_sS, wordsD, heldL, h1, h2, h3, h5, h7, h8, ha, hk, oa, in01, hm, hl1, hl2, hl3, hl4, hl5, hl6, passedQ, nextQ, wordQ, tickL, heatsL, onL, Sd.d, hG, he, hw, hn, h0]
    · obtain rfl | rfl | rfl | rfl : hour = 0 ∨ hour = 1 ∨ hour = 2 ∨ hour = 3 := by omega
      · cases hG : ((held || pr && hand) || on)
        · by_cases h0 : hot = 0
          · subst h0
            simp [ir__law_tick, exL_n, exL_c, seq_nx, seq_rt, seq_ex, seq_bk, seq_ct, fl_non, fl_bl, fl_int, fl_str, exS, ev, evs, ix_t, ix_l, ix_s, atI_0, atI_1, atI_2, atI_3, atI_4, atI_5, atI_6, cm_lt, cm_le, cm_gt, cm_ge, cm_eqi, cm_nei, cm_eqs, cm_in2, op_addi, op_subi, op_muli, op_addl, op_addt, op_bl, op_mul0, op_x1, op_x0, op_mod, op_div, pr_int, pr_intb, pr_max, pr_min, pr_abs, bT_n, bT_t, bTs_n, bTs_c, sP_n, sP_c, isNon, iteB, thB, bindB, lift_B, asB_B, setD, strsD_c, strsD_n, strsD_app, strsD_map, pr_sS, wordsD, heldL, h1, h2, h3, h5, h7, h8, ha, hk, oa, in01, hm, hl1, hl2, hl3, hl4, hl5, hl6, passedQ, nextQ, wordQ, tickL, heatsL, onL, Sd.d, hG, he]
          · simp [ir__law_tick, exL_n, exL_c, seq_nx, seq_rt, seq_ex, seq_bk, seq_ct, fl_non, fl_bl, fl_int, fl_str, exS, ev, evs, ix_t, ix_l, ix_s, atI_0, atI_1, atI_2, atI_3, atI_4, atI_5, atI_6, cm_lt, cm_le, cm_gt, cm_ge, cm_eqi, cm_nei, cm_eqs, cm_in2, op_addi, op_subi, op_muli, op_addl, op_addt, op_bl, op_mul0, op_x1, op_x0, op_mod, op_div, pr_int, pr_intb, pr_max, pr_min, pr_abs, bT_n, bT_t, bTs_n, bTs_c, sP_n, sP_c, isNon, iteB, thB, bindB, lift_B, asB_B, setD, strsD_c, strsD_n, strsD_app, strsD_map, pr_sS, wordsD, heldL, h1, h2, h3, h5, h7, h8, ha, hk, oa, in01, hm, hl1, hl2, hl3, hl4, hl5, hl6, passedQ, nextQ, wordQ, tickL, heatsL, onL, Sd.d, hG, he, h0]
        · by_cases hw : warmed + 1 = heat
          · subst hw
            simp [ir__law_tick, exL_n, exL_c, seq_nx, seq_rt, seq_ex, seq_bk, seq_ct, fl_non, fl_bl, fl_int, fl_str, exS, ev, evs, ix_t, ix_l, ix_s, atI_0, atI_1, atI_2, atI_3, atI_4, atI_5, atI_6, cm_lt, cm_le, cm_gt, cm_ge, cm_eqi, cm_nei, cm_eqs, cm_in2, op_addi, op_subi, op_muli, op_addl, op_addt, op_bl, op_mul0, op_x1, op_x0, op_mod, op_div, pr_int, pr_intb, pr_max, pr_min, pr_abs, bT_n, bT_t, bTs_n, bTs_c, sP_n, sP_c, isNon, iteB, thB, bindB, lift_B, asB_B, setD, strsD_c, strsD_n, strsD_app, strsD_map, pr_sS, wordsD, heldL, h1, h2, h3, h5, h7, h8, ha, hk, oa, in01, hm, hl1, hl2, hl3, hl4, hl5, hl6, passedQ, nextQ, wordQ, tickL, heatsL, onL, Sd.d, hG, he]
          · have hm : (warmed + 1) % heat = warmed + 1 := Int.emod_eq_of_lt (by omega) (by omega)
            have hn : ¬ warmed + 1 = 0 := by omega
            by_cases h0 : hot = 0
            · subst h0
              simp [ir__law_tick, exL_n, exL_c, seq_nx, seq_rt, seq_ex, seq_bk, seq_ct, fl_non, fl_bl, fl_int, fl_str, exS, ev, evs, ix_t, ix_l, ix_s, atI_0, atI_1, atI_2, atI_3, atI_4, atI_5, atI_6, cm_lt, cm_le, cm_gt, cm_ge, cm_eqi, cm_nei, cm_eqs, cm_in2, op_addi, op_subi, op_muli, op_addl, op_addt, op_bl, op_mul0, op_x1, op_x0, op_mod, op_div, pr_int, pr_intb, pr_max, pr_min, pr_abs, bT_n, bT_t, bTs_n, bTs_c, sP_n, sP_c, isNon, iteB, thB, bindB, lift_B, asB_B, setD, strsD_c, strsD_n, strsD_app, strsD_map, pr_sS, wordsD, heldL, h1, h2, h3, h5, h7, h8, ha, hk, oa, in01, hm, hl1, hl2, hl3, hl4, hl5, hl6, passedQ, nextQ, wordQ, tickL, heatsL, onL, Sd.d, hG, he, hw, hn]
            · simp [ir__law_tick, exL_n, exL_c, seq_nx, seq_rt, seq_ex, seq_bk, seq_ct, fl_non, fl_bl, fl_int, fl_str, exS, ev, evs, ix_t, ix_l, ix_s, atI_0, atI_1, atI_2, atI_3, atI_4, atI_5, atI_6, cm_lt, cm_le, cm_gt, cm_ge, cm_eqi, cm_nei, cm_eqs, cm_in2, op_addi, op_subi, op_muli, op_addl, op_addt, op_bl, op_mul0, op_x1, op_x0, op_mod, op_div, pr_int, pr_intb, pr_max, pr_min, pr_abs, bT_n, bT_t, bTs_n, bTs_c, sP_n, sP_c, isNon, iteB, thB, bindB, lift_B, asB_B, setD, strsD_c, strsD_n, strsD_app, strsD_map, pr_sS, wordsD, heldL, h1, h2, h3, h5, h7, h8, ha, hk, oa, in01, hm, hl1, hl2, hl3, hl4, hl5, hl6, passedQ, nextQ, wordQ, tickL, heatsL, onL, Sd.d, hG, he, hw, hn, h0]
      · cases hG : ((held || pr && hand) || on)
        · by_cases h0 : hot = 0
          · subst h0
            simp [ir__law_tick, exL_n, exL_c, seq_nx, seq_rt, seq_ex, seq_bk, seq_ct, fl_non, fl_bl, fl_int, fl_str, exS, ev, evs, ix_t, ix_l, ix_s, atI_0, atI_1, atI_2, atI_3, atI_4, atI_5, atI_6, cm_lt, cm_le, cm_gt, cm_ge, cm_eqi, cm_nei, cm_eqs, cm_in2, op_addi, op_subi, op_muli, op_addl, op_addt, op_bl, op_mul0, op_x1, op_x0, op_mod, op_div, pr_int, pr_intb, pr_max, pr_min, pr_abs, bT_n, bT_t, bTs_n, bTs_c, sP_n, sP_c, isNon, iteB, thB, bindB, lift_B, asB_B, setD, strsD_c, strsD_n, strsD_app, strsD_map, pr_sS, wordsD, heldL, h1, h2, h3, h5, h7, h8, ha, hk, oa, in01, hm, hl1, hl2, hl3, hl4, hl5, hl6, passedQ, nextQ, wordQ, tickL, heatsL, onL, Sd.d, hG, he]
          · simp [ir__law_tick, exL_n, exL_c, seq_nx, seq_rt, seq_ex, seq_bk, seq_ct, fl_non, fl_bl, fl_int, fl_str, exS, ev, evs, ix_t, ix_l, ix_s, atI_0, atI_1, atI_2, atI_3, atI_4, atI_5, atI_6, cm_lt, cm_le, cm_gt, cm_ge, cm_eqi, cm_nei, cm_eqs, cm_in2, op_addi, op_subi, op_muli, op_addl, op_addt, op_bl, op_mul0, op_x1, op_x0, op_mod, op_div, pr_int, pr_intb, pr_max, pr_min, pr_abs, bT_n, bT_t, bTs_n, bTs_c, sP_n, sP_c, isNon, iteB, thB, bindB, lift_B, asB_B, setD, strsD_c, strsD_n, strsD_app, strsD_map, pr_sS, wordsD, heldL, h1, h2, h3, h5, h7, h8, ha, hk, oa, in01, hm, hl1, hl2, hl3, hl4, hl5, hl6, passedQ, nextQ, wordQ, tickL, heatsL, onL, Sd.d, hG, he, h0]
        · by_cases hw : warmed + 1 = heat
          · subst hw
            simp [ir__law_tick, exL_n, exL_c, seq_nx, seq_rt, seq_ex, seq_bk, seq_ct, fl_non, fl_bl, fl_int, fl_str, exS, ev, evs, ix_t, ix_l, ix_s, atI_0, atI_1, atI_2, atI_3, atI_4, atI_5, atI_6, cm_lt, cm_le, cm_gt, cm_ge, cm_eqi, cm_nei, cm_eqs, cm_in2, op_addi, op_subi, op_muli, op_addl, op_addt, op_bl, op_mul0, op_x1, op_x0, op_mod, op_div, pr_int, pr_intb, pr_max, pr_min, pr_abs, bT_n, bT_t, bTs_n, bTs_c, sP_n, sP_c, isNon, iteB, thB, bindB, lift_B, asB_B, setD, strsD_c, strsD_n, strsD_app, strsD_map, pr_sS, wordsD, heldL, h1, h2, h3, h5, h7, h8, ha, hk, oa, in01, hm, hl1, hl2, hl3, hl4, hl5, hl6, passedQ, nextQ, wordQ, tickL, heatsL, onL, Sd.d, hG, he]
          · have hm : (warmed + 1) % heat = warmed + 1 := Int.emod_eq_of_lt (by omega) (by omega)
            have hn : ¬ warmed + 1 = 0 := by omega
            by_cases h0 : hot = 0
            · subst h0
              simp [ir__law_tick, exL_n, exL_c, seq_nx, seq_rt, seq_ex, seq_bk, seq_ct, fl_non, fl_bl, fl_int, fl_str, exS, ev, evs, ix_t, ix_l, ix_s, atI_0, atI_1, atI_2, atI_3, atI_4, atI_5, atI_6, cm_lt, cm_le, cm_gt, cm_ge, cm_eqi, cm_nei, cm_eqs, cm_in2, op_addi, op_subi, op_muli, op_addl, op_addt, op_bl, op_mul0, op_x1, op_x0, op_mod, op_div, pr_int, pr_intb, pr_max, pr_min, pr_abs, bT_n, bT_t, bTs_n, bTs_c, sP_n, sP_c, isNon, iteB, thB, bindB, lift_B, asB_B, setD, strsD_c, strsD_n, strsD_app, strsD_map, pr_sS, wordsD, heldL, h1, h2, h3, h5, h7, h8, ha, hk, oa, in01, hm, hl1, hl2, hl3, hl4, hl5, hl6, passedQ, nextQ, wordQ, tickL, heatsL, onL, Sd.d, hG, he, hw, hn]
            · simp [ir__law_tick, exL_n, exL_c, seq_nx, seq_rt, seq_ex, seq_bk, seq_ct, fl_non, fl_bl, fl_int, fl_str, exS, ev, evs, ix_t, ix_l, ix_s, atI_0, atI_1, atI_2, atI_3, atI_4, atI_5, atI_6, cm_lt, cm_le, cm_gt, cm_ge, cm_eqi, cm_nei, cm_eqs, cm_in2, op_addi, op_subi, op_muli, op_addl, op_addt, op_bl, op_mul0, op_x1, op_x0, op_mod, op_div, pr_int, pr_intb, pr_max, pr_min, pr_abs, bT_n, bT_t, bTs_n, bTs_c, sP_n, sP_c, isNon, iteB, thB, bindB, lift_B, asB_B, setD, strsD_c, strsD_n, strsD_app, strsD_map, pr_sS, wordsD, heldL, h1, h2, h3, h5, h7, h8, ha, hk, oa, in01, hm, hl1, hl2, hl3, hl4, hl5, hl6, passedQ, nextQ, wordQ, tickL, heatsL, onL, Sd.d, hG, he, hw, hn, h0]
      · cases hG : ((held || pr && hand) || (on && al))
        · by_cases h0 : hot = 0
          · subst h0
            simp [ir__law_tick, exL_n, exL_c, seq_nx, seq_rt, seq_ex, seq_bk, seq_ct, fl_non, fl_bl, fl_int, fl_str, exS, ev, evs, ix_t, ix_l, ix_s, atI_0, atI_1, atI_2, atI_3, atI_4, atI_5, atI_6, cm_lt, cm_le, cm_gt, cm_ge, cm_eqi, cm_nei, cm_eqs, cm_in2, op_addi, op_subi, op_muli, op_addl, op_addt, op_bl, op_mul0, op_x1, op_x0, op_mod, op_div, pr_int, pr_intb, pr_max, pr_min, pr_abs, bT_n, bT_t, bTs_n, bTs_c, sP_n, sP_c, isNon, iteB, thB, bindB, lift_B, asB_B, setD, strsD_c, strsD_n, strsD_app, strsD_map, pr_sS, wordsD, heldL, h1, h2, h3, h5, h7, h8, ha, hk, oa, in01, hm, hl1, hl2, hl3, hl4, hl5, hl6, passedQ, nextQ, wordQ, tickL, heatsL, onL, Sd.d, hG, he]
          · simp [ir__law_tick, exL_n, exL_c, seq_nx, seq_rt, seq_ex, seq_bk, seq_ct, fl_non, fl_bl, fl_int, fl_str, exS, ev, evs, ix_t, ix_l, ix_s, atI_0, atI_1, atI_2, atI_3, atI_4, atI_5, atI_6, cm_lt, cm_le, cm_gt, cm_ge, cm_eqi, cm_nei, cm_eqs, cm_in2, op_addi, op_subi, op_muli, op_addl, op_addt, op_bl, op_mul0, op_x1, op_x0, op_mod, op_div, pr_int, pr_intb, pr_max, pr_min, pr_abs, bT_n, bT_t, bTs_n, bTs_c, sP_n, sP_c, isNon, iteB, thB, bindB, lift_B, asB_B, setD, strsD_c, strsD_n, strsD_app, strsD_map, pr_sS, wordsD, heldL, h1, h2, h3, h5, h7, h8, ha, hk, oa, in01, hm, hl1, hl2, hl3, hl4, hl5, hl6, passedQ, nextQ, wordQ, tickL, heatsL, onL, Sd.d, hG, he, h0]
        · by_cases hw : warmed + 1 = heat
          · subst hw
            simp [ir__law_tick, exL_n, exL_c, seq_nx, seq_rt, seq_ex, seq_bk, seq_ct, fl_non, fl_bl, fl_int, fl_str, exS, ev, evs, ix_t, ix_l, ix_s, atI_0, atI_1, atI_2, atI_3, atI_4, atI_5, atI_6, cm_lt, cm_le, cm_gt, cm_ge, cm_eqi, cm_nei, cm_eqs, cm_in2, op_addi, op_subi, op_muli, op_addl, op_addt, op_bl, op_mul0, op_x1, op_x0, op_mod, op_div, pr_int, pr_intb, pr_max, pr_min, pr_abs, bT_n, bT_t, bTs_n, bTs_c, sP_n, sP_c, isNon, iteB, thB, bindB, lift_B, asB_B, setD, strsD_c, strsD_n, strsD_app, strsD_map, pr_sS, wordsD, heldL, h1, h2, h3, h5, h7, h8, ha, hk, oa, in01, hm, hl1, hl2, hl3, hl4, hl5, hl6, passedQ, nextQ, wordQ, tickL, heatsL, onL, Sd.d, hG, he]
          · have hm : (warmed + 1) % heat = warmed + 1 := Int.emod_eq_of_lt (by omega) (by omega)
            have hn : ¬ warmed + 1 = 0 := by omega
            by_cases h0 : hot = 0
            · subst h0
              simp [ir__law_tick, exL_n, exL_c, seq_nx, seq_rt, seq_ex, seq_bk, seq_ct, fl_non, fl_bl, fl_int, fl_str, exS, ev, evs, ix_t, ix_l, ix_s, atI_0, atI_1, atI_2, atI_3, atI_4, atI_5, atI_6, cm_lt, cm_le, cm_gt, cm_ge, cm_eqi, cm_nei, cm_eqs, cm_in2, op_addi, op_subi, op_muli, op_addl, op_addt, op_bl, op_mul0, op_x1, op_x0, op_mod, op_div, pr_int, pr_intb, pr_max, pr_min, pr_abs, bT_n, bT_t, bTs_n, bTs_c, sP_n, sP_c, isNon, iteB, thB, bindB, lift_B, asB_B, setD, strsD_c, strsD_n, strsD_app, strsD_map, pr_sS, wordsD, heldL, h1, h2, h3, h5, h7, h8, ha, hk, oa, in01, hm, hl1, hl2, hl3, hl4, hl5, hl6, passedQ, nextQ, wordQ, tickL, heatsL, onL, Sd.d, hG, he, hw, hn]
            · simp [ir__law_tick, exL_n, exL_c, seq_nx, seq_rt, seq_ex, seq_bk, seq_ct, fl_non, fl_bl, fl_int, fl_str, exS, ev, evs, ix_t, ix_l, ix_s, atI_0, atI_1, atI_2, atI_3, atI_4, atI_5, atI_6, cm_lt, cm_le, cm_gt, cm_ge, cm_eqi, cm_nei, cm_eqs, cm_in2, op_addi, op_subi, op_muli, op_addl, op_addt, op_bl, op_mul0, op_x1, op_x0, op_mod, op_div, pr_int, pr_intb, pr_max, pr_min, pr_abs, bT_n, bT_t, bTs_n, bTs_c, sP_n, sP_c, isNon, iteB, thB, bindB, lift_B, asB_B, setD, strsD_c, strsD_n, strsD_app, strsD_map, pr_sS, wordsD, heldL, h1, h2, h3, h5, h7, h8, ha, hk, oa, in01, hm, hl1, hl2, hl3, hl4, hl5, hl6, passedQ, nextQ, wordQ, tickL, heatsL, onL, Sd.d, hG, he, hw, hn, h0]
      · cases hG : ((held || pr && hand) || (on && al))
        · by_cases h0 : hot = 0
          · subst h0
            simp [ir__law_tick, exL_n, exL_c, seq_nx, seq_rt, seq_ex, seq_bk, seq_ct, fl_non, fl_bl, fl_int, fl_str, exS, ev, evs, ix_t, ix_l, ix_s, atI_0, atI_1, atI_2, atI_3, atI_4, atI_5, atI_6, cm_lt, cm_le, cm_gt, cm_ge, cm_eqi, cm_nei, cm_eqs, cm_in2, op_addi, op_subi, op_muli, op_addl, op_addt, op_bl, op_mul0, op_x1, op_x0, op_mod, op_div, pr_int, pr_intb, pr_max, pr_min, pr_abs, bT_n, bT_t, bTs_n, bTs_c, sP_n, sP_c, isNon, iteB, thB, bindB, lift_B, asB_B, setD, strsD_c, strsD_n, strsD_app, strsD_map, pr_sS, wordsD, heldL, h1, h2, h3, h5, h7, h8, ha, hk, oa, in01, hm, hl1, hl2, hl3, hl4, hl5, hl6, passedQ, nextQ, wordQ, tickL, heatsL, onL, Sd.d, hG, he]
          · simp [ir__law_tick, exL_n, exL_c, seq_nx, seq_rt, seq_ex, seq_bk, seq_ct, fl_non, fl_bl, fl_int, fl_str, exS, ev, evs, ix_t, ix_l, ix_s, atI_0, atI_1, atI_2, atI_3, atI_4, atI_5, atI_6, cm_lt, cm_le, cm_gt, cm_ge, cm_eqi, cm_nei, cm_eqs, cm_in2, op_addi, op_subi, op_muli, op_addl, op_addt, op_bl, op_mul0, op_x1, op_x0, op_mod, op_div, pr_int, pr_intb, pr_max, pr_min, pr_abs, bT_n, bT_t, bTs_n, bTs_c, sP_n, sP_c, isNon, iteB, thB, bindB, lift_B, asB_B, setD, strsD_c, strsD_n, strsD_app, strsD_map, pr_sS, wordsD, heldL, h1, h2, h3, h5, h7, h8, ha, hk, oa, in01, hm, hl1, hl2, hl3, hl4, hl5, hl6, passedQ, nextQ, wordQ, tickL, heatsL, onL, Sd.d, hG, he, h0]
        · by_cases hw : warmed + 1 = heat
          · subst hw
            simp [ir__law_tick, exL_n, exL_c, seq_nx, seq_rt, seq_ex, seq_bk, seq_ct, fl_non, fl_bl, fl_int, fl_str, exS, ev, evs, ix_t, ix_l, ix_s, atI_0, atI_1, atI_2, atI_3, atI_4, atI_5, atI_6, cm_lt, cm_le, cm_gt, cm_ge, cm_eqi, cm_nei, cm_eqs, cm_in2, op_addi, op_subi, op_muli, op_addl, op_addt, op_bl, op_mul0, op_x1, op_x0, op_mod, op_div, pr_int, pr_intb, pr_max, pr_min, pr_abs, bT_n, bT_t, bTs_n, bTs_c, sP_n, sP_c, isNon, iteB, thB, bindB, lift_B, asB_B, setD, strsD_c, strsD_n, strsD_app, strsD_map, pr_sS, wordsD, heldL, h1, h2, h3, h5, h7, h8, ha, hk, oa, in01, hm, hl1, hl2, hl3, hl4, hl5, hl6, passedQ, nextQ, wordQ, tickL, heatsL, onL, Sd.d, hG, he]
          · have hm : (warmed + 1) % heat = warmed + 1 := Int.emod_eq_of_lt (by omega) (by omega)
            have hn : ¬ warmed + 1 = 0 := by omega
            by_cases h0 : hot = 0
            · subst h0
              simp [ir__law_tick, exL_n, exL_c, seq_nx, seq_rt, seq_ex, seq_bk, seq_ct, fl_non, fl_bl, fl_int, fl_str, exS, ev, evs, ix_t, ix_l, ix_s, atI_0, atI_1, atI_2, atI_3, atI_4, atI_5, atI_6, cm_lt, cm_le, cm_gt, cm_ge, cm_eqi, cm_nei, cm_eqs, cm_in2, op_addi, op_subi, op_muli, op_addl, op_addt, op_bl, op_mul0, op_x1, op_x0, op_mod, op_div, pr_int, pr_intb, pr_max, pr_min, pr_abs, bT_n, bT_t, bTs_n, bTs_c, sP_n, sP_c, isNon, iteB, thB, bindB, lift_B, asB_B, setD, strsD_c, strsD_n, strsD_app, strsD_map, pr_sS, wordsD, heldL, h1, h2, h3, h5, h7, h8, ha, hk, oa, in01, hm, hl1, hl2, hl3, hl4, hl5, hl6, passedQ, nextQ, wordQ, tickL, heatsL, onL, Sd.d, hG, he, hw, hn]
            · simp [ir__law_tick, exL_n, exL_c, seq_nx, seq_rt, seq_ex, seq_bk, seq_ct, fl_non, fl_bl, fl_int, fl_str, exS, ev, evs, ix_t, ix_l, ix_s, atI_0, atI_1, atI_2, atI_3, atI_4, atI_5, atI_6, cm_lt, cm_le, cm_gt, cm_ge, cm_eqi, cm_nei, cm_eqs, cm_in2, op_addi, op_subi, op_muli, op_addl, op_addt, op_bl, op_mul0, op_x1, op_x0, op_mod, op_div, pr_int, pr_intb, pr_max, pr_min, pr_abs, bT_n, bT_t, bTs_n, bTs_c, sP_n, sP_c, isNon, iteB, thB, bindB, lift_B, asB_B, setD, strsD_c, strsD_n, strsD_app, strsD_map, pr_sS, wordsD, heldL, h1, h2, h3, h5, h7, h8, ha, hk, oa, in01, hm, hl1, hl2, hl3, hl4, hl5, hl6, passedQ, nextQ, wordQ, tickL, heatsL, onL, Sd.d, hG, he, hw, hn, h0]
end Wt
set_option maxRecDepth 100000
set_option maxHeartbeats 1000000
/-! The spring and what is drawn from it. -/
namespace Wt
open PySem L2
theorem law_tick_ok (k : Nat) {p : Pl} {s : Sd} (hp : p.Ok) (hs : s.Ok p) (dr : Int) (h0 : 0 ≤ dr) (pr : Bool) (S : Store) : callF tab (k + 1) n__law_tick [p.d, s.d, .tup [.int dr, .bl pr]] S = .ok (passedD p s dr pr) S := by
  obtain ⟨_, e1, _⟩ := tick1 (callF tab k) hp hs dr h0 pr S
  have e2 := tick2 (callF tab k) hp hs p.d s.d (.tup [.int dr, .bl pr]) dr pr S _ (drawnL p s dr).2.1 (drawnL p s dr).2.2.1 _ (drawn_hot hs dr).1 (drawn_hot hs dr).2 (drawn_words p s dr)
  have e : exL (callF tab k) ir__law_tick.body ([some p.d, some s.d, some (.tup [.int dr, .bl pr])] ++ List.replicate 18 none) S = .rt (passedD p s dr pr) S := by
    rw [← List.take_append_drop 5 ir__law_tick.body, exL_app, e1, seq_nx, e2]
    rfl
  rw [u__law_tick]
  exact (congrArg (leave S.length) e).trans (leave_rt _ _)
theorem next_ok {p : Pl} {s : Sd} (hp : p.Ok) (hs : s.Ok p) (dr : Int) (pr : Bool) : (nextQ p s pr (drawnL p s dr)).Ok p := by
  have hd := drawn_hot hs dr
  have c1 := hp.c1
  have ph1 := hp.h1
  have pa1 := hp.a1
  obtain ⟨a1, a2, a3, a4, a5, a6, a7, a8, a9, a10⟩ := hs
  have hst : 0 ≤ (drawnL p s dr).2.1 ∧ ((drawnL p s dr).2.1 = 0 ∨ (drawnL p s dr).2.1 < p.cool) ∧ 0 ≤ (drawnL p s dr).2.2.1 ∧ (drawnL p s dr).2.2.1 ≤ p.apart := by
    unfold drawnL
    by_cases h : 0 < dr
    · simp [h, pa1]
    · have hn : 0 ≤ (if s.since + 1 < p.apart then s.since + 1 else p.apart) ∧ (if s.since + 1 < p.apart then s.since + 1 else p.apart) ≤ p.apart := by split <;> omega
      simp only [h, if_false]
      split
      · exact ⟨Int.le_refl _, .inl rfl, hn⟩
      · split
        · exact ⟨Int.le_refl _, .inl rfl, hn⟩
        · split
          · exact ⟨Int.le_refl _, .inl rfl, hn⟩
          · refine ⟨?_, ?_, hn⟩
            · show 0 ≤ s.stood + 1
              omega
            · show s.stood + 1 = 0 ∨ s.stood + 1 < p.cool
              omega
  generalize drawnL p s dr = q at *
  have ht : 0 ≤ (tickL p q.1 s.on s.warmed s.hour (heldL p s pr)).1 ∧ (tickL p q.1 s.on s.warmed s.hour (heldL p s pr)).1 ≤ p.tank ∧ 0 ≤ (tickL p q.1 s.on s.warmed s.hour (heldL p s pr)).2.2 ∧ (tickL p q.1 s.on s.warmed s.hour (heldL p s pr)).2.2 < p.heat := by
    unfold tickL
    by_cases hH : heatsL p q.1 s.hour s.on (heldL p s pr) = true
    · have hn : q.1 ≠ p.tank := by
        intro z
        simp [heatsL, z] at hH
      simp only [hH, if_true]
      by_cases hw : s.warmed + 1 = p.heat
      · simp only [hw, if_true]
        omega
      · simp only [hw, if_false]
        omega
    · simp only [hH]
      show 0 ≤ q.1 ∧ q.1 ≤ p.tank ∧ 0 ≤ (if q.1 = p.tank then 0 else s.warmed) ∧ (if q.1 = p.tank then 0 else s.warmed) < p.heat
      split <;> omega
  refine ⟨ht.1, ht.2.1, ht.2.2.1, ht.2.2.2, hst.1, hst.2.1, ?_, ?_, hst.2.2.1, hst.2.2.2⟩
  · show 0 ≤ (s.hour + 1) % 4
    omega
  · show (s.hour + 1) % 4 ≤ 3
    omega
/-- a spring stands at n -/
def Spr (n : Nat) (S : Store) : Prop := ∃ a b : Int, 0 ≤ a ∧ 0 ≤ b ∧ S[n]? = some (some (.ls [.int a, .int b]))
theorem leave_rt' (d : D) {S S' : Store} (h : S'.length = S.length) : leave S.length (.rt d S') = .ok d S' := by
  rw [← h, leave_rt]
theorem sm_1 : small 863 = true := by decide
theorem sm_2 : small 524287 = true := by decide
theorem sm_3 : small 393555900739 = true := by decide
theorem pr_lens (xs : List Int) (S : Store) : prD .len [.scr xs] S = some (.int xs.length) := rfl
theorem ab_0 (z : Int) : 0 ≤ (if z < 0 then -z else z) := by split <;> omega
theorem pw_18 : opD .Pow (.int 10) (.int 18) = some (.int 1000000000000000000) := rfl
theorem ix_loc {n : Nat} {xs : List D} {S : Store} (h : S[n]? = some (some (.ls xs))) (i : Int) : ixD (.loc n) (.int i) S = atI xs i := by
  simp only [ixD, h]
theorem set_ok {F : Nat → List D → Store → Out D} {a i e : E} {ρ : Slots} {S : Store} {v : D} {n m : Nat} {z : Int} {xs : List D} (he : ev F e ρ S = .ok v S) (ha : ev F a ρ S = .ok (.loc n) S) (hi : ev F i ρ S = .ok (.int z) S) (hS : S[n]? = some (some (.ls xs))) (hm : ixN xs.length z = some m) :
    exS F (.set a i e) ρ S = .nx ρ (S.set n (some (.ls (xs.set m v)))) := by
  simp only [exS, setD, he, ha, hi, Out.thenS_ok, hS, hm, Option.map_some]
theorem pick_ok (k : Nat) {n : Nat} {S : Store} (h : Spr n S) (m : Int) (hm : 0 < m) (hm2 : m < 1073741824) : ∃ (d : Int) (S' : Store), callF tab (k + 1) n__law_pick [.loc n, .int m] S = .ok (.int d) S' ∧ 0 ≤ d ∧ d < m ∧ Spr n S' ∧ S'.length = S.length := by
  obtain ⟨a, b, ha, hb, hS⟩ := h
  have hn : n < S.length := (List.getElem?_eq_some_iff.mp hS).1
  rw [u__law_pick]
  by_cases h0 : 0 < a
  · refine ⟨a % m, S.set n (some (.ls [.int (a / m), .int b])), ?_, Int.emod_nonneg _ (by omega), Int.emod_lt_of_pos _ hm, ⟨a / m, b, Int.ediv_nonneg ha (by omega), hb, ?_⟩, by simp⟩
    · have e : exL (callF tab k) ir__law_pick.body [some (.loc n), some (.int m), none] S = .rt (.int (a % m)) (S.set n (some (.ls [.int (a / m), .int b]))) := by
        simp [ir__law_pick, exL_n, exL_c, seq_nx, seq_rt, seq_ex, seq_bk, seq_ct, fl_non, fl_bl, fl_int, fl_str, exS, ev, evs, ix_t, ix_l, ix_s, atI_0, atI_1, atI_2, atI_3, atI_4, atI_5, atI_6, cm_lt, cm_le, cm_gt, cm_ge, cm_eqi, cm_nei, cm_eqs, cm_in2, op_addi, op_subi, op_muli, op_addl, op_addt, op_bl, op_mul0, op_x1, op_x0, op_mod, op_div, pr_int, pr_intb, pr_max, pr_min, pr_abs, bT_n, bT_t, bTs_n, bTs_c, sP_n, sP_c, isNon, iteB, thB, bindB, lift_B, asB_B, setD, ix_loc hS, h0, hm, hm2, hS, ixN]
      rw [e, leave_rt' _ (by simp)]
    · rw [List.getElem?_set_self hn]
  · refine ⟨(((b * 393555900739 + 8191) % 999999999989) / 4093) % m, S.set n (some (.ls [.int a, .int ((b * 393555900739 + 8191) % 999999999989)])), ?_, Int.emod_nonneg _ (by omega), Int.emod_lt_of_pos _ hm, ⟨a, (b * 393555900739 + 8191) % 999999999989, ha, Int.emod_nonneg _ (show (999999999989 : Int) ≠ 0 by decide), ?_⟩, by simp⟩
    · have e : exL (callF tab k) ir__law_pick.body [some (.loc n), some (.int m), none] S = .rt (.int ((((b * 393555900739 + 8191) % 999999999989) / 4093) % m)) (S.set n (some (.ls [.int a, .int ((b * 393555900739 + 8191) % 999999999989)]))) := by
        have hg : (S.set n (some (.ls [.int a, .int ((b * 393555900739 + 8191) % 999999999989)])))[n]? = some (some (.ls [.int a, .int ((b * 393555900739 + 8191) % 999999999989)])) := by rw [List.getElem?_set_self hn]
        simp [ir__law_pick, exL_n, exL_c, seq_nx, seq_rt, seq_ex, seq_bk, seq_ct, fl_non, fl_bl, fl_int, fl_str, exS, ev, evs, ix_t, ix_l, ix_s, atI_0, atI_1, atI_2, atI_3, atI_4, atI_5, atI_6, cm_lt, cm_le, cm_gt, cm_ge, cm_eqi, cm_nei, cm_eqs, cm_in2, op_addi, op_subi, op_muli, op_addl, op_addt, op_bl, op_mul0, op_x1, op_x0, op_mod, op_div, pr_int, pr_intb, pr_max, pr_min, pr_abs, bT_n, bT_t, bTs_n, bTs_c, sP_n, sP_c, isNon, iteB, thB, bindB, lift_B, asB_B, setD, ix_loc hS, ix_loc hg, h0, hm, hm2, hS, ixN, sm_3]
      rw [e, leave_rt' _ (by simp)]
    · rw [List.getElem?_set_self hn]
theorem spring_ok (k : Nat) (ns : List Int) (i : Nat) (S : Store) : ∃ a b : Int, callF tab (k + 1) n__law_spring [.scr ns, .int (i : Int)] S = .ok (.loc S.length) (S ++ [some (.ls [.int a, .int b])]) ∧ 0 ≤ a ∧ 0 ≤ b := by
  have hl : ∀ (a b : Int), leave S.length (.rt (.loc S.length) (S ++ [some (.ls [.int a, .int b])])) = .ok (.loc S.length) (S ++ [some (.ls [.int a, .int b])]) := by
    intro a b
    simp [leave, D.low, Nat.not_succ_le_self]
  rw [u__law_spring]
  by_cases h : i < ns.length
  · have hi : (i : Int) < (ns.length : Int) := by omega
    have hx : ns[i]? = some ns[i] := List.getElem?_eq_getElem h
    generalize ns[i] = z at hx
    refine ⟨if 1000000000000000000 ≤ (if z < 0 then -z else z) then (if z < 0 then -z else z) else 0, ((if z < 0 then -z else z) * 863 + 524287 * (i : Int) + 1) % 999999999989, ?_, ?_, Int.emod_nonneg _ (show (999999999989 : Int) ≠ 0 by decide)⟩
    · rw [← hl]
      congr 1
      have hz := ab_0 z
      by_cases h2 : 1000000000000000000 ≤ (if z < 0 then -z else z) <;> simp [ir__law_spring, exL_n, exL_c, seq_nx, seq_rt, seq_ex, seq_bk, seq_ct, fl_non, fl_bl, fl_int, fl_str, exS, ev, evs, ix_t, ix_l, ix_s, atI_0, atI_1, atI_2, atI_3, atI_4, atI_5, atI_6, cm_lt, cm_le, cm_gt, cm_ge, cm_eqi, cm_nei, cm_eqs, cm_in2, op_addi, op_subi, op_muli, op_addl, op_addt, op_bl, op_mul0, op_x1, op_x0, op_mod, op_div, pr_int, pr_intb, pr_max, pr_min, pr_abs, bT_n, bT_t, bTs_n, bTs_c, sP_n, sP_c, isNon, iteB, thB, bindB, lift_B, asB_B, setD, pr_lens, hi, atI_nat, hx, sm_1, sm_2, pw_18, h2]
    · split <;> split <;> omega
  · have hi : ¬ (i : Int) < (ns.length : Int) := by omega
    refine ⟨0, (7 * 863 + 524287 * (i : Int) + 1) % 999999999989, ?_, Int.le_refl _, Int.emod_nonneg _ (show (999999999989 : Int) ≠ 0 by decide)⟩
    rw [← hl]
    congr 1
    simp [ir__law_spring, exL_n, exL_c, seq_nx, seq_rt, seq_ex, seq_bk, seq_ct, fl_non, fl_bl, fl_int, fl_str, exS, ev, evs, ix_t, ix_l, ix_s, atI_0, atI_1, atI_2, atI_3, atI_4, atI_5, atI_6, cm_lt, cm_le, cm_gt, cm_ge, cm_eqi, cm_nei, cm_eqs, cm_in2, op_addi, op_subi, op_muli, op_addl, op_addt, op_bl, op_mul0, op_x1, op_x0, op_mod, op_div, pr_int, pr_intb, pr_max, pr_min, pr_abs, bT_n, bT_t, bTs_n, bTs_c, sP_n, sP_c, isNon, iteB, thB, bindB, lift_B, asB_B, setD, pr_lens, hi, sm_1, sm_2, pw_18]
theorem ix_3 (a b c : D) (i : Int) (h : 0 ≤ i) (h2 : i < 3) : atI [a, b, c] i = some (if i = 0 then a else if i = 1 then b else c) := by
  obtain rfl | rfl | rfl : i = 0 ∨ i = 1 ∨ i = 2 := by omega
  all_goals rfl
theorem ix_2 (a b : D) (i : Int) (h : 0 ≤ i) (h2 : i < 2) : atI [a, b] i = some (if i = 0 then a else b) := by
  obtain rfl | rfl : i = 0 ∨ i = 1 := by omega
  all_goals rfl
theorem program_ok (k : Nat) {n : Nat} {S : Store} (h : Spr n S) : ∃ (b hand : Bool) (level : Int) (S' : Store), callF tab (k + 2) n__law_program [.loc n] S = .ok (.tup [.int level, .str (hourS b), .bl hand]) S' ∧ 0 ≤ level ∧ level ≤ 3 ∧ Spr n S' ∧ S'.length = S.length := by
  obtain ⟨d1, S1, e1, l1, u1, h1, g1⟩ := pick_ok k h 2 (by decide) (by decide)
  obtain ⟨d2, S2, e2, l2, u2, h2, g2⟩ := pick_ok k h1 4 (by decide) (by decide)
  obtain ⟨d3, S3, e3, l3, u3, h3, g3⟩ := pick_ok k h2 3 (by decide) (by decide)
  refine ⟨decide (d1 = 0), decide (d3 = 0), d2, S3, ?_, l2, by omega, h3, by omega⟩
  rw [u__law_program, ← leave_rt' (S := S) (S' := S3) _ (by omega)]
  congr 1
  obtain rfl | rfl : d1 = 0 ∨ d1 = 1 := by omega
  all_goals simp [ir__law_program, exL_n, exL_c, seq_nx, seq_rt, seq_ex, seq_bk, seq_ct, fl_non, fl_bl, fl_int, fl_str, exS, ev, evs, ix_t, ix_l, ix_s, atI_0, atI_1, atI_2, atI_3, atI_4, atI_5, atI_6, cm_lt, cm_le, cm_gt, cm_ge, cm_eqi, cm_nei, cm_eqs, cm_in2, op_addi, op_subi, op_muli, op_addl, op_addt, op_bl, op_mul0, op_x1, op_x0, op_mod, op_div, pr_int, pr_intb, pr_max, pr_min, pr_abs, bT_n, bT_t, bTs_n, bTs_c, sP_n, sP_c, isNon, iteB, thB, bindB, lift_B, asB_B, setD, e1, e2, e3, hourS]
theorem plan_ok (k : Nat) {n : Nat} {S : Store} (h : Spr n S) : ∃ (p : Pl) (S' : Store), p.Ok ∧ callF tab (k + 3) n__law_plan [.loc n] S = .ok p.d S' ∧ Spr n S' ∧ S'.length = S.length := by
  obtain ⟨d1, S1, e1, l1, u1, h1, g1⟩ := pick_ok (k + 1) h 4 (by decide) (by decide)
  obtain ⟨d2, S2, e2, l2, u2, h2, g2⟩ := pick_ok (k + 1) h1 3 (by decide) (by decide)
  obtain ⟨d3, S3, e3, l3, u3, h3, g3⟩ := pick_ok (k + 1) h2 4 (by decide) (by decide)
  obtain ⟨d4, S4, e4, l4, u4, h4, g4⟩ := pick_ok (k + 1) h3 4 (by decide) (by decide)
  obtain ⟨d5, S5, e5, l5, u5, h5, g5⟩ := pick_ok (k + 1) h4 3 (by decide) (by decide)
  obtain ⟨d6, S6, e6, l6, u6, h6, g6⟩ := pick_ok (k + 1) h5 4 (by decide) (by decide)
  obtain ⟨b, hand, level, S7, e7, l7, u7, h7, g7⟩ := program_ok k h6
  have hm : 0 ≤ (if d2 = 0 then 0 else if d2 = 1 then 1 else d1) ∧ (if d2 = 0 then 0 else if d2 = 1 then 1 else d1) ≤ 3 := by split <;> (try split) <;> omega
  refine ⟨⟨1 + d4, 1 + d5, d6, level, b, hand, 1 + (if d2 = 0 then 0 else if d2 = 1 then 1 else d1), d3⟩, S7, ⟨?_, ?_, ?_, ?_, ?_, ?_, ?_, ?_, ?_, ?_, ?_, ?_⟩, ?_, h7, by omega⟩
  case refine_13 =>
    rw [u__law_plan, ← leave_rt' (S := S) (S' := S7) _ (by omega)]
    congr 1
    obtain rfl | rfl | rfl : d2 = 0 ∨ d2 = 1 ∨ d2 = 2 := by omega
    all_goals simp [ir__law_plan, exL_n, exL_c, seq_nx, seq_rt, seq_ex, seq_bk, seq_ct, fl_non, fl_bl, fl_int, fl_str, exS, ev, evs, ix_t, ix_l, ix_s, atI_0, atI_1, atI_2, atI_3, atI_4, atI_5, atI_6, cm_lt, cm_le, cm_gt, cm_ge, cm_eqi, cm_nei, cm_eqs, cm_in2, op_addi, op_subi, op_muli, op_addl, op_addt, op_bl, op_mul0, op_x1, op_x0, op_mod, op_div, pr_int, pr_intb, pr_max, pr_min, pr_abs, bT_n, bT_t, bTs_n, bTs_c, sP_n, sP_c, isNon, iteB, thB, bindB, lift_B, asB_B, setD, e1, e2, e3, e4, e5, e6, e7, Pl.d]
  all_goals (simp only; omega)
theorem any_stand_ok (k : Nat) {n : Nat} {S : Store} (h : Spr n S) {p : Pl} (hp : p.Ok) : ∃ (s : Sd) (S' : Store), s.Ok p ∧ callF tab (k + 2) n__law_any_stand [.loc n, p.d] S = .ok s.d S' ∧ Spr n S' ∧ S'.length = S.length := by
  obtain ⟨tank, heat, cool, level, all, hand, most, apart⟩ := p
  obtain ⟨t1, t2, h1, h2, c1, c2, v1, v2, m1, m2, a1, a2⟩ := hp
  simp only at *
  obtain ⟨d1, S1, e1, l1, u1, q1, g1⟩ := pick_ok k h (tank + 1) (by omega) (by omega)
  obtain ⟨d2, S2, e2, l2, u2, q2, g2⟩ := pick_ok k q1 heat (by omega) (by omega)
  obtain ⟨d3, S3, e3, l3, u3, q3, g3⟩ := pick_ok k q2 (if cool > 1 then cool else 1) (by split <;> omega) (by split <;> omega)
  obtain ⟨d4, S4, e4, l4, u4, q4, g4⟩ := pick_ok k q3 (apart + 1) (by omega) (by omega)
  obtain ⟨d5, S5, e5, l5, u5, q5, g5⟩ := pick_ok k q4 2 (by omega) (by omega)
  obtain ⟨d6, S6, e6, l6, u6, q6, g6⟩ := pick_ok k q5 2 (by omega) (by omega)
  obtain ⟨d7, S7, e7, l7, u7, q7, g7⟩ := pick_ok k q6 3 (by omega) (by omega)
  obtain ⟨d8, S8, e8, l8, u8, q8, g8⟩ := pick_ok k q7 4 (by omega) (by omega)
  refine ⟨⟨d1, decide (d6 = 0), d2, d3, d8, if d5 = 0 then apart else d4, decide (d7 = 0)⟩, S8, ⟨l1, by simp only; omega, l2, by simp only; omega, l3, ?_, l8, by simp only; omega, ?_, ?_⟩, ?_, q8, by omega⟩
  · simp only
    split at u3 <;> omega
  · simp only
    split <;> omega
  · simp only
    split <;> omega
  · rw [u__law_any_stand, ← leave_rt' (S := S) (S' := S8) _ (by omega)]
    congr 1
    obtain rfl | rfl : d5 = 0 ∨ d5 = 1 := by omega
    all_goals simp [ir__law_any_stand, exL_n, exL_c, seq_nx, seq_rt, seq_ex, seq_bk, seq_ct, fl_non, fl_bl, fl_int, fl_str, exS, ev, evs, ix_t, ix_l, ix_s, atI_0, atI_1, atI_2, atI_3, atI_4, atI_5, atI_6, cm_lt, cm_le, cm_gt, cm_ge, cm_eqi, cm_nei, cm_eqs, cm_in2, op_addi, op_subi, op_muli, op_addl, op_addt, op_bl, op_mul0, op_x1, op_x0, op_mod, op_div, pr_int, pr_intb, pr_max, pr_min, pr_abs, bT_n, bT_t, bTs_n, bTs_c, sP_n, sP_c, isNon, iteB, thB, bindB, lift_B, asB_B, setD, e1, e2, e3, e4, e5, e6, e7, e8, Pl.d, Sd.d]
end Wt
set_option maxRecDepth 100000
set_option maxHeartbeats 1000000
/-! Likeness. -/
namespace Wt
open PySem L2
mutual
/-- plain data, not too deep, lists not too long -/
def D.fit (n : Nat) : D → Bool
  | .non => true
  | .bl _ => true
  | .int _ => true
  | .str x => PyData.strOk x
  | .lst xs => match n with
    | 0 => false
    | n + 1 => decide (xs.length ≤ 1000000) && D.fitAll n xs
  | .tup xs => match n with
    | 0 => false
    | n + 1 => decide (xs.length ≤ 1000000) && D.fitAll n xs
  | _ => false
def D.fitAll (n : Nat) : List D → Bool
  | [] => true
  | d :: ds => D.fit n d && D.fitAll n ds
end
mutual
theorem fit_flat : ∀ (n : Nat) (d : D), D.fit n d = true → D.flat n d = true
  | _, .non, _ => fl_non _
  | _, .bl _, _ => fl_bl _ _
  | _, .int _, _ => fl_int _ _
  | _, .str _, h => by simpa [D.flat, D.fit] using h
  | 0, .lst _, h => by simp [D.fit] at h
  | n + 1, .lst xs, h => by
    simp only [D.fit, Bool.and_eq_true] at h
    simp only [D.flat]
    exact fitAll_flat n xs h.2
  | 0, .tup _, h => by simp [D.fit] at h
  | n + 1, .tup xs, h => by
    simp only [D.fit, Bool.and_eq_true] at h
    simp only [D.flat]
    exact fitAll_flat n xs h.2
  | _, .scr _, h => by simp [D.fit] at h
  | _, .loc _, h => by simp [D.fit] at h
  | _, .dic _ _, h => by simp [D.fit] at h
theorem fitAll_flat : ∀ (n : Nat) (ds : List D), D.fitAll n ds = true → D.flatAll n ds = true
  | _, [], _ => rfl
  | n, d :: ds, h => by
    simp only [D.flatAll, D.fitAll, Bool.and_eq_true] at h ⊢
    exact ⟨fit_flat n d h.1, fitAll_flat n ds h.2⟩
end
theorem flat_le {n m : Nat} (h : n ≤ m) {d : D} (hd : D.flat n d = true) : D.flat m d = true := by
  induction h with
  | refl => exact hd
  | step _ ih => exact flat_succ _ _ ih
def kindD : D → Int
  | .non => 0
  | .bl _ => 1
  | .lst _ => 2
  | .tup _ => 3
  | .int _ => 4
  | .str _ => 5
  | _ => 6
theorem kind_ok (k : Nat) (d : D) (h : D.flat 60 d = true) (S : Store) : callF tab (k + 1) n__law_kind [d] S = .ok (.int (kindD d)) S := by
  rw [u__law_kind]
  have e : exL (callF tab k) ir__law_kind.body [some d] S = .rt (.int (kindD d)) S := by
    cases d <;> simp [D.flat] at h <;> simp [ir__law_kind, exL_n, exL_c, seq_nx, seq_rt, seq_ex, seq_bk, seq_ct, fl_non, fl_bl, fl_int, fl_str, exS, ev, evs, ix_t, ix_l, ix_s, atI_0, atI_1, atI_2, atI_3, atI_4, atI_5, atI_6, cm_lt, cm_le, cm_gt, cm_ge, cm_eqi, cm_nei, cm_eqs, cm_in2, op_addi, op_subi, op_muli, op_addl, op_addt, op_bl, op_mul0, op_x1, op_x0, op_mod, op_div, pr_int, pr_intb, pr_max, pr_min, pr_abs, bT_n, bT_t, bTs_n, bTs_c, sP_n, sP_c, isNon, iteB, thB, bindB, lift_B, asB_B, setD, cmpD, tysD, tyD, kindD]
  rw [e, leave_rt]
mutual
def twinsD : D → D → Bool
  | .lst xs, .lst ys => twinsAll xs ys
  | .tup xs, .tup ys => twinsAll xs ys
  | .non, .non => true
  | .bl a, .bl b => a == b
  | .int a, .int b => a == b
  | .str a, .str b => a == b
  | _, _ => false
def twinsAll : List D → List D → Bool
  | [], [] => true
  | x :: xs, y :: ys => twinsD x y && twinsAll xs ys
  | _, _ => false
end
mutual
theorem twins_refl : ∀ (n : Nat) (d : D), D.fit n d = true → twinsD d d = true
  | _, .non, _ => rfl
  | _, .bl _, _ => by simp [twinsD]
  | _, .int _, _ => by simp [twinsD]
  | _, .str _, h => by simp [twinsD]
  | 0, .lst _, h => by simp [D.fit] at h
  | n + 1, .lst xs, h => by
    simp only [D.fit, Bool.and_eq_true] at h
    simp only [twinsD]
    exact twinsAll_refl n xs h.2
  | 0, .tup _, h => by simp [D.fit] at h
  | n + 1, .tup xs, h => by
    simp only [D.fit, Bool.and_eq_true] at h
    simp only [twinsD]
    exact twinsAll_refl n xs h.2
  | _, .scr _, h => by simp [D.fit] at h
  | _, .loc _, h => by simp [D.fit] at h
  | _, .dic _ _, h => by simp [D.fit] at h
theorem twinsAll_refl : ∀ (n : Nat) (ds : List D), D.fitAll n ds = true → twinsAll ds ds = true
  | _, [], _ => rfl
  | n, d :: ds, h => by
    simp only [twinsAll, D.fitAll, Bool.and_eq_true] at h ⊢
    exact ⟨twins_refl n d h.1, twinsAll_refl n ds h.2⟩
end
theorem fitAll_mem {n : Nat} {x : D} : ∀ {ds : List D}, D.fitAll n ds = true → x ∈ ds → D.fit n x = true
  | [], _, h => by cases h
  | d :: ds, e, h => by
    simp only [D.fitAll, Bool.and_eq_true] at e
    rcases List.mem_cons.mp h with rfl | h
    · exact e.1
    · exact fitAll_mem e.2 h
/-- the comprehension over the pairs -/
theorem tw_lc (T E : Slots → Store → Out D) (ρ : Slots) (hρ : 3 < ρ.length) (S : Store) (f : D → D → Bool) : ∀ (xs ys : List D),
    (∀ x y, x ∈ xs → y ∈ ys → ∀ ρ', ρ'[2]? = some (some x) → ρ'[3]? = some (some y) → T ρ' S = .ok (.bl (!f x y)) S) → (∀ ρ', E ρ' S = .ok (.int 1) S) → xs.length = ys.length →
    ∃ l, lcL T E (.tup [.nm 2, .nm 3]) ρ ((xs.zip ys).map fun p => .tup [p.1, p.2]) S = .ok l S ∧ D.flatAll 59 l = true ∧ (D.eqvAll l [] = ((xs.zip ys).all fun p => f p.1 p.2))
  | [], [], _, _, _ => ⟨[], rfl, rfl, rfl⟩
  | x :: xs, y :: ys, hT, hE, hl => by
    obtain ⟨l, e1, e2, e3⟩ := tw_lc T E ρ hρ S f xs ys (fun a b ha hb => hT a b (.tail _ ha) (.tail _ hb)) hE (by simpa using hl)
    have hb : bindT (.tup [.nm 2, .nm 3]) (.tup [x, y]) ρ = some ((ρ.set 2 (some x)).set 3 (some y)) := rfl
    have ht := hT x y (.head _) (.head _) ((ρ.set 2 (some x)).set 3 (some y)) (by simp [List.getElem?_set]; omega) (by simp [List.getElem?_set]; omega)
    cases hf : f x y
    · refine ⟨.int 1 :: l, ?_, ?_, ?_⟩
      · simp only [List.zip_cons_cons, List.map_cons, lcL, hb, ht, hf, Bool.not_false, asB_bl, hE, e1, Out.bind_ok]
      · simp only [D.flatAll, fl_int, e2, Bool.and_self]
      · simp [D.eqvAll, hf]
    · refine ⟨l, ?_, e2, ?_⟩
      · simp only [List.zip_cons_cons, List.map_cons, lcL, hb, ht, hf, Bool.not_true, asB_bl, e1]
      · simp [e3, hf]
  | [], _ :: _, _, _, h => by simp at h
  | _ :: _, [], _, _, h => by simp at h
theorem zip_twins : ∀ (xs ys : List D), xs.length = ys.length → ((xs.zip ys).all fun p => twinsD p.1 p.2) = twinsAll xs ys
  | [], [], _ => rfl
  | x :: xs, y :: ys, h => by
    simp only [List.zip_cons_cons, List.all_cons, twinsAll, zip_twins xs ys (by simpa using h)]
  | [], _ :: _, h => by simp at h
  | _ :: _, [], h => by simp at h
theorem twins_len : ∀ (xs ys : List D), ¬ xs.length = ys.length → twinsAll xs ys = false
  | [], [], h => by simp at h
  | x :: xs, y :: ys, h => by
    simp only [twinsAll, twins_len xs ys (by simpa using h), Bool.and_false]
  | [], _ :: _, _ => rfl
  | _ :: _, [], _ => rfl
theorem in23 (x : Int) : cmpD .In (.int x) (.lst [.int 2, .int 3]) = some (decide (2 = x) || decide (3 = x)) := by
  have e : (D.flat 60 (.int x) && D.flatAll 60 [.int 2, .int 3]) = true := rfl
  show (if (D.flat 60 (.int x) && D.flatAll 60 [.int 2, .int 3]) = true then some ([D.int 2, .int 3].any fun z => D.eqv z (.int x)) else none) = _
  rw [e]
  simp [D.eqv]
  by_cases h : 2 = x <;> by_cases h2 : 3 = x <;> simp [h, h2]
theorem len_l (xs : List D) (S : Store) : prD .len [.lst xs] S = some (.int xs.length) := rfl
theorem len_t (xs : List D) (S : Store) : prD .len [.tup xs] S = some (.int xs.length) := rfl
theorem zip_l (xs ys : List D) : itD .zip [.lst xs, .lst ys] = some ((xs.zip ys).map fun p => .tup [p.1, p.2]) := rfl
theorem zip_t (xs ys : List D) : itD .zip [.tup xs, .tup ys] = some ((xs.zip ys).map fun p => .tup [p.1, p.2]) := rfl
theorem ev_lc {F : Nat → List D → Store → Out D} {elt : E} {g : Tg} {it : It} {es : List E} {c : E} {own : List Nat} {ρ : Slots} {S S1 S2 : Store} {ds items l : List D} (h1 : evs F es ρ S = .ok ds S1) (h2 : itD it ds = some items) (h3 : roomy items.length = true)
    (h4 : lcL (ev F c) (ev F elt) g (wipeE ρ own) items S1 = .ok l S2) : ev F (.lc elt g it es c own) ρ S = .ok (.lst l) S2 := by
  rw [ev, h1, Out.bind_ok, h2]
  show (if roomy items.length = true then (lcL (ev F c) (ev F elt) g (wipeE ρ own) items S1).bind fun (ys : List D) (S2 : Store) => Out.ok (D.lst ys) S2 else .no) = _
  rw [if_pos h3, h4]
  rfl
theorem twins_lc (F : Nat → List D → Store → Out D) (a b : D) (na nb k : Int) (l : List D) (r : Bool) (S : Store) (q : E) (ka : F n__law_kind [a] S = .ok (.int k) S) (kb : F n__law_kind [b] S = .ok (.int k) S) (hk : k = 2 ∨ k = 3)
    (la : prD .len [a] S = some (.int na)) (lb : prD .len [b] S = some (.int nb)) (hq : na = nb → ev F q [some a, some b, none, none] S = .ok (.lst l) S) (he : na = nb → cmpD .Eq (.lst l) (.lst []) = some r) (hr : ¬ na = nb → r = false) :
    exL F [.ite (.cmp .NotEq (.call n__law_kind [.var 0]) (.call n__law_kind [.var 1])) [.ret (.k (.bl false))] [],
      .ite (.cmp .In (.call n__law_kind [.var 0]) (.lst [.k (.int 2), .k (.int 3)])) [.ret (.and (.cmp .Eq (.prim .len [.var 0]) (.prim .len [.var 1])) (.cmp .Eq q (.lst [])))] [],
      .ret (.cmp .Eq (.var 0) (.var 1))] [some a, some b, none, none] S = .rt (.bl r) S := by
  by_cases h : na = nb
  · rcases hk with rfl | rfl <;> simp [exL_n, exL_c, seq_nx, seq_rt, seq_ex, seq_bk, seq_ct, fl_non, fl_bl, fl_int, fl_str, exS, ev, evs, ix_t, ix_l, ix_s, atI_0, atI_1, atI_2, atI_3, atI_4, atI_5, atI_6, cm_lt, cm_le, cm_gt, cm_ge, cm_eqi, cm_nei, cm_eqs, cm_in2, op_addi, op_subi, op_muli, op_addl, op_addt, op_bl, op_mul0, op_x1, op_x0, op_mod, op_div, pr_int, pr_intb, pr_max, pr_min, pr_abs, bT_n, bT_t, bTs_n, bTs_c, sP_n, sP_c, isNon, iteB, thB, bindB, lift_B, asB_B, setD, ka, kb, la, lb, in23, hq h, he h, h]
  · rcases hk with rfl | rfl <;> simp [exL_n, exL_c, seq_nx, seq_rt, seq_ex, seq_bk, seq_ct, fl_non, fl_bl, fl_int, fl_str, exS, ev, evs, ix_t, ix_l, ix_s, atI_0, atI_1, atI_2, atI_3, atI_4, atI_5, atI_6, cm_lt, cm_le, cm_gt, cm_ge, cm_eqi, cm_nei, cm_eqs, cm_in2, op_addi, op_subi, op_muli, op_addl, op_addt, op_bl, op_mul0, op_x1, op_x0, op_mod, op_div, pr_int, pr_intb, pr_max, pr_min, pr_abs, bT_n, bT_t, bTs_n, bTs_c, sP_n, sP_c, isNon, iteB, thB, bindB, lift_B, asB_B, setD, ka, kb, la, lb, in23, h, hr h]
theorem twins_step (k : Nat) (a b : D) (fa : D.flat 60 a = true) (fb : D.flat 60 b = true) (S : Store) (hl : ∀ xs ys, (a = .lst xs ∨ a = .tup xs) → (b = .lst ys ∨ b = .tup ys) → xs.length ≤ 1000000 ∧ ∀ x y, x ∈ xs → y ∈ ys → callF tab (k + 1) n__law_twins [x, y] S = .ok (.bl (twinsD x y)) S) :
    exL (callF tab (k + 1)) ir__law_twins.body [some a, some b, none, none] S = .rt (.bl (twinsD a b)) S := by
  have ka := kind_ok k a fa S
  have kb := kind_ok k b fb S
  have ce := cm_eq a b fa fb
  by_cases hk : kindD a = kindD b
  · have hq : (∃ xs ys, a = .lst xs ∧ b = .lst ys) ∨ (∃ xs ys, a = .tup xs ∧ b = .tup ys) ∨ (¬ kindD b = 2 ∧ ¬ kindD b = 3 ∧ twinsD a b = D.eqv a b) := by
      cases a <;> simp [D.flat] at fa <;> cases b <;> simp [D.flat] at fb <;> simp [kindD] at hk <;> simp [kindD, twinsD, D.eqv]
    rcases hq with ⟨xs, ys, rfl, rfl⟩ | ⟨xs, ys, rfl, rfl⟩ | ⟨h2, h3, e⟩
    · obtain ⟨hx, hr⟩ := hl xs ys (.inl rfl) (.inl rfl)
      by_cases hn : xs.length = ys.length
      · obtain ⟨l, e1, e2, e3⟩ := tw_lc (ev (callF tab (k + 1)) (.not (.call n__law_twins [.var 2, .var 3]))) (ev (callF tab (k + 1)) (.k (.int 1))) (wipeE [some (.lst xs), some (.lst ys), none, none] [2, 3]) (by simp [wipeE]) S twinsD xs ys
          (fun x y hx hy ρ' h2 h3 => by simp [ev, evs, h2, h3, hr x y hx hy]) (fun _ => rfl) hn
        have hz : roomy (List.length ((xs.zip ys).map fun p => D.tup [p.1, p.2])) = true := by
          simp [roomy, List.length_zip]
          omega
        have e4 := cm_eq (.lst l) (.lst []) (by simpa [D.flat] using e2) rfl
        rw [show D.eqv (.lst l) (.lst []) = D.eqvAll l [] from rfl, e3, zip_twins xs ys hn] at e4
        have e5 := ev_lc (F := callF tab (k + 1)) (elt := .k (.int 1)) (g := .tup [.nm 2, .nm 3]) (it := .zip) (es := [.var 0, .var 1]) (c := .not (.call n__law_twins [.var 2, .var 3])) (own := [2, 3]) (ρ := [some (.lst xs), some (.lst ys), none, none]) (S := S) (by simp [evs, ev]) (zip_l xs ys) hz e1
        exact twins_lc _ _ _ _ _ _ l _ S _ ka kb (.inl rfl) (len_l xs S) (len_l ys S) (fun _ => e5) (fun _ => e4) (fun z => absurd (by rw [hn]) z)
      · have hn' : ¬ (xs.length : Int) = (ys.length : Int) := by omega
        refine twins_lc _ _ _ _ _ _ [] (twinsAll xs ys) S _ ka kb (.inl rfl) (len_l xs S) (len_l ys S) (fun z => absurd z hn') (fun z => absurd z hn') (fun _ => twins_len xs ys hn)
    · obtain ⟨hx, hr⟩ := hl xs ys (.inr rfl) (.inr rfl)
      by_cases hn : xs.length = ys.length
      · obtain ⟨l, e1, e2, e3⟩ := tw_lc (ev (callF tab (k + 1)) (.not (.call n__law_twins [.var 2, .var 3]))) (ev (callF tab (k + 1)) (.k (.int 1))) (wipeE [some (.tup xs), some (.tup ys), none, none] [2, 3]) (by simp [wipeE]) S twinsD xs ys
          (fun x y hx hy ρ' h2 h3 => by simp [ev, evs, h2, h3, hr x y hx hy]) (fun _ => rfl) hn
        have hz : roomy (List.length ((xs.zip ys).map fun p => D.tup [p.1, p.2])) = true := by
          simp [roomy, List.length_zip]
          omega
        have e4 := cm_eq (.lst l) (.lst []) (by simpa [D.flat] using e2) rfl
        rw [show D.eqv (.lst l) (.lst []) = D.eqvAll l [] from rfl, e3, zip_twins xs ys hn] at e4
        have e5 := ev_lc (F := callF tab (k + 1)) (elt := .k (.int 1)) (g := .tup [.nm 2, .nm 3]) (it := .zip) (es := [.var 0, .var 1]) (c := .not (.call n__law_twins [.var 2, .var 3])) (own := [2, 3]) (ρ := [some (.tup xs), some (.tup ys), none, none]) (S := S) (by simp [evs, ev]) (zip_t xs ys) hz e1
        exact twins_lc _ _ _ _ _ _ l _ S _ ka kb (.inr rfl) (len_t xs S) (len_t ys S) (fun _ => e5) (fun _ => e4) (fun z => absurd (by rw [hn]) z)
      · have hn' : ¬ (xs.length : Int) = (ys.length : Int) := by omega
        refine twins_lc _ _ _ _ _ _ [] (twinsAll xs ys) S _ ka kb (.inr rfl) (len_t xs S) (len_t ys S) (fun z => absurd z hn') (fun z => absurd z hn') (fun _ => twins_len xs ys hn)
    · have h2' : ¬ 2 = kindD b := fun z => h2 z.symm
      have h3' : ¬ 3 = kindD b := fun z => h3 z.symm
      simp [ir__law_twins, exL_n, exL_c, seq_nx, seq_rt, seq_ex, seq_bk, seq_ct, fl_non, fl_bl, fl_int, fl_str, exS, ev, evs, ix_t, ix_l, ix_s, atI_0, atI_1, atI_2, atI_3, atI_4, atI_5, atI_6, cm_lt, cm_le, cm_gt, cm_ge, cm_eqi, cm_nei, cm_eqs, cm_in2, op_addi, op_subi, op_muli, op_addl, op_addt, op_bl, op_mul0, op_x1, op_x0, op_mod, op_div, pr_int, pr_intb, pr_max, pr_min, pr_abs, bT_n, bT_t, bTs_n, bTs_c, sP_n, sP_c, isNon, iteB, thB, bindB, lift_B, asB_B, setD, ka, kb, hk, in23, ce, e, h2', h3']
  · have e : twinsD a b = false := by
      cases a <;> cases b <;> simp [kindD] at hk <;> rfl
    simp [ir__law_twins, exL_n, exL_c, seq_nx, seq_rt, seq_ex, seq_bk, seq_ct, fl_non, fl_bl, fl_int, fl_str, exS, ev, evs, ix_t, ix_l, ix_s, atI_0, atI_1, atI_2, atI_3, atI_4, atI_5, atI_6, cm_lt, cm_le, cm_gt, cm_ge, cm_eqi, cm_nei, cm_eqs, cm_in2, op_addi, op_subi, op_muli, op_addl, op_addt, op_bl, op_mul0, op_x1, op_x0, op_mod, op_div, pr_int, pr_intb, pr_max, pr_min, pr_abs, bT_n, bT_t, bTs_n, bTs_c, sP_n, sP_c, isNon, iteB, thB, bindB, lift_B, asB_B, setD, ka, kb, hk, e]
theorem twins_ok : ∀ (n : Nat), n ≤ 50 → ∀ (k : Nat) (a b : D), D.fit n a = true → D.fit n b = true → ∀ S : Store, callF tab (k + n + 2) n__law_twins [a, b] S = .ok (.bl (twinsD a b)) S := by
  intro n
  induction n with
  | zero =>
    intro hn k a b ha hb S
    rw [u__law_twins, twins_step (k + 0) a b (flat_le (by omega) (fit_flat _ _ ha)) (flat_le (by omega) (fit_flat _ _ hb)) S, leave_rt]
    intro xs ys h1 h2
    rcases h1 with rfl | rfl <;> simp [D.fit] at ha
  | succ n ih =>
    intro hn k a b ha hb S
    rw [u__law_twins, show k + (n + 1) + 1 = (k + n + 1) + 1 by omega, twins_step (k + n + 1) a b (flat_le (by omega) (fit_flat _ _ ha)) (flat_le (by omega) (fit_flat _ _ hb)) S, leave_rt]
    intro xs ys h1 h2
    have h3 : xs.length ≤ 1000000 ∧ D.fitAll n xs = true := by
      rcases h1 with rfl | rfl <;> simpa [D.fit] using ha
    have h4 : D.fitAll n ys = true := by
      rcases h2 with rfl | rfl <;> simp [D.fit] at hb <;> exact hb.2
    exact ⟨h3.1, fun x y hx hy => ih (by omega) k x y (fitAll_mem h3.2 hx) (fitAll_mem h4 hy) S⟩
end Wt
set_option maxRecDepth 100000
set_option maxHeartbeats 1000000
/-! Choices looked at; what comes of a tick; loops. -/
namespace Wt
open PySem L2
theorem chN_le {p : Pl} (hp : p.Ok) (s : Sd) : 1 ≤ chN p s ∧ chN p s ≤ 5 := by
  have m1 := hp.m1
  have m2 := hp.m2
  unfold chN
  split <;> omega
theorem fit_ch {n : Nat} (h : n ≤ 5) : D.fit 3 (.lst (chL n)) = true := by
  obtain rfl | rfl | rfl | rfl | rfl | rfl : n = 0 ∨ n = 1 ∨ n = 2 ∨ n = 3 ∨ n = 4 ∨ n = 5 := by omega
  all_goals rfl
theorem flat_ch {n : Nat} (h : n ≤ 5) : D.flatAll 60 (chL n) = true := by
  obtain rfl | rfl | rfl | rfl | rfl | rfl : n = 0 ∨ n = 1 ∨ n = 2 ∨ n = 3 ∨ n = 4 ∨ n = 5 := by omega
  all_goals rfl
theorem ch_mem {n : Nat} {d : D} (h : d ∈ chL n) : ∃ (i : Nat) (b : Bool), d = .tup [.int (i : Int), .bl b] ∧ i < n := by
  unfold chL at h
  simp only [List.mem_flatMap, List.mem_range, List.mem_cons, List.not_mem_nil, or_false] at h
  obtain ⟨i, hi, rfl | rfl⟩ := h
  · exact ⟨i, false, rfl, hi⟩
  · exact ⟨i, true, rfl, hi⟩
theorem any_ch {n : Nat} (hn : n ≤ 5) (i : Int) (b : Bool) : ((chL n).any fun z => D.eqv z (.tup [.int i, .bl b])) = decide (0 ≤ i ∧ i < (n : Int)) := by
  rw [Bool.eq_iff_iff]
  obtain rfl | rfl | rfl | rfl | rfl | rfl : n = 0 ∨ n = 1 ∨ n = 2 ∨ n = 3 ∨ n = 4 ∨ n = 5 := by omega
  · simp [chL] <;> omega
  all_goals
    simp only [ch_1, ch_2, ch_3, ch_4, ch_5, List.any_cons, List.any_nil, D.eqv, D.eqvAll]
    cases b <;> simp <;> omega
def likeD (n : Nat) (v : D) : Bool := match v with
  | .tup [a, b] => winD a 0 4 && isBl b && (chL n).any fun z => D.eqv z (.tup [a, b])
  | _ => false
theorem tys_tup {d : D} (h : D.flat 60 d = true) : tysD [.tuple] d = some (match d with | .tup _ => true | _ => false) := by
  cases d <;> simp [D.flat] at h <;> rfl
theorem cm_in {a : D} {xs : List D} (ha : D.flat 60 a = true) (hx : D.flatAll 60 xs = true) : cmpD .In a (.lst xs) = some (xs.any fun z => D.eqv z a) := by
  show (if (D.flat 60 a && D.flatAll 60 xs) = true then some (xs.any fun z => D.eqv z a) else none) = _
  rw [ha, hx]
  rfl
theorem is_like_ok (k : Nat) {n : Nat} (hn : n ≤ 5) (v : D) (hv : D.flat 60 v = true) (S : Store) : callF tab (k + 2) n_is_like [v, .lst (chL n)] S = .ok (.bl (likeD n v)) S := by
  rw [u_is_like]
  have hc := flat_ch hn
  have e : exL (callF tab (k + 1)) ir_is_like.body [some v, some (.lst (chL n))] S = .rt (.bl (likeD n v)) S := by
    by_cases hr : rowD v 2 = true
    · cases v with
      | tup ds =>
        rcases ds with _ | ⟨a, _ | ⟨b, _ | ⟨c, ds⟩⟩⟩ <;> simp [rowD] at hr
        · have hv' := flatAll_of hv
          simp only [D.flatAll, Bool.and_eq_true] at hv'
          obtain ⟨ha, hb, _⟩ := hv'
          have hi := cm_in hv hc
          by_cases h1 : winD a 0 4 = true
          · simp [ir_is_like, exL_n, exL_c, seq_nx, seq_rt, seq_ex, seq_bk, seq_ct, fl_non, fl_bl, fl_int, fl_str, exS, ev, evs, ix_t, ix_l, ix_s, atI_0, atI_1, atI_2, atI_3, atI_4, atI_5, atI_6, cm_lt, cm_le, cm_gt, cm_ge, cm_eqi, cm_nei, cm_eqs, cm_in2, op_addi, op_subi, op_muli, op_addl, op_addt, op_bl, op_mul0, op_x1, op_x0, op_mod, op_div, pr_int, pr_intb, pr_max, pr_min, pr_abs, bT_n, bT_t, bTs_n, bTs_c, sP_n, sP_c, isNon, iteB, thB, bindB, lift_B, asB_B, setD, is_within_ok, hv, ha, hb, tys_tup, tys_bool, likeD, h1, len_t, hi]
          · simp [ir_is_like, exL_n, exL_c, seq_nx, seq_rt, seq_ex, seq_bk, seq_ct, fl_non, fl_bl, fl_int, fl_str, exS, ev, evs, ix_t, ix_l, ix_s, atI_0, atI_1, atI_2, atI_3, atI_4, atI_5, atI_6, cm_lt, cm_le, cm_gt, cm_ge, cm_eqi, cm_nei, cm_eqs, cm_in2, op_addi, op_subi, op_muli, op_addl, op_addt, op_bl, op_mul0, op_x1, op_x0, op_mod, op_div, pr_int, pr_intb, pr_max, pr_min, pr_abs, bT_n, bT_t, bTs_n, bTs_c, sP_n, sP_c, isNon, iteB, thB, bindB, lift_B, asB_B, setD, is_within_ok, hv, ha, hb, tys_tup, tys_bool, likeD, h1, len_t]
        · omega
      | _ => simp [rowD] at hr
    · by_cases ht : ∃ ds, v = .tup ds
      · obtain ⟨ds, rfl⟩ := ht
        have hl : ¬ (ds.length : Int) = 2 := by simpa [rowD] using hr
        have e0 : likeD n (.tup ds) = false := by
          rcases ds with _ | ⟨a, _ | ⟨b, _ | ⟨c, ds⟩⟩⟩ <;> simp at hl <;> rfl
        simp [ir_is_like, exL_n, exL_c, seq_nx, seq_rt, seq_ex, seq_bk, seq_ct, fl_non, fl_bl, fl_int, fl_str, exS, ev, evs, ix_t, ix_l, ix_s, atI_0, atI_1, atI_2, atI_3, atI_4, atI_5, atI_6, cm_lt, cm_le, cm_gt, cm_ge, cm_eqi, cm_nei, cm_eqs, cm_in2, op_addi, op_subi, op_muli, op_addl, op_addt, op_bl, op_mul0, op_x1, op_x0, op_mod, op_div, pr_int, pr_intb, pr_max, pr_min, pr_abs, bT_n, bT_t, bTs_n, bTs_c, sP_n, sP_c, isNon, iteB, thB, bindB, lift_B, asB_B, setD, hv, tys_tup, len_t, hl, e0]
      · have e0 : likeD n v = false := by
          cases v <;> first | rfl | exact absurd ⟨_, rfl⟩ ht
        have e1 : tysD [.tuple] v = some false := by
          rw [tys_tup hv]
          cases v <;> first | rfl | exact absurd ⟨_, rfl⟩ ht
        simp [ir_is_like, exL_n, exL_c, seq_nx, seq_rt, seq_ex, seq_bk, seq_ct, fl_non, fl_bl, fl_int, fl_str, exS, ev, evs, ix_t, ix_l, ix_s, atI_0, atI_1, atI_2, atI_3, atI_4, atI_5, atI_6, cm_lt, cm_le, cm_gt, cm_ge, cm_eqi, cm_nei, cm_eqs, cm_in2, op_addi, op_subi, op_muli, op_addl, op_addt, op_bl, op_mul0, op_x1, op_x0, op_mod, op_div, pr_int, pr_intb, pr_max, pr_min, pr_abs, bT_n, bT_t, bTs_n, bTs_c, sP_n, sP_c, isNon, iteB, thB, bindB, lift_B, asB_B, setD, e1, e0]
  rw [e, leave_rt]
theorem like_ch {n : Nat} (hn : n ≤ 5) {i : Int} (h0 : 0 ≤ i) (hi : i < (n : Int)) (b : Bool) : likeD n (.tup [.int i, .bl b]) = true := by
  have : i ≤ 4 := by omega
  simp [likeD, winD, isBl, any_ch hn, h0, hi, this]
section
variable {p : Pl} {s : Sd} (hp : p.Ok) (hs : s.Ok p)
theorem look_at_choice_ok (hp : p.Ok) (hs : s.Ok p) (k : Nat) {v : D} (hv : D.flat 60 v = true) (hl : likeD (chN p s) v = true) (S : Store) : callF tab (k + 5) n_look_at_choice [p.d, s.d, v] S = .ok .non S := by
  rw [u_look_at_choice]
  have e : exL (callF tab (k + 4)) ir_look_at_choice.body [some p.d, some s.d, some v] S = .nx [some p.d, some s.d, some v] S := by
    simp [ir_look_at_choice, exL_n, exL_c, seq_nx, seq_rt, seq_ex, seq_bk, seq_ct, fl_non, fl_bl, fl_int, fl_str, exS, ev, evs, ix_t, ix_l, ix_s, atI_0, atI_1, atI_2, atI_3, atI_4, atI_5, atI_6, cm_lt, cm_le, cm_gt, cm_ge, cm_eqi, cm_nei, cm_eqs, cm_in2, op_addi, op_subi, op_muli, op_addl, op_addt, op_bl, op_mul0, op_x1, op_x0, op_mod, op_div, pr_int, pr_intb, pr_max, pr_min, pr_abs, bT_n, bT_t, bTs_n, bTs_c, sP_n, sP_c, isNon, iteB, thB, bindB, lift_B, asB_B, setD, look_at_plan_ok _ hp, look_at_stand_ok _ _ (flat_stand s) (fitsD_stand hs), choices_of_ok _ hp, is_like_ok _ (chN_le hp s).2 _ hv, hl]
  rw [e, leave_nx]
theorem choices_at_ok (hp : p.Ok) (hs : s.Ok p) (k : Nat) (S : Store) : callF tab (k + 5) n_choices_at [p.d, s.d] S = .ok (.lst (chL (chN p s))) S := by
  rw [u_choices_at]
  have e : exL (callF tab (k + 4)) ir_choices_at.body [some p.d, some s.d] S = .rt (.lst (chL (chN p s))) S := by
    simp [ir_choices_at, exL_n, exL_c, seq_nx, seq_rt, seq_ex, seq_bk, seq_ct, fl_non, fl_bl, fl_int, fl_str, exS, ev, evs, ix_t, ix_l, ix_s, atI_0, atI_1, atI_2, atI_3, atI_4, atI_5, atI_6, cm_lt, cm_le, cm_gt, cm_ge, cm_eqi, cm_nei, cm_eqs, cm_in2, op_addi, op_subi, op_muli, op_addl, op_addt, op_bl, op_mul0, op_x1, op_x0, op_mod, op_div, pr_int, pr_intb, pr_max, pr_min, pr_abs, bT_n, bT_t, bTs_n, bTs_c, sP_n, sP_c, isNon, iteB, thB, bindB, lift_B, asB_B, setD, look_at_plan_ok _ hp, look_at_stand_ok _ _ (flat_stand s) (fitsD_stand hs), choices_of_ok _ hp]
  rw [e, leave_rt]
theorem after_ok (hp : p.Ok) (hs : s.Ok p) (k : Nat) {dr : Int} {pr : Bool} (hl : likeD (chN p s) (.tup [.int dr, .bl pr]) = true) (S : Store) : callF tab (k + 6) n_after [p.d, s.d, .tup [.int dr, .bl pr]] S = .ok (nextQ p s pr (drawnL p s dr)).d S := by
  rw [u_after]
  have e : exL (callF tab (k + 5)) ir_after.body [some p.d, some s.d, some (.tup [.int dr, .bl pr])] S = .rt (nextQ p s pr (drawnL p s dr)).d S := by
    simp [ir_after, exL_n, exL_c, seq_nx, seq_rt, seq_ex, seq_bk, seq_ct, fl_non, fl_bl, fl_int, fl_str, exS, ev, evs, ix_t, ix_l, ix_s, atI_0, atI_1, atI_2, atI_3, atI_4, atI_5, atI_6, cm_lt, cm_le, cm_gt, cm_ge, cm_eqi, cm_nei, cm_eqs, cm_in2, op_addi, op_subi, op_muli, op_addl, op_addt, op_bl, op_mul0, op_x1, op_x0, op_mod, op_div, pr_int, pr_intb, pr_max, pr_min, pr_abs, bT_n, bT_t, bTs_n, bTs_c, sP_n, sP_c, isNon, iteB, thB, bindB, lift_B, asB_B, setD, look_at_choice_ok hp hs _ (v := .tup [.int dr, .bl pr]) rfl hl, passed_ok _ hs, passedD, passedQ]
  rw [e, leave_rt]
theorem told_ok (hp : p.Ok) (hs : s.Ok p) (k : Nat) {dr : Int} {pr : Bool} (hl : likeD (chN p s) (.tup [.int dr, .bl pr]) = true) (S : Store) : callF tab (k + 6) n_told [p.d, s.d, .tup [.int dr, .bl pr]] S = .ok (wordsD (sortS (wordQ p s pr (drawnL p s dr)))) S := by
  rw [u_told]
  have e : exL (callF tab (k + 5)) ir_told.body [some p.d, some s.d, some (.tup [.int dr, .bl pr])] S = .rt (wordsD (sortS (wordQ p s pr (drawnL p s dr)))) S := by
    simp [ir_told, exL_n, exL_c, seq_nx, seq_rt, seq_ex, seq_bk, seq_ct, fl_non, fl_bl, fl_int, fl_str, exS, ev, evs, ix_t, ix_l, ix_s, atI_0, atI_1, atI_2, atI_3, atI_4, atI_5, atI_6, cm_lt, cm_le, cm_gt, cm_ge, cm_eqi, cm_nei, cm_eqs, cm_in2, op_addi, op_subi, op_muli, op_addl, op_addt, op_bl, op_mul0, op_x1, op_x0, op_mod, op_div, pr_int, pr_intb, pr_max, pr_min, pr_abs, bT_n, bT_t, bTs_n, bTs_c, sP_n, sP_c, isNon, iteB, thB, bindB, lift_B, asB_B, setD, look_at_choice_ok hp hs _ (v := .tup [.int dr, .bl pr]) rfl hl, passed_ok _ hs, passedD, passedQ]
  rw [e, leave_rt]
end
/-! words -/
def okW (l : List Str) : Prop := l.length ≤ 60 ∧ ∀ x ∈ l, PyData.strOk x = true
theorem ins_len (x : Str) : ∀ l, (insS x l).length = l.length + 1
  | [] => rfl
  | y :: r => by
    unfold insS
    split
    · simp only [List.length_cons, ins_len x r]
    · rfl
theorem ins_mem {x z : Str} : ∀ {l}, z ∈ insS x l → z = x ∨ z ∈ l
  | [], h => by simpa [insS] using h
  | y :: r, h => by
    unfold insS at h
    split at h
    · rcases List.mem_cons.mp h with rfl | h
      · exact .inr (.head _)
      · rcases ins_mem h with h | h
        · exact .inl h
        · exact .inr (.tail _ h)
    · rcases List.mem_cons.mp h with rfl | h
      · exact .inl rfl
      · exact .inr h
theorem sort_len : ∀ l, (sortS l).length = l.length
  | [] => rfl
  | x :: r => by simp only [sortS, ins_len, sort_len r, List.length_cons]
theorem sort_mem {z : Str} : ∀ {l}, z ∈ sortS l → z ∈ l
  | [], h => h
  | x :: r, h => by
    rcases ins_mem h with rfl | h
    · exact .head _
    · exact .tail _ (sort_mem h)
theorem okW.sort {l : List Str} (h : okW l) : okW (sortS l) := ⟨by rw [sort_len]; exact h.1, fun x hx => h.2 x (sort_mem hx)⟩
theorem okW.fit {l : List Str} (h : okW l) (n : Nat) : D.fit (n + 1) (wordsD l) = true := by
  have e : ∀ l : List Str, (∀ x ∈ l, PyData.strOk x = true) → D.fitAll n (l.map D.str) = true := by
    intro l
    induction l with
    | nil => intro _; rfl
    | cons x r ih =>
      intro hx
      simp only [List.map_cons, D.fitAll, Bool.and_eq_true]
      exact ⟨by simpa [D.fit] using hx x (.head _), ih fun y hy => hx y (.tail _ hy)⟩
  have hl := h.1
  simp only [wordsD, D.fit, Bool.and_eq_true, decide_eq_true_eq, List.length_map]
  exact ⟨by omega, e l h.2⟩
theorem okW_word (p : Pl) (s : Sd) (pr : Bool) (dr : Int) : okW (wordQ p s pr (drawnL p s dr)) := by
  have h1 : PyData.strOk "cold" = true := by decide +kernel
  have h2 : PyData.strOk "lost" = true := by decide +kernel
  have h3 : PyData.strOk "cheap" = true := by decide +kernel
  have h4 : PyData.strOk "dear" = true := by decide +kernel
  have h5 : PyData.strOk "empty" = true := by decide +kernel
  have hd : (drawnL p s dr).2.2.2.length ≤ 1 ∧ ∀ x ∈ (drawnL p s dr).2.2.2, PyData.strOk x = true := by
    refine ⟨drawn_words p s dr, ?_⟩
    unfold drawnL
    repeat' split
    all_goals simp [h1, h2]
  generalize drawnL p s dr = q at *
  unfold wordQ
  constructor
  · have e : ∀ (c : Prop) [Decidable c] (x : Str), (if c then [x] else []).length ≤ 1 := by
      intro c _ x
      split <;> simp
    simp only [List.length_append]
    have e1 := e (heatsL p q.1 s.hour s.on (heldL p s pr) = true) (if s.hour < 2 then "cheap" else "dear")
    have e2 := e ((tickL p q.1 s.on s.warmed s.hour (heldL p s pr)).1 = 0) "empty"
    have e3 := hd.1
    omega
  · intro x hx
    simp only [List.mem_append] at hx
    rcases hx with (hx | hx) | hx
    · exact hd.2 x hx
    · split at hx
      · simp only [List.mem_cons, List.not_mem_nil, or_false] at hx
        subst hx
        split
        · exact h3
        · exact h4
      · cases hx
    · split at hx
      · simp only [List.mem_cons, List.not_mem_nil, or_false] at hx
        subst hx
        exact h5
      · cases hx
theorem fit_sd (s : Sd) (n : Nat) : D.fit (n + 1) s.d = true := by
  cases n <;> simp [Sd.d, D.fit, D.fitAll]
theorem fit_passed (p : Pl) (s : Sd) (pr : Bool) (dr : Int) : D.fit 3 (passedD p s dr pr) = true := by
  have h1 := (okW_word p s pr dr).sort.fit 1
  have h2 := fit_sd (nextQ p s pr (drawnL p s dr)) 1
  show (decide (2 ≤ 1000000) && (D.fit 2 (nextQ p s pr (drawnL p s dr)).d && (D.fit 2 (wordsD (sortS (wordQ p s pr (drawnL p s dr)))) && true))) = true
  rw [h1, h2]
  rfl
/-! loops -/
theorem forL_inv {body : Slots → Store → OutS} {g : Tg} (P : Slots → Store → Prop) : ∀ (ds : List D) (ρ : Slots) (S : Store), P ρ S →
    (∀ d ∈ ds, ∀ ρ S, P ρ S → ∃ ρ1, bindT g d ρ = some ρ1 ∧ ∃ ρ2 S2, body ρ1 S = .nx ρ2 S2 ∧ P ρ2 S2) → ∃ ρ' S', forL body g ds ρ S = .nx ρ' S' ∧ P ρ' S'
  | [], ρ, S, h, _ => ⟨ρ, S, rfl, h⟩
  | d :: ds, ρ, S, h, k => by
    obtain ⟨ρ1, e1, ρ2, S2, e2, h2⟩ := k d (.head _) ρ S h
    obtain ⟨ρ3, S3, e3, h3⟩ := forL_inv P ds ρ2 S2 h2 fun d' hd => k d' (.tail _ hd)
    refine ⟨ρ3, S3, ?_, h3⟩
    unfold forL
    rw [e1]
    show (match body ρ1 S with
      | .nx ρ2 S2 => forL body g ds ρ2 S2
      | .ct ρ2 S2 => forL body g ds ρ2 S2
      | .bk ρ2 S2 => .nx ρ2 S2
      | o => o) = _
    rw [e2]
    exact e3
theorem leave_any (n : Nat) (d : D) (S : Store) : ∃ T, leave n (.rt d S) = .ok d T := by
  show ∃ T, (match (if (decide (S.length ≤ n) || d.low n) = true then trim n S else none) with
    | some T => Out.ok d T
    | none => Out.ok d S) = .ok d T
  cases (if (decide (S.length ≤ n) || d.low n) = true then trim n S else none) with
  | none => exact ⟨_, rfl⟩
  | some T => exact ⟨_, rfl⟩
theorem ex_for {F : Nat → List D → Store → Out D} {g : Tg} {it : It} {es : List E} {b : List Wt.S} {ρ : Slots} {S S1 : Store} {ds items : List D} {o : OutS} (h1 : evs F es ρ S = .ok ds S1) (h2 : itD it ds = some items) (h3 : forL (exL F b) g items ρ S1 = o) : exS F (.for_ g it es b) ρ S = o := by
  rw [exS, h1, Out.thenS_ok, h2]
  exact h3
end Wt
set_option maxRecDepth 100000
set_option maxHeartbeats 1000000
/-! Values bent; the law's own looks; stands begun. -/
namespace Wt
open PySem L2
theorem law_int_ok (k : Nat) (v : D) (hv : D.flat 60 v = true) (lo hi : Int) (S : Store) : callF tab (k + 1) n__law_int [v, .int lo, .int hi] S = .ok (.bl (winD v lo hi)) S := by
  rw [u__law_int]
  have e : exL (callF tab k) ir__law_int.body [some v, some (.int lo), some (.int hi)] S = .rt (.bl (winD v lo hi)) S := by
    cases v <;> simp [D.flat] at hv <;> simp [ir__law_int, exL_n, exL_c, seq_nx, seq_rt, seq_ex, seq_bk, seq_ct, fl_non, fl_bl, fl_int, fl_str, exS, ev, evs, ix_t, ix_l, ix_s, atI_0, atI_1, atI_2, atI_3, atI_4, atI_5, atI_6, cm_lt, cm_le, cm_gt, cm_ge, cm_eqi, cm_nei, cm_eqs, cm_in2, op_addi, op_subi, op_muli, op_addl, op_addt, op_bl, op_mul0, op_x1, op_x0, op_mod, op_div, pr_int, pr_intb, pr_max, pr_min, pr_abs, bT_n, bT_t, bTs_n, bTs_c, sP_n, sP_c, isNon, iteB, thB, bindB, lift_B, asB_B, setD, tysD, tyD, cmpD, winD]
    rename_i z
    by_cases h : lo ≤ z <;> simp [h, exL_n, exL_c, seq_nx, seq_rt, seq_ex, seq_bk, seq_ct, fl_non, fl_bl, fl_int, fl_str, exS, ev, evs, ix_t, ix_l, ix_s, atI_0, atI_1, atI_2, atI_3, atI_4, atI_5, atI_6, cm_lt, cm_le, cm_gt, cm_ge, cm_eqi, cm_nei, cm_eqs, cm_in2, op_addi, op_subi, op_muli, op_addl, op_addt, op_bl, op_mul0, op_x1, op_x0, op_mod, op_div, pr_int, pr_intb, pr_max, pr_min, pr_abs, bT_n, bT_t, bTs_n, bTs_c, sP_n, sP_c, isNon, iteB, thB, bindB, lift_B, asB_B, setD]
  rw [e, leave_rt]
theorem law_made_ok (k : Nat) (v : D) (hv : D.flat 60 v = true) (m : Int) (S : Store) : callF tab (k + 1) n__law_made [v, .int m] S = .ok (.bl (rowD v m)) S := by
  rw [u__law_made]
  have e : exL (callF tab k) ir__law_made.body [some v, some (.int m)] S = .rt (.bl (rowD v m)) S := by
    cases v <;> simp [D.flat] at hv <;> simp [ir__law_made, exL_n, exL_c, seq_nx, seq_rt, seq_ex, seq_bk, seq_ct, fl_non, fl_bl, fl_int, fl_str, exS, ev, evs, ix_t, ix_l, ix_s, atI_0, atI_1, atI_2, atI_3, atI_4, atI_5, atI_6, cm_lt, cm_le, cm_gt, cm_ge, cm_eqi, cm_nei, cm_eqs, cm_in2, op_addi, op_subi, op_muli, op_addl, op_addt, op_bl, op_mul0, op_x1, op_x0, op_mod, op_div, pr_int, pr_intb, pr_max, pr_min, pr_abs, bT_n, bT_t, bTs_n, bTs_c, sP_n, sP_c, isNon, iteB, thB, bindB, lift_B, asB_B, setD, tysD, tyD, cmpD, prD, D.flat, D.eqv, rowD]
  rw [e, leave_rt]
theorem in_hours {h : Str} (hh : PyData.strOk h = true) : cmpD .In (.str h) (.lst [.str s_all, .str s_cheap]) = some (decide ("all" = h) || decide ("cheap" = h)) := by
  rw [cm_in (by simpa [D.flat] using hh) (by simp [D.flatAll, fl_str, ok_all, ok_cheap])]
  simp [D.eqv]
  by_cases h1 : s_all = h <;> by_cases h2 : s_cheap = h <;> simp [h1, h2]
theorem good_program_ok (k : Nat) (v : D) (hv : D.flat 60 v = true) (S : Store) : callF tab (k + 2) n__law_good_program [v] S = .ok (.bl (progD v)) S := by
  rw [u__law_good_program]
  have e : exL (callF tab (k + 1)) ir__law_good_program.body [some v] S = .rt (.bl (progD v)) S := by
    by_cases hr : rowD v 3 = true
    · cases v with
      | tup ds =>
        rcases ds with _ | ⟨a, _ | ⟨b, _ | ⟨c, _ | ⟨d, ds⟩⟩⟩⟩ <;> simp [rowD] at hr
        · have hv' := flatAll_of hv
          simp only [D.flatAll, Bool.and_eq_true] at hv'
          obtain ⟨ha, hb, hc, _⟩ := hv'
          by_cases h1 : winD a 0 3 = true
          · by_cases hs : isStr b = true
            · obtain ⟨s, rfl⟩ := isStr_of hs
              have hq := in_hours (h := s) (by simpa [D.flat] using hb)
              simp [ir__law_good_program, exL_n, exL_c, seq_nx, seq_rt, seq_ex, seq_bk, seq_ct, fl_non, fl_bl, fl_int, fl_str, exS, ev, evs, ix_t, ix_l, ix_s, atI_0, atI_1, atI_2, atI_3, atI_4, atI_5, atI_6, cm_lt, cm_le, cm_gt, cm_ge, cm_eqi, cm_nei, cm_eqs, cm_in2, op_addi, op_subi, op_muli, op_addl, op_addt, op_bl, op_mul0, op_x1, op_x0, op_mod, op_div, pr_int, pr_intb, pr_max, pr_min, pr_abs, bT_n, bT_t, bTs_n, bTs_c, sP_n, sP_c, isNon, iteB, thB, bindB, lift_B, asB_B, setD, law_made_ok, law_int_ok, hv, ha, hb, hc, rowD_t, tys_str, tys_bool, progD, h1, isStr, hourD, hq]
            · simp [ir__law_good_program, exL_n, exL_c, seq_nx, seq_rt, seq_ex, seq_bk, seq_ct, fl_non, fl_bl, fl_int, fl_str, exS, ev, evs, ix_t, ix_l, ix_s, atI_0, atI_1, atI_2, atI_3, atI_4, atI_5, atI_6, cm_lt, cm_le, cm_gt, cm_ge, cm_eqi, cm_nei, cm_eqs, cm_in2, op_addi, op_subi, op_muli, op_addl, op_addt, op_bl, op_mul0, op_x1, op_x0, op_mod, op_div, pr_int, pr_intb, pr_max, pr_min, pr_abs, bT_n, bT_t, bTs_n, bTs_c, sP_n, sP_c, isNon, iteB, thB, bindB, lift_B, asB_B, setD, law_made_ok, law_int_ok, hv, ha, hb, hc, rowD_t, tys_str, tys_bool, progD, h1, hs, hour_no]
          · simp [ir__law_good_program, exL_n, exL_c, seq_nx, seq_rt, seq_ex, seq_bk, seq_ct, fl_non, fl_bl, fl_int, fl_str, exS, ev, evs, ix_t, ix_l, ix_s, atI_0, atI_1, atI_2, atI_3, atI_4, atI_5, atI_6, cm_lt, cm_le, cm_gt, cm_ge, cm_eqi, cm_nei, cm_eqs, cm_in2, op_addi, op_subi, op_muli, op_addl, op_addt, op_bl, op_mul0, op_x1, op_x0, op_mod, op_div, pr_int, pr_intb, pr_max, pr_min, pr_abs, bT_n, bT_t, bTs_n, bTs_c, sP_n, sP_c, isNon, iteB, thB, bindB, lift_B, asB_B, setD, law_made_ok, law_int_ok, hv, ha, hb, hc, rowD_t, tys_str, tys_bool, progD, h1]
        · omega
      | _ => simp [rowD] at hr
    · have e0 : progD v = false := by
        cases v with
        | tup ds =>
          rcases ds with _ | ⟨a, _ | ⟨b, _ | ⟨c, _ | ⟨d, ds⟩⟩⟩⟩ <;> simp [rowD] at hr <;> rfl
        | _ => rfl
      simp [ir__law_good_program, exL_n, exL_c, seq_nx, seq_rt, seq_ex, seq_bk, seq_ct, fl_non, fl_bl, fl_int, fl_str, exS, ev, evs, ix_t, ix_l, ix_s, atI_0, atI_1, atI_2, atI_3, atI_4, atI_5, atI_6, cm_lt, cm_le, cm_gt, cm_ge, cm_eqi, cm_nei, cm_eqs, cm_in2, op_addi, op_subi, op_muli, op_addl, op_addt, op_bl, op_mul0, op_x1, op_x0, op_mod, op_div, pr_int, pr_intb, pr_max, pr_min, pr_abs, bT_n, bT_t, bTs_n, bTs_c, sP_n, sP_c, isNon, iteB, thB, bindB, lift_B, asB_B, setD, law_made_ok, hv, hr, e0]
  rw [e, leave_rt]
theorem good_plan_ok (k : Nat) (v : D) (hv : D.flat 60 v = true) (S : Store) : callF tab (k + 3) n__law_good_plan [v] S = .ok (.bl (planD v)) S := by
  rw [u__law_good_plan]
  have e : exL (callF tab (k + 2)) ir__law_good_plan.body [some v] S = .rt (.bl (planD v)) S := by
    by_cases hr : rowD v 5 = true
    · cases v with
      | tup ds =>
        rcases ds with _ | ⟨a, _ | ⟨b, _ | ⟨c, _ | ⟨d, _ | ⟨f, _ | ⟨g, ds⟩⟩⟩⟩⟩⟩ <;> simp [rowD] at hr
        · have hv' := flatAll_of hv
          simp only [D.flatAll, Bool.and_eq_true] at hv'
          obtain ⟨ha, hb, hc, hd, hf, _⟩ := hv'
          by_cases h1 : rowD f 2 = true
          · cases f with
            | tup fs =>
              rcases fs with _ | ⟨m, _ | ⟨q, _ | ⟨z, fs⟩⟩⟩ <;> simp [rowD] at h1
              · have hf' := flatAll_of hf
                simp only [D.flatAll, Bool.and_eq_true] at hf'
                obtain ⟨hm, hq, _⟩ := hf'
                by_cases g1 : winD a 1 4 = true <;> by_cases g2 : winD b 1 3 = true <;> by_cases g3 : winD c 0 3 = true <;> by_cases g4 : progD d = true <;> simp [ir__law_good_plan, exL_n, exL_c, seq_nx, seq_rt, seq_ex, seq_bk, seq_ct, fl_non, fl_bl, fl_int, fl_str, exS, ev, evs, ix_t, ix_l, ix_s, atI_0, atI_1, atI_2, atI_3, atI_4, atI_5, atI_6, cm_lt, cm_le, cm_gt, cm_ge, cm_eqi, cm_nei, cm_eqs, cm_in2, op_addi, op_subi, op_muli, op_addl, op_addt, op_bl, op_mul0, op_x1, op_x0, op_mod, op_div, pr_int, pr_intb, pr_max, pr_min, pr_abs, bT_n, bT_t, bTs_n, bTs_c, sP_n, sP_c, isNon, iteB, thB, bindB, lift_B, asB_B, setD, law_made_ok, law_int_ok, good_program_ok, hv, ha, hb, hc, hd, hf, hm, hq, rowD_t, planD, g1, g2, g3, g4]
              · omega
            | _ => simp [rowD] at h1
          · have e0 : planD (.tup [a, b, c, d, f]) = false := by
              cases f with
              | tup fs =>
                rcases fs with _ | ⟨m, _ | ⟨q, _ | ⟨z, fs⟩⟩⟩ <;> simp [rowD] at h1 <;> simp [planD]
              | _ => simp [planD]
            by_cases g1 : winD a 1 4 = true <;> by_cases g2 : winD b 1 3 = true <;> by_cases g3 : winD c 0 3 = true <;> by_cases g4 : progD d = true <;> simp [ir__law_good_plan, exL_n, exL_c, seq_nx, seq_rt, seq_ex, seq_bk, seq_ct, fl_non, fl_bl, fl_int, fl_str, exS, ev, evs, ix_t, ix_l, ix_s, atI_0, atI_1, atI_2, atI_3, atI_4, atI_5, atI_6, cm_lt, cm_le, cm_gt, cm_ge, cm_eqi, cm_nei, cm_eqs, cm_in2, op_addi, op_subi, op_muli, op_addl, op_addt, op_bl, op_mul0, op_x1, op_x0, op_mod, op_div, pr_int, pr_intb, pr_max, pr_min, pr_abs, bT_n, bT_t, bTs_n, bTs_c, sP_n, sP_c, isNon, iteB, thB, bindB, lift_B, asB_B, setD, law_made_ok, law_int_ok, good_program_ok, hv, ha, hb, hc, hd, hf, rowD_t, e0, g1, g2, g3, g4, h1]
        · omega
      | _ => simp [rowD] at hr
    · have e0 : planD v = false := by
        cases v with
        | tup ds =>
          rcases ds with _ | ⟨a, _ | ⟨b, _ | ⟨c, _ | ⟨d, _ | ⟨f, _ | ⟨g, ds⟩⟩⟩⟩⟩⟩ <;> simp [rowD] at hr <;> rfl
        | _ => rfl
      simp [ir__law_good_plan, exL_n, exL_c, seq_nx, seq_rt, seq_ex, seq_bk, seq_ct, fl_non, fl_bl, fl_int, fl_str, exS, ev, evs, ix_t, ix_l, ix_s, atI_0, atI_1, atI_2, atI_3, atI_4, atI_5, atI_6, cm_lt, cm_le, cm_gt, cm_ge, cm_eqi, cm_nei, cm_eqs, cm_in2, op_addi, op_subi, op_muli, op_addl, op_addt, op_bl, op_mul0, op_x1, op_x0, op_mod, op_div, pr_int, pr_intb, pr_max, pr_min, pr_abs, bT_n, bT_t, bTs_n, bTs_c, sP_n, sP_c, isNon, iteB, thB, bindB, lift_B, asB_B, setD, law_made_ok, hv, hr, e0]
  rw [e, leave_rt]
def begS (p : Pl) : Sd := ⟨p.tank, false, 0, 0, 0, p.apart, false⟩
theorem begS_ok {p : Pl} (h : p.Ok) : (begS p).Ok p := by
  obtain ⟨_, _, _, _, _, _, _, _, _, _, _, _⟩ := h
  refine ⟨?_, ?_, ?_, ?_, ?_, ?_, ?_, ?_, ?_, ?_⟩ <;> first | exact .inl rfl | (simp only [begS]; omega)
theorem begin_of_ok (k : Nat) (p : Pl) (S : Store) : callF tab (k + 1) n_begin_of [p.d] S = .ok (begS p).d S := by
  rw [u_begin_of]
  have e : exL (callF tab k) ir_begin_of.body [some p.d] S = .rt (begS p).d S := by
    simp [ir_begin_of, exL_n, exL_c, seq_nx, seq_rt, seq_ex, seq_bk, seq_ct, fl_non, fl_bl, fl_int, fl_str, exS, ev, evs, ix_t, ix_l, ix_s, atI_0, atI_1, atI_2, atI_3, atI_4, atI_5, atI_6, cm_lt, cm_le, cm_gt, cm_ge, cm_eqi, cm_nei, cm_eqs, cm_in2, op_addi, op_subi, op_muli, op_addl, op_addt, op_bl, op_mul0, op_x1, op_x0, op_mod, op_div, pr_int, pr_intb, pr_max, pr_min, pr_abs, bT_n, bT_t, bTs_n, bTs_c, sP_n, sP_c, isNon, iteB, thB, bindB, lift_B, asB_B, setD, Pl.d, Sd.d, begS]
  rw [e, leave_rt]
theorem law_begin_ok (k : Nat) (p : Pl) (S : Store) : callF tab (k + 1) n__law_begin [p.d] S = .ok (begS p).d S := by
  rw [u__law_begin]
  have e : exL (callF tab k) ir__law_begin.body [some p.d] S = .rt (begS p).d S := by
    simp [ir__law_begin, exL_n, exL_c, seq_nx, seq_rt, seq_ex, seq_bk, seq_ct, fl_non, fl_bl, fl_int, fl_str, exS, ev, evs, ix_t, ix_l, ix_s, atI_0, atI_1, atI_2, atI_3, atI_4, atI_5, atI_6, cm_lt, cm_le, cm_gt, cm_ge, cm_eqi, cm_nei, cm_eqs, cm_in2, op_addi, op_subi, op_muli, op_addl, op_addt, op_bl, op_mul0, op_x1, op_x0, op_mod, op_div, pr_int, pr_intb, pr_max, pr_min, pr_abs, bT_n, bT_t, bTs_n, bTs_c, sP_n, sP_c, isNon, iteB, thB, bindB, lift_B, asB_B, setD, Pl.d, Sd.d, begS]
  rw [e, leave_rt]
theorem first_stand_ok (k : Nat) {p : Pl} (hp : p.Ok) (S : Store) : callF tab (k + 5) n_first_stand [p.d] S = .ok (begS p).d S := by
  rw [u_first_stand]
  have e : exL (callF tab (k + 4)) ir_first_stand.body [some p.d] S = .rt (begS p).d S := by
    simp [ir_first_stand, exL_n, exL_c, seq_nx, seq_rt, seq_ex, seq_bk, seq_ct, fl_non, fl_bl, fl_int, fl_str, exS, ev, evs, ix_t, ix_l, ix_s, atI_0, atI_1, atI_2, atI_3, atI_4, atI_5, atI_6, cm_lt, cm_le, cm_gt, cm_ge, cm_eqi, cm_nei, cm_eqs, cm_in2, op_addi, op_subi, op_muli, op_addl, op_addt, op_bl, op_mul0, op_x1, op_x0, op_mod, op_div, pr_int, pr_intb, pr_max, pr_min, pr_abs, bT_n, bT_t, bTs_n, bTs_c, sP_n, sP_c, isNon, iteB, thB, bindB, lift_B, asB_B, setD, look_at_plan_ok _ hp, begin_of_ok]
  rw [e, leave_rt]
/-! values bent -/
mutual
def D.slim (n : Nat) : D → Bool
  | .non => true
  | .bl _ => true
  | .int _ => true
  | .str x => PyData.strOk x
  | .tup xs => match n with
    | 0 => false
    | n + 1 => decide (xs.length ≤ 50) && D.slimAll n xs
  | _ => false
def D.slimAll (n : Nat) : List D → Bool
  | [] => true
  | d :: ds => D.slim n d && D.slimAll n ds
end
mutual
theorem slim_fit : ∀ (n : Nat) (d : D), D.slim n d = true → D.fit n d = true
  | _, .non, _ => by simp [D.fit]
  | _, .bl _, _ => by simp [D.fit]
  | _, .int _, _ => by simp [D.fit]
  | _, .str _, h => by simpa [D.fit, D.slim] using h
  | 0, .tup _, h => by simp [D.slim] at h
  | n + 1, .tup xs, h => by
    simp only [D.slim, Bool.and_eq_true, decide_eq_true_eq] at h
    simp only [D.fit, Bool.and_eq_true, decide_eq_true_eq]
    exact ⟨by omega, slimAll_fit n xs h.2⟩
  | _, .lst _, h => by simp [D.slim] at h
  | _, .scr _, h => by simp [D.slim] at h
  | _, .loc _, h => by simp [D.slim] at h
  | _, .dic _ _, h => by simp [D.slim] at h
theorem slimAll_fit : ∀ (n : Nat) (ds : List D), D.slimAll n ds = true → D.fitAll n ds = true
  | _, [], _ => rfl
  | n, d :: ds, h => by
    simp only [D.slimAll, D.fitAll, Bool.and_eq_true] at h ⊢
    exact ⟨slim_fit n d h.1, slimAll_fit n ds h.2⟩
end
mutual
theorem fit_succ : ∀ (n : Nat) (d : D), D.fit n d = true → D.fit (n + 1) d = true
  | _, .non, _ => by simp [D.fit]
  | _, .bl _, _ => by simp [D.fit]
  | _, .int _, _ => by simp [D.fit]
  | _, .str _, h => by simpa [D.fit] using h
  | 0, .lst _, h => by simp [D.fit] at h
  | n + 1, .lst xs, h => by
    simp only [D.fit, Bool.and_eq_true] at h ⊢
    exact ⟨h.1, fitAll_succ n xs h.2⟩
  | 0, .tup _, h => by simp [D.fit] at h
  | n + 1, .tup xs, h => by
    simp only [D.fit, Bool.and_eq_true] at h ⊢
    exact ⟨h.1, fitAll_succ n xs h.2⟩
  | _, .scr _, h => by simp [D.fit] at h
  | _, .loc _, h => by simp [D.fit] at h
  | _, .dic _ _, h => by simp [D.fit] at h
theorem fitAll_succ : ∀ (n : Nat) (ds : List D), D.fitAll n ds = true → D.fitAll (n + 1) ds = true
  | _, [], _ => rfl
  | n, d :: ds, h => by
    simp only [D.fitAll, Bool.and_eq_true] at h ⊢
    exact ⟨fit_succ n d h.1, fitAll_succ n ds h.2⟩
end
theorem fit_le {n m : Nat} (h : n ≤ m) {d : D} (hd : D.fit n d = true) : D.fit m d = true := by
  induction h with
  | refl => exact hd
  | step _ ih => exact fit_succ _ _ ih
theorem fitAll_of {n : Nat} : ∀ {ds : List D}, (∀ d ∈ ds, D.fit n d = true) → D.fitAll n ds = true
  | [], _ => rfl
  | d :: ds, h => by
    simp only [D.fitAll, Bool.and_eq_true]
    exact ⟨h d (.head _), fitAll_of fun e he => h e (.tail _ he)⟩
theorem slimAll_mem {n : Nat} {x : D} : ∀ {ds : List D}, D.slimAll n ds = true → x ∈ ds → D.slim n x = true
  | [], _, h => by cases h
  | d :: ds, e, h => by
    simp only [D.slimAll, Bool.and_eq_true] at e
    rcases List.mem_cons.mp h with rfl | h
    · exact e.1
    · exact slimAll_mem e.2 h
theorem atI_mem {α : Type} {xs : List α} {i : Int} (h : 0 ≤ i) (h2 : i < (xs.length : Int)) : ∃ x, atI xs i = some x ∧ x ∈ xs := by
  obtain ⟨j, rfl⟩ := Int.eq_ofNat_of_zero_le h
  have hj : j < xs.length := by omega
  exact ⟨xs[j], by rw [atI_nat, List.getElem?_eq_getElem hj], List.getElem_mem hj⟩
theorem cut_mem {α : Type} {xs : List α} {lo hi : Option Int} {x : α} (h : x ∈ cutD xs lo hi) : x ∈ xs := List.mem_of_mem_drop (List.mem_of_mem_take h)
theorem cut_len {α : Type} (xs : List α) (lo hi : Option Int) : (cutD xs lo hi).length ≤ xs.length := by
  unfold cutD
  rw [List.length_take, List.length_drop]
  omega
theorem sl_t (xs : List D) (lo hi : Option Int) : slD (.tup xs) lo hi = some (.tup (cutD xs lo hi)) := rfl
theorem pw_30 : opD .Pow (.int 10) (.int 30) = some (.int 1000000000000000000000000000000) := rfl
def bendL : List D := [.non, .bl true, .bl false, .int 0, .int 1, .int 2, .int 3, .int 4, .int 5, .int (-1), .int 1000000000000000000000000000000, .str s_empty2, .str s_all, .str s_cheap, .str s_dear, .str s_hand,
  .tup [], .lst [], .tup [.int 1, .int 0], .tup [.int 4, .int 3], .tup [.int 0, .str s_all, .bl true], .tup [.int 2, .bl false, .int 0, .int 0, .int 0, .int 1, .bl false], .lst [.int 1, .int 0]]
theorem fit_bend : D.fitAll 1 bendL = true := by decide +kernel
theorem bend_some (k : Nat) {n : Nat} {S : Store} (h : Spr n S) (v : D) : ∃ (d : D) (S' : Store), exL (callF tab (k + 1)) (ir__law_bent.body.drop 1) [some (.loc n), some v, none, none, none] S = .rt d S' ∧ D.fit 1 d = true ∧ Spr n S' ∧ S'.length = S.length := by
  obtain ⟨i, S1, e1, l1, u1, h1, g1⟩ := pick_ok k h 23 (by decide) (by decide)
  obtain ⟨x, hx, hm⟩ := atI_mem (xs := bendL) l1 u1
  refine ⟨x, S1, ?_, fitAll_mem fit_bend hm, h1, g1⟩
  unfold bendL at hx
  simp [ir__law_bent, exL_n, exL_c, seq_nx, seq_rt, seq_ex, seq_bk, seq_ct, fl_non, fl_bl, fl_int, fl_str, exS, ev, evs, ix_t, ix_l, ix_s, atI_0, atI_1, atI_2, atI_3, atI_4, atI_5, atI_6, cm_lt, cm_le, cm_gt, cm_ge, cm_eqi, cm_nei, cm_eqs, cm_in2, op_addi, op_subi, op_muli, op_addl, op_addt, op_bl, op_mul0, op_x1, op_x0, op_mod, op_div, pr_int, pr_intb, pr_max, pr_min, pr_abs, bT_n, bT_t, bTs_n, bTs_c, sP_n, sP_c, isNon, iteB, thB, bindB, lift_B, asB_B, setD, pw_30, len_l, e1, hx]
theorem if_skip {F : Nat → List D → Store → Out D} {ρ : Slots} {S S1 : Store} {o : OutS} {c : E} {a r : List Wt.S} (hc : ev F c ρ S = .ok (.bl false) S1) (hr : exL F r ρ S1 = o) : exL F (.ite c a [] :: r) ρ S = o := by
  rw [exL_c]
  simp only [exS, hc, asB_B, Out.thenS_ok, Bool.false_eq_true, if_false, exL_n, seq_nx]
  exact hr
theorem if_take {F : Nat → List D → Store → Out D} {ρ : Slots} {S S1 S2 : Store} {d : D} {c : E} {a r : List Wt.S} (hc : ev F c ρ S = .ok (.bl true) S1) (hr : exL F a ρ S1 = .rt d S2) : exL F (.ite c a [] :: r) ρ S = .rt d S2 := by
  rw [exL_c]
  simp only [exS, hc, asB_B, Out.thenS_ok, if_true, hr, seq_rt]
theorem bent_skip (k : Nat) {n : Nat} {S S1 : Store} (h : Spr n S1) (hl : S1.length = S.length) (v : D) (m : Nat)
    (hc : ev (callF tab (k + 1)) (.and (.isi [.tuple] (.var 1)) (.and (.cmp .NotEq (.var 1) (.tup [])) (.cmp .Gt (.call n__law_pick [.var 0, .k (.int 6)]) (.k (.int 0))))) [some (.loc n), some v, none, none, none] S = .ok (.bl false) S1) :
    ∃ (d : D) (S' : Store), callF tab (k + 2) n__law_bent [.loc n, v] S = .ok d S' ∧ D.fit (m + 1) d = true ∧ Spr n S' ∧ S'.length = S.length := by
  obtain ⟨d, S', e, hf, hs, hl'⟩ := bend_some k h v
  refine ⟨d, S', ?_, fit_le (by omega) hf, hs, by omega⟩
  rw [u__law_bent, ← leave_rt' (S := S) (S' := S') _ (by omega)]
  congr 1
  exact if_skip hc e
theorem bent_ok : ∀ (m : Nat), m ≤ 50 → ∀ (k : Nat) {n : Nat} {S : Store}, Spr n S → ∀ v : D, D.slim m v = true → ∃ (d : D) (S' : Store), callF tab (k + m + 2) n__law_bent [.loc n, v] S = .ok d S' ∧ D.fit (m + 1) d = true ∧ Spr n S' ∧ S'.length = S.length := by
  intro m
  induction m with
  | zero =>
    intro hm0 k n S h v hv
    have ht : tysD [.tuple] v = some false := by
      cases v <;> simp [D.slim] at hv <;> rfl
    exact bent_skip (k + 0) h rfl v 0 (by simp [exL_n, exL_c, seq_nx, seq_rt, seq_ex, seq_bk, seq_ct, fl_non, fl_bl, fl_int, fl_str, exS, ev, evs, ix_t, ix_l, ix_s, atI_0, atI_1, atI_2, atI_3, atI_4, atI_5, atI_6, cm_lt, cm_le, cm_gt, cm_ge, cm_eqi, cm_nei, cm_eqs, cm_in2, op_addi, op_subi, op_muli, op_addl, op_addt, op_bl, op_mul0, op_x1, op_x0, op_mod, op_div, pr_int, pr_intb, pr_max, pr_min, pr_abs, bT_n, bT_t, bTs_n, bTs_c, sP_n, sP_c, isNon, iteB, thB, bindB, lift_B, asB_B, setD, ht])
  | succ m ih =>
    intro hm0 k n S h v hv
    by_cases hv2 : ∃ ds, v = .tup ds
    case neg =>
      have ht : tysD [.tuple] v = some false := by
        cases v <;> simp [D.slim] at hv <;> first | rfl | exact absurd ⟨_, rfl⟩ hv2
      exact bent_skip (k + m + 1) h rfl v (m + 1) (by simp [exL_n, exL_c, seq_nx, seq_rt, seq_ex, seq_bk, seq_ct, fl_non, fl_bl, fl_int, fl_str, exS, ev, evs, ix_t, ix_l, ix_s, atI_0, atI_1, atI_2, atI_3, atI_4, atI_5, atI_6, cm_lt, cm_le, cm_gt, cm_ge, cm_eqi, cm_nei, cm_eqs, cm_in2, op_addi, op_subi, op_muli, op_addl, op_addt, op_bl, op_mul0, op_x1, op_x0, op_mod, op_div, pr_int, pr_intb, pr_max, pr_min, pr_abs, bT_n, bT_t, bTs_n, bTs_c, sP_n, sP_c, isNon, iteB, thB, bindB, lift_B, asB_B, setD, ht])
    obtain ⟨ds, rfl⟩ := hv2
    have ht : tysD [.tuple] (.tup ds) = some true := rfl
    have hf := slim_fit _ _ hv
    simp only [D.slim, Bool.and_eq_true, decide_eq_true_eq] at hv
    obtain ⟨hlen, hall⟩ := hv
    have hm : m + 1 ≤ 60 := by omega
    have h60 : D.flat 60 (.tup ds) = true := flat_le hm (fit_flat _ _ hf)
    have hne := cm_ne (.tup ds) (.tup []) h60 rfl
    rw [show D.eqv (.tup ds) (.tup []) = D.eqvAll ds [] from rfl] at hne
    by_cases he : ds = []
    · subst he
      exact bent_skip (k + m + 1) h rfl _ (m + 1) (by simp [exL_n, exL_c, seq_nx, seq_rt, seq_ex, seq_bk, seq_ct, fl_non, fl_bl, fl_int, fl_str, exS, ev, evs, ix_t, ix_l, ix_s, atI_0, atI_1, atI_2, atI_3, atI_4, atI_5, atI_6, cm_lt, cm_le, cm_gt, cm_ge, cm_eqi, cm_nei, cm_eqs, cm_in2, op_addi, op_subi, op_muli, op_addl, op_addt, op_bl, op_mul0, op_x1, op_x0, op_mod, op_div, pr_int, pr_intb, pr_max, pr_min, pr_abs, bT_n, bT_t, bTs_n, bTs_c, sP_n, sP_c, isNon, iteB, thB, bindB, lift_B, asB_B, setD, ht, hne, D.eqvAll])
    have he' : D.eqvAll ds [] = false := by
      cases ds with
      | nil => exact absurd rfl he
      | cons _ _ => rfl
    rw [he'] at hne
    obtain ⟨d0, S0, e0, l0, u0, h0, g0⟩ := pick_ok (k + m + 1) h 6 (by decide) (by decide)
    by_cases hp : 0 < d0
    case neg => exact bent_skip (k + m + 1) h0 g0 _ (m + 1) (by simp [exL_n, exL_c, seq_nx, seq_rt, seq_ex, seq_bk, seq_ct, fl_non, fl_bl, fl_int, fl_str, exS, ev, evs, ix_t, ix_l, ix_s, atI_0, atI_1, atI_2, atI_3, atI_4, atI_5, atI_6, cm_lt, cm_le, cm_gt, cm_ge, cm_eqi, cm_nei, cm_eqs, cm_in2, op_addi, op_subi, op_muli, op_addl, op_addt, op_bl, op_mul0, op_x1, op_x0, op_mod, op_div, pr_int, pr_intb, pr_max, pr_min, pr_abs, bT_n, bT_t, bTs_n, bTs_c, sP_n, sP_c, isNon, iteB, thB, bindB, lift_B, asB_B, setD, ht, hne, e0, hp])
    have hpos : 0 < ds.length := List.length_pos_iff.mpr he
    obtain ⟨i, S1, e1, l1, u1, h1, g1⟩ := pick_ok (k + m + 1) h0 (ds.length : Int) (by omega) (by omega)
    obtain ⟨w, S2, e2, l2, u2, h2, g2⟩ := pick_ok (k + m + 1) h1 8 (by decide) (by decide)
    obtain ⟨y, hy, hym⟩ := atI_mem l1 u1
    obtain ⟨z, S3, e3, hz, h3, g3⟩ := ih (by omega) k h2 y (slimAll_mem hall hym)
    have hcl : ∀ lo hi, (cutD ds lo hi).length ≤ 50 := fun lo hi => Nat.le_trans (cut_len ds lo hi) hlen
    have hA : ∀ a b c d, opD .Add (.tup (cutD ds a b)) (.tup (cutD ds c d)) = some (.tup (cutD ds a b ++ cutD ds c d)) := fun a b c d => op_addt _ _ (by have := hcl a b; have := hcl c d; omega)
    have hB : ∀ a b c d e f, opD .Add (.tup (cutD ds a b ++ cutD ds c d)) (.tup (cutD ds e f)) = some (.tup ((cutD ds a b ++ cutD ds c d) ++ cutD ds e f)) := fun a b c d e f => op_addt _ _ (by have := hcl a b; have := hcl c d; have := hcl e f; simp only [List.length_append]; omega)
    have hC : ∀ a b, opD .Add (.tup (cutD ds a b)) (.tup [z]) = some (.tup (cutD ds a b ++ [z])) := fun a b => op_addt _ _ (by have := hcl a b; simp only [List.length_cons, List.length_nil]; omega)
    have hD : ∀ a b e f, opD .Add (.tup (cutD ds a b ++ [z])) (.tup (cutD ds e f)) = some (.tup ((cutD ds a b ++ [z]) ++ cutD ds e f)) := fun a b e f => op_addt _ _ (by have := hcl a b; have := hcl e f; simp only [List.length_append, List.length_cons, List.length_nil]; omega)
    have hmem : ∀ x ∈ ds, D.fit (m + 1) x = true := fun x hx => fit_succ _ _ (slim_fit _ _ (slimAll_mem hall hx))
    have hc : ev (callF tab (k + m + 1 + 1)) (.and (.isi [.tuple] (.var 1)) (.and (.cmp .NotEq (.var 1) (.tup [])) (.cmp .Gt (.call n__law_pick [.var 0, .k (.int 6)]) (.k (.int 0))))) [some (.loc n), some (.tup ds), none, none, none] S = .ok (.bl true) S0 := by
      simp [exL_n, exL_c, seq_nx, seq_rt, seq_ex, seq_bk, seq_ct, fl_non, fl_bl, fl_int, fl_str, exS, ev, evs, ix_t, ix_l, ix_s, atI_0, atI_1, atI_2, atI_3, atI_4, atI_5, atI_6, cm_lt, cm_le, cm_gt, cm_ge, cm_eqi, cm_nei, cm_eqs, cm_in2, op_addi, op_subi, op_muli, op_addl, op_addt, op_bl, op_mul0, op_x1, op_x0, op_mod, op_div, pr_int, pr_intb, pr_max, pr_min, pr_abs, bT_n, bT_t, bTs_n, bTs_c, sP_n, sP_c, isNon, iteB, thB, bindB, lift_B, asB_B, setD, ht, hne, e0, hp]
    have hfin : ∀ (ws : List Wt.S) (d : D) (S' : Store), ir__law_bent.body.head? = some (.ite (.and (.isi [.tuple] (.var 1)) (.and (.cmp .NotEq (.var 1) (.tup [])) (.cmp .Gt (.call n__law_pick [.var 0, .k (.int 6)]) (.k (.int 0))))) ws []) →
        exL (callF tab (k + m + 1 + 1)) ws [some (.loc n), some (.tup ds), none, none, none] S0 = .rt d S' → D.fit (m + 1 + 1) d = true → Spr n S' → S'.length = S.length →
        ∃ (d : D) (S' : Store), callF tab (k + (m + 1) + 2) n__law_bent [.loc n, .tup ds] S = .ok d S' ∧ D.fit (m + 1 + 1) d = true ∧ Spr n S' ∧ S'.length = S.length := by
      intro ws d S' hw hx hd hs hl
      cases hw
      refine ⟨d, S', ?_, hd, hs, hl⟩
      rw [u__law_bent, ← leave_rt' (S := S) (S' := S') _ hl]
      congr 1
      exact if_take hc hx
    by_cases w0 : w = 0
    · refine hfin _ (.tup (cutD ds none (some i) ++ cutD ds (some (i + 1)) none)) S2 rfl ?_ ?_ h2 (by omega)
      · subst w0
        simp [exL_n, exL_c, seq_nx, seq_rt, seq_ex, seq_bk, seq_ct, fl_non, fl_bl, fl_int, fl_str, exS, ev, evs, ix_t, ix_l, ix_s, atI_0, atI_1, atI_2, atI_3, atI_4, atI_5, atI_6, cm_lt, cm_le, cm_gt, cm_ge, cm_eqi, cm_nei, cm_eqs, cm_in2, op_addi, op_subi, op_muli, op_addl, op_addt, op_bl, op_mul0, op_x1, op_x0, op_mod, op_div, pr_int, pr_intb, pr_max, pr_min, pr_abs, bT_n, bT_t, bTs_n, bTs_c, sP_n, sP_c, isNon, iteB, thB, bindB, lift_B, asB_B, setD, e1, e2, len_t, sl_t, hA]
      · simp only [D.fit, Bool.and_eq_true, decide_eq_true_eq, List.length_append]
        refine ⟨by have := hcl none (some i); have := hcl (some (i + 1)) none; omega, fitAll_of fun x hx => hmem x ?_⟩
        rcases List.mem_append.mp hx with hx | hx <;> exact cut_mem hx
    · by_cases w1 : w = 1
      · refine hfin _ (.tup ((cutD ds none (some i) ++ cutD ds (some i) (some (i + 1))) ++ cutD ds (some i) none)) S2 rfl ?_ ?_ h2 (by omega)
        · subst w1
          simp [exL_n, exL_c, seq_nx, seq_rt, seq_ex, seq_bk, seq_ct, fl_non, fl_bl, fl_int, fl_str, exS, ev, evs, ix_t, ix_l, ix_s, atI_0, atI_1, atI_2, atI_3, atI_4, atI_5, atI_6, cm_lt, cm_le, cm_gt, cm_ge, cm_eqi, cm_nei, cm_eqs, cm_in2, op_addi, op_subi, op_muli, op_addl, op_addt, op_bl, op_mul0, op_x1, op_x0, op_mod, op_div, pr_int, pr_intb, pr_max, pr_min, pr_abs, bT_n, bT_t, bTs_n, bTs_c, sP_n, sP_c, isNon, iteB, thB, bindB, lift_B, asB_B, setD, e1, e2, len_t, sl_t, hA, hB]
        · simp only [D.fit, Bool.and_eq_true, decide_eq_true_eq, List.length_append]
          refine ⟨by have := hcl none (some i); have := hcl (some i) (some (i + 1)); have := hcl (some i) none; omega, fitAll_of fun x hx => hmem x ?_⟩
          rcases List.mem_append.mp hx with hx | hx
          · rcases List.mem_append.mp hx with hx | hx <;> exact cut_mem hx
          · exact cut_mem hx
      · by_cases w2 : w = 2
        · refine hfin _ (.tup ds.reverse) S2 rfl ?_ ?_ h2 (by omega)
          · subst w2
            have hr : revD (.tup ds) = some (.tup ds.reverse) := rfl
            simp [exL_n, exL_c, seq_nx, seq_rt, seq_ex, seq_bk, seq_ct, fl_non, fl_bl, fl_int, fl_str, exS, ev, evs, ix_t, ix_l, ix_s, atI_0, atI_1, atI_2, atI_3, atI_4, atI_5, atI_6, cm_lt, cm_le, cm_gt, cm_ge, cm_eqi, cm_nei, cm_eqs, cm_in2, op_addi, op_subi, op_muli, op_addl, op_addt, op_bl, op_mul0, op_x1, op_x0, op_mod, op_div, pr_int, pr_intb, pr_max, pr_min, pr_abs, bT_n, bT_t, bTs_n, bTs_c, sP_n, sP_c, isNon, iteB, thB, bindB, lift_B, asB_B, setD, e1, e2, len_t, hr]
          · simp only [D.fit, Bool.and_eq_true, decide_eq_true_eq, List.length_reverse]
            exact ⟨by omega, fitAll_of fun x hx => hmem x (List.mem_reverse.mp hx)⟩
        · refine hfin _ (.tup ((cutD ds none (some i) ++ [z]) ++ cutD ds (some (i + 1)) none)) S3 rfl ?_ ?_ h3 (by omega)
          · have e3' : callF tab (k + m + 1 + 1) n__law_bent [.loc n, y] S2 = .ok z S3 := e3
            simp [exL_n, exL_c, seq_nx, seq_rt, seq_ex, seq_bk, seq_ct, fl_non, fl_bl, fl_int, fl_str, exS, ev, evs, ix_t, ix_l, ix_s, atI_0, atI_1, atI_2, atI_3, atI_4, atI_5, atI_6, cm_lt, cm_le, cm_gt, cm_ge, cm_eqi, cm_nei, cm_eqs, cm_in2, op_addi, op_subi, op_muli, op_addl, op_addt, op_bl, op_mul0, op_x1, op_x0, op_mod, op_div, pr_int, pr_intb, pr_max, pr_min, pr_abs, bT_n, bT_t, bTs_n, bTs_c, sP_n, sP_c, isNon, iteB, thB, bindB, lift_B, asB_B, setD, e1, e2, len_t, sl_t, hC, hD, w0, w1, w2, hy, e3']
          · simp only [D.fit, Bool.and_eq_true, decide_eq_true_eq, List.length_append]
            refine ⟨by have := hcl none (some i); have := hcl (some (i + 1)) none; simp only [List.length_cons, List.length_nil]; omega, fitAll_of fun x hx => ?_⟩
            rcases List.mem_append.mp hx with hx | hx
            · rcases List.mem_append.mp hx with hx | hx
              · exact hmem x (cut_mem hx)
              · rw [List.mem_singleton.mp hx]
                exact hz
            · exact hmem x (cut_mem hx)
/-! the law's look at a stand -/
theorem lc_zero (T E : Slots → Store → Out D) (g : Tg) (ρ : Slots) (S : Store) : ∀ (ds : List D), (∀ d ∈ ds, ∃ ρ1, bindT g d ρ = some ρ1 ∧ T ρ1 S = .ok (.bl false) S) → lcL T E g ρ ds S = .ok [] S
  | [], _ => rfl
  | d :: ds, h => by
    obtain ⟨ρ1, e1, e2⟩ := h d (.head _)
    have ih := lc_zero T E g ρ S ds fun d' hd => h d' (.tail _ hd)
    simp only [lcL, e1, e2, asB_B, ih]
theorem lc_flt (T E : Slots → Store → Out D) (g : Tg) (ρ : Slots) (S : Store) (t : D → Bool) (f : D → D) : ∀ (ds : List D), (∀ d ∈ ds, ∃ ρ1, bindT g d ρ = some ρ1 ∧ T ρ1 S = .ok (.bl (t d)) S ∧ (t d = true → E ρ1 S = .ok (f d) S)) → lcL T E g ρ ds S = .ok ((ds.filter t).map f) S
  | [], _ => rfl
  | d :: ds, h => by
    obtain ⟨ρ1, e1, e2, e3⟩ := h d (.head _)
    have ih := lc_flt T E g ρ S t f ds fun d' hd => h d' (.tail _ hd)
    cases ht : t d
    · simp only [lcL, e1, e2, asB_B, ih, ht, List.filter_cons, Bool.false_eq_true, if_false]
    · simp only [lcL, e1, e2, e3 ht, asB_B, ih, ht, List.filter_cons, if_true, Out.bind_ok, List.map_cons]
theorem flt_all (t : D → Bool) (f : D → D) : ∀ ds : List D, D.eqvAll ((ds.filter t).map f) [] = ds.all fun d => !t d
  | [] => rfl
  | d :: ds => by
    cases ht : t d
    · simp only [List.filter_cons, ht, Bool.false_eq_true, if_false, flt_all t f ds, List.all_cons, Bool.not_false, Bool.true_and]
    · simp only [List.filter_cons, ht, if_true, List.map_cons, List.all_cons, Bool.not_true, Bool.false_and]
      rfl
theorem flatAll_iff {n : Nat} : ∀ {ds : List D}, (∀ d ∈ ds, D.flat n d = true) → D.flatAll n ds = true
  | [], _ => rfl
  | d :: ds, h => by
    simp only [D.flatAll, Bool.and_eq_true]
    exact ⟨h d (.head _), flatAll_iff fun e he => h e (.tail _ he)⟩
def badAt (vs : List D) (d : D) : Bool := match d with
  | .tup [.int i, .int h] => match atI vs i with
    | some x => !winD x 0 h
    | none => false
  | _ => false
def hd0 (d : D) : D := match d with
  | .tup (.int x :: _) => .int x
  | _ => .int 0
theorem good_stand_ok (k : Nat) (p : Pl) (v : D) (hv : D.flat 60 v = true) (S : Store) : callF tab (k + 2) n__law_good_stand [p.d, v] S = .ok (.bl (fitsD p v)) S := by
  rw [u__law_good_stand]
  have e : exL (callF tab (k + 1)) ir__law_good_stand.body [some p.d, some v, none, none, none, none, none, none, none, none, none] S = .rt (.bl (fitsD p v)) S := by
    by_cases hr : rowD v 7 = true
    · cases v with
      | tup ds =>
        rcases ds with _ | ⟨a, _ | ⟨b, _ | ⟨c, _ | ⟨d, _ | ⟨f, _ | ⟨g, _ | ⟨j, _ | ⟨z, ds⟩⟩⟩⟩⟩⟩⟩⟩ <;> simp [rowD] at hr
        · have hv' := flatAll_of hv
          simp only [D.flatAll, Bool.and_eq_true] at hv'
          obtain ⟨ha, hb, hc, hd, hf, hg, hj, _⟩ := hv'
          by_cases g3 : isBl b = true
          · by_cases g4 : isBl j = true
            · have hl : ∃ l, ev (callF tab (k + 1)) (.lc (.var 9) (.tup [(.nm 9), (.nm 10)]) .dat [.var 2] (.not (.call n__law_int [.ix (.var 1) (.var 9), .k (.int 0), .var 10])) [9, 10])
                  [some p.d, some (.tup [a, b, c, d, f, g, j]), some (.lst [.tup [.int 0, .int p.tank], .tup [.int 2, .int (p.heat - 1)], .tup [.int 3, .int (if p.cool - 1 < 0 then 0 else p.cool - 1)], .tup [.int 4, .int 3], .tup [.int 5, .int p.apart]]), some (.int p.tank), some (.int p.heat), some (.int p.cool), some p.prog, some (.int p.most), some (.int p.apart), none, none] S = .ok (.lst l) S ∧
                  cmpD .Eq (.lst l) (.lst []) = some (fitsD p (.tup [a, b, c, d, f, g, j])) := by
                have hx : (if p.cool - 1 < 0 then (0 : Int) else p.cool - 1) = if p.cool - 1 > 0 then p.cool - 1 else 0 := by split <;> split <;> omega
                generalize hmx : (if p.cool - 1 < 0 then (0 : Int) else p.cool - 1) = mx at *
                refine ⟨(([D.tup [.int 0, .int p.tank], .tup [.int 2, .int (p.heat - 1)], .tup [.int 3, .int mx], .tup [.int 4, .int 3], .tup [.int 5, .int p.apart]]).filter (badAt [a, b, c, d, f, g, j])).map hd0, ?_, ?_⟩
                · refine ev_lc (ds := [.lst [.tup [.int 0, .int p.tank], .tup [.int 2, .int (p.heat - 1)], .tup [.int 3, .int mx], .tup [.int 4, .int 3], .tup [.int 5, .int p.apart]]]) (by simp [evs, ev]) rfl rfl (lc_flt _ _ _ _ _ _ _ _ fun x hx => ?_)
                  simp only [List.mem_cons, List.not_mem_nil, or_false] at hx
                  rcases hx with rfl | rfl | rfl | rfl | rfl
                  all_goals exact ⟨_, rfl, by simp [wipeE, exL_n, exL_c, seq_nx, seq_rt, seq_ex, seq_bk, seq_ct, fl_non, fl_bl, fl_int, fl_str, exS, ev, evs, ix_t, ix_l, ix_s, atI_0, atI_1, atI_2, atI_3, atI_4, atI_5, atI_6, cm_lt, cm_le, cm_gt, cm_ge, cm_eqi, cm_nei, cm_eqs, cm_in2, op_addi, op_subi, op_muli, op_addl, op_addt, op_bl, op_mul0, op_x1, op_x0, op_mod, op_div, pr_int, pr_intb, pr_max, pr_min, pr_abs, bT_n, bT_t, bTs_n, bTs_c, sP_n, sP_c, isNon, iteB, thB, bindB, lift_B, asB_B, setD, law_int_ok, ha, hc, hd, hf, hg, badAt], fun _ => by simp [wipeE, exL_n, exL_c, seq_nx, seq_rt, seq_ex, seq_bk, seq_ct, fl_non, fl_bl, fl_int, fl_str, exS, ev, evs, ix_t, ix_l, ix_s, atI_0, atI_1, atI_2, atI_3, atI_4, atI_5, atI_6, cm_lt, cm_le, cm_gt, cm_ge, cm_eqi, cm_nei, cm_eqs, cm_in2, op_addi, op_subi, op_muli, op_addl, op_addt, op_bl, op_mul0, op_x1, op_x0, op_mod, op_div, pr_int, pr_intb, pr_max, pr_min, pr_abs, bT_n, bT_t, bTs_n, bTs_c, sP_n, sP_c, isNon, iteB, thB, bindB, lift_B, asB_B, setD, hd0]⟩
                · rw [cm_eq (.lst _) (.lst []) (by
                    simp only [D.flat]
                    refine flatAll_iff fun x hx => ?_
                    obtain ⟨y, _, rfl⟩ := List.mem_map.mp hx
                    unfold hd0
                    split <;> rfl) rfl]
                  rw [show ∀ l, D.eqv (.lst l) (.lst []) = D.eqvAll l [] from fun _ => rfl, flt_all]
                  simp [badAt, atI_0, atI_2, atI_3, atI_4, atI_5, fitsD, g3, g4, hx]
                  cases winD a 0 p.tank <;> cases winD c 0 (p.heat - 1) <;> cases winD f 0 3 <;> simp
              obtain ⟨l, e1, e2⟩ := hl
              have gg : ∀ q : E, ev (callF tab (k + 1)) q [some p.d, some (.tup [a, b, c, d, f, g, j]), some (.lst [.tup [.int 0, .int p.tank], .tup [.int 2, .int (p.heat - 1)], .tup [.int 3, .int (if p.cool - 1 < 0 then 0 else p.cool - 1)], .tup [.int 4, .int 3], .tup [.int 5, .int p.apart]]), some (.int p.tank), some (.int p.heat), some (.int p.cool), some p.prog, some (.int p.most), some (.int p.apart), none, none] S = .ok (.lst l) S →
                  exL (callF tab (k + 1)) [.asg (.tup [(.nm 3), (.nm 4), (.nm 5), (.nm 6), (.tup [(.nm 7), (.nm 8)])]) (.var 0),
                    .ite (.or (.not (.call n__law_made [.var 1, .k (.int 7)])) (.or (.not (.isi [.bool] (.ix (.var 1) (.k (.int 1))))) (.not (.isi [.bool] (.ix (.var 1) (.k (.int 6))))))) [.ret (.k (.bl false))] [],
                    .asg (.nm 2) (.lst [.tup [.k (.int 0), .var 3], .tup [.k (.int 2), .op .Sub (.var 4) (.k (.int 1))], .tup [.k (.int 3), .prim .max [.op .Sub (.var 5) (.k (.int 1)), .k (.int 0)]], .tup [.k (.int 4), .k (.int 3)], .tup [.k (.int 5), .var 8]]),
                    .ret (.cmp .Eq q (.lst []))] [some p.d, some (.tup [a, b, c, d, f, g, j]), none, none, none, none, none, none, none, none, none] S = .rt (.bl (fitsD p (.tup [a, b, c, d, f, g, j]))) S := by
                intro q hq
                simp only [Pl.d, Pl.prog] at hq
                simp [Pl.d, exL_n, exL_c, seq_nx, seq_rt, seq_ex, seq_bk, seq_ct, fl_non, fl_bl, fl_int, fl_str, exS, ev, evs, ix_t, ix_l, ix_s, atI_0, atI_1, atI_2, atI_3, atI_4, atI_5, atI_6, cm_lt, cm_le, cm_gt, cm_ge, cm_eqi, cm_nei, cm_eqs, cm_in2, op_addi, op_subi, op_muli, op_addl, op_addt, op_bl, op_mul0, op_x1, op_x0, op_mod, op_div, pr_int, pr_intb, pr_max, pr_min, pr_abs, bT_n, bT_t, bTs_n, bTs_c, sP_n, sP_c, isNon, iteB, thB, bindB, lift_B, asB_B, setD, law_made_ok, hv, hb, hj, rowD_t, tys_bool, g3, g4, hq, e2]
              exact gg _ e1
            · simp [ir__law_good_stand, Pl.d, exL_n, exL_c, seq_nx, seq_rt, seq_ex, seq_bk, seq_ct, fl_non, fl_bl, fl_int, fl_str, exS, ev, evs, ix_t, ix_l, ix_s, atI_0, atI_1, atI_2, atI_3, atI_4, atI_5, atI_6, cm_lt, cm_le, cm_gt, cm_ge, cm_eqi, cm_nei, cm_eqs, cm_in2, op_addi, op_subi, op_muli, op_addl, op_addt, op_bl, op_mul0, op_x1, op_x0, op_mod, op_div, pr_int, pr_intb, pr_max, pr_min, pr_abs, bT_n, bT_t, bTs_n, bTs_c, sP_n, sP_c, isNon, iteB, thB, bindB, lift_B, asB_B, setD, law_made_ok, hv, hb, hj, rowD_t, fitsD, tys_bool, g3, g4]
          · simp [ir__law_good_stand, Pl.d, exL_n, exL_c, seq_nx, seq_rt, seq_ex, seq_bk, seq_ct, fl_non, fl_bl, fl_int, fl_str, exS, ev, evs, ix_t, ix_l, ix_s, atI_0, atI_1, atI_2, atI_3, atI_4, atI_5, atI_6, cm_lt, cm_le, cm_gt, cm_ge, cm_eqi, cm_nei, cm_eqs, cm_in2, op_addi, op_subi, op_muli, op_addl, op_addt, op_bl, op_mul0, op_x1, op_x0, op_mod, op_div, pr_int, pr_intb, pr_max, pr_min, pr_abs, bT_n, bT_t, bTs_n, bTs_c, sP_n, sP_c, isNon, iteB, thB, bindB, lift_B, asB_B, setD, law_made_ok, hv, hb, hj, rowD_t, fitsD, tys_bool, g3]
        · omega
      | _ => simp [rowD] at hr
    · have e0 : fitsD p v = false := by
        cases v with
        | tup ds =>
          rcases ds with _ | ⟨a, _ | ⟨b, _ | ⟨c, _ | ⟨d, _ | ⟨f, _ | ⟨g, _ | ⟨j, _ | ⟨z, ds⟩⟩⟩⟩⟩⟩⟩⟩ <;> simp [rowD] at hr <;> rfl
        | _ => rfl
      simp [ir__law_good_stand, Pl.d, exL_n, exL_c, seq_nx, seq_rt, seq_ex, seq_bk, seq_ct, fl_non, fl_bl, fl_int, fl_str, exS, ev, evs, ix_t, ix_l, ix_s, atI_0, atI_1, atI_2, atI_3, atI_4, atI_5, atI_6, cm_lt, cm_le, cm_gt, cm_ge, cm_eqi, cm_nei, cm_eqs, cm_in2, op_addi, op_subi, op_muli, op_addl, op_addt, op_bl, op_mul0, op_x1, op_x0, op_mod, op_div, pr_int, pr_intb, pr_max, pr_min, pr_abs, bT_n, bT_t, bTs_n, bTs_c, sP_n, sP_c, isNon, iteB, thB, bindB, lift_B, asB_B, setD, law_made_ok, hv, hr, e0]
  rw [e, leave_rt]
end Wt
set_option maxRecDepth 100000
set_option maxHeartbeats 1000000
/-! Steps, comprehensions with effects. -/
namespace Wt
open PySem L2
theorem ex_step {F : Nat → List D → Store → Out D} {s : Wt.S} {ss : List Wt.S} {ρ ρ1 : Slots} {S S1 : Store} {o : OutS} (h : exS F s ρ S = .nx ρ1 S1) (r : exL F ss ρ1 S1 = o) : exL F (s :: ss) ρ S = o := by
  rw [exL_c, h]
  exact r
theorem asg_ok {F : Nat → List D → Store → Out D} {i : Nat} {e : E} {ρ : Slots} {S S1 : Store} {d : D} (h : ev F e ρ S = .ok d S1) : exS F (.asg (.nm i) e) ρ S = .nx (ρ.set i (some d)) S1 := by
  rw [exS, h]
  rfl
theorem op_ok {F : Nat → List D → Store → Out D} {o : Operator} {a b : E} {ρ : Slots} {S S1 S2 : Store} {x y z : D} (h1 : ev F a ρ S = .ok x S1) (h2 : ev F b ρ S1 = .ok y S2) (h3 : opD o x y = some z) : ev F (.op o a b) ρ S = .ok z S2 := by
  rw [ev, h1, Out.bind_ok, h2, Out.bind_ok, h3]
  rfl
theorem cmp_ok {F : Nat → List D → Store → Out D} {o : CmpOp} {a b : E} {ρ : Slots} {S S1 S2 : Store} {x y : D} {z : Bool} (h1 : ev F a ρ S = .ok x S1) (h2 : ev F b ρ S1 = .ok y S2) (h3 : cmpD o x y = some z) : ev F (.cmp o a b) ρ S = .ok (.bl z) S2 := by
  rw [ev, h1, Out.bind_ok, h2, Out.bind_ok, h3]
  rfl
theorem ite_no {F : Nat → List D → Store → Out D} {c : E} {a : List Wt.S} {ρ : Slots} {S S1 : Store} (h : ev F c ρ S = .ok (.bl false) S1) : exS F (.ite c a []) ρ S = .nx ρ S1 := by
  rw [exS, h]
  simp only [asB_B, Out.thenS_ok, Bool.false_eq_true, if_false, exL_n]
theorem lc_inv {T E : Slots → Store → Out D} {g : Tg} {ρ : Slots} (P : Store → Prop) (Q : D → Prop) : ∀ (ds : List D) (S : Store), P S →
    (∀ d ∈ ds, ∀ S, P S → ∃ ρ1, bindT g d ρ = some ρ1 ∧ T ρ1 S = .ok (.bl true) S ∧ ∃ y S', E ρ1 S = .ok y S' ∧ Q y ∧ P S') → ∃ l S', lcL T E g ρ ds S = .ok l S' ∧ (∀ y ∈ l, Q y) ∧ P S' ∧ l.length = ds.length
  | [], S, h, _ => ⟨[], S, rfl, (fun _ z => nomatch z), h, rfl⟩
  | d :: ds, S, h, k => by
    obtain ⟨ρ1, e1, e2, y, S1, e3, q, h1⟩ := k d (.head _) S h
    obtain ⟨l, S2, e4, q4, h2, hl⟩ := lc_inv P Q ds S1 h1 fun d' hd => k d' (.tail _ hd)
    refine ⟨y :: l, S2, ?_, ?_, h2, by simp only [List.length_cons, hl]⟩
    · simp only [lcL, e1, e2, asB_B, e3, e4, Out.bind_ok]
    · intro z hz
      rcases List.mem_cons.mp hz with rfl | hz
      · exact q
      · exact q4 z hz
theorem rng_ok {j : Int} (h : 0 ≤ j) (h2 : j ≤ 1000) : itD .rng [.int j] = some (rngD 0 j.toNat) := by
  have hb : bnd j = true := by
    simp only [bnd, Bool.and_eq_true, decide_eq_true_eq]
    omega
  exact if_pos hb
theorem rng_len (lo : Int) (n : Nat) : (rngD lo n).length = n := by simp [rngD]
theorem rng_mem {lo : Int} {n : Nat} {d : D} (h : d ∈ rngD lo n) : ∃ i : Nat, d = .int (lo + (i : Int)) ∧ i < n := by
  simp only [rngD, List.mem_map, List.mem_range] at h
  obtain ⟨i, hi, rfl⟩ := h
  exact ⟨i, rfl, hi⟩
/-- a comprehension that bends a value some times -/
theorem lc_bent {X : E} {ρ : Slots} {S : Store} {n L m j t : Nat} {v : D} (hm : m ≤ 10) (hj : j ≤ 100) (h : Spr n S) (hL : S.length = L) (hv : D.slim m v = true) (h4 : t ≠ 4) (hρ4 : ρ[4]? = some (some (.loc n)))
    (hX : ∀ (d : D) (S : Store), ev (callF tab 60) X (((ρ.set t none)).set t (some d)) S = .ok v S) :
    ∃ (l : List D) (S' : Store), ev (callF tab 60) (.lc (.call n__law_bent [.var 4, X]) (.nm t) .rng [.k (.int (j : Int))] (.k (.bl true)) [t]) ρ S = .ok (.lst l) S' ∧ (∀ y ∈ l, D.fit (m + 1) y = true) ∧ Spr n S' ∧ S'.length = L ∧ l.length = j := by
  obtain ⟨l, S', e1, hq, ⟨hs, hl⟩, hn⟩ := lc_inv (T := ev (callF tab 60) (.k (.bl true))) (E := ev (callF tab 60) (.call n__law_bent [.var 4, X])) (g := .nm t) (ρ := wipeE ρ [t]) (fun S => Spr n S ∧ S.length = L) (fun y => D.fit (m + 1) y = true) (rngD 0 j) S ⟨h, hL⟩ (by
    rintro d hd S1 ⟨h1, l1⟩
    obtain ⟨y, S2, e2, hf, h2, l2⟩ := bent_ok m (by omega) (58 - m) h1 v hv
    have e2' : callF tab 60 n__law_bent [.loc n, v] S1 = .ok y S2 := by
      have : 58 - m + m + 2 = 60 := by omega
      rw [this] at e2
      exact e2
    refine ⟨(wipeE ρ [t]).set t (some d), rfl, rfl, y, S2, ?_, hf, h2, by omega⟩
    have e3 := hX d S1
    have e4 : ((wipeE ρ [t]).set t (some d))[4]? = some (some (.loc n)) := by
      simp only [wipeE]
      rw [List.getElem?_set_ne h4, List.getElem?_set_ne h4]
      exact hρ4
    have e5 : ev (callF tab 60) X ((wipeE ρ [t]).set t (some d)) S1 = .ok v S1 := e3
    simp only [ev, evs, e4, e5, Out.bind_ok, e2'])
  refine ⟨l, S', ?_, hq, hs, hl, by rw [hn, rng_len]⟩
  exact ev_lc (ds := [.int (j : Int)]) (S1 := S) (by simp only [evs, ev, Out.bind_ok]) (rng_ok (by omega) (by omega)) (by
    simp only [roomy, rng_len, decide_eq_true_eq]
    omega) e1
theorem pr_list (xs : List D) (S : Store) : prD .list [.tup xs] S = some (.lst xs) := rfl
theorem slim_plan (p : Pl) : D.slim 2 p.d = true := by simp [Pl.d, D.slim, D.slimAll, ok_hour]
theorem slim_prog (p : Pl) : D.slim 1 p.prog = true := by simp [Pl.prog, D.slim, D.slimAll, ok_hour]
theorem slim_sd (s : Sd) : D.slim 1 s.d = true := by simp [Sd.d, D.slim, D.slimAll]
def Pl.fs (p : Pl) : List D := [.int p.tank, .int p.heat, .int p.cool, p.prog, .tup [.int p.most, .int p.apart]]
def Sd.fs (s : Sd) : List D := [.int s.hot, .bl s.on, .int s.warmed, .int s.stood, .int s.hour, .int s.since, .bl s.held]
theorem fit_pl (p : Pl) : D.fit 4 (.lst p.fs) = true := by simp [Pl.fs, Pl.prog, D.fit, D.fitAll, ok_hour]
theorem fit_fs (s : Sd) : D.fit 4 (.lst s.fs) = true := by simp [Sd.fs, D.fit, D.fitAll]
theorem fit60 {n : Nat} (h : n ≤ 60) {d : D} (hd : D.fit n d = true) : D.flat 60 d = true := flat_le h (fit_flat _ _ hd)
theorem ch_len (n : Nat) : (chL n).length = 2 * n := by
  unfold chL
  rw [List.length_flatMap]
  induction n with
  | zero => rfl
  | succ n ih =>
    rw [List.range_succ, List.map_append, List.sum_append, ih]
    simp
    omega
end Wt
set_option maxRecDepth 100000
set_option maxHeartbeats 1000000
/-! Runs. -/
namespace Wt
open PySem L2
/-- nothing in the store points into it -/
def LowS (S : Store) : Prop := ∀ n, S.all (M.low n) = true
theorem LowS.nil : LowS [] := fun _ => rfl
theorem LowS.app {S : Store} (h : LowS S) (a b : Int) : LowS (S ++ [some (.ls [.int a, .int b])]) := fun n => by
  rw [List.all_append, h n]
  rfl
theorem LowS.set {S : Store} (h : LowS S) (i : Nat) (a b : Int) : LowS (S.set i (some (.ls [.int a, .int b]))) := fun n => by
  rw [List.all_eq_true]
  intro m hm
  rcases List.mem_or_eq_of_mem_set hm with hm | rfl
  · exact List.all_eq_true.mp (h n) m hm
  · rfl
def Spr2 (n : Nat) (S : Store) : Prop := Spr n S ∧ LowS S
theorem pick2_ok (k : Nat) {n : Nat} {S : Store} (h : Spr2 n S) (m : Int) (hm : 0 < m) (hm2 : m < 1073741824) : ∃ (d : Int) (S' : Store), callF tab (k + 1) n__law_pick [.loc n, .int m] S = .ok (.int d) S' ∧ 0 ≤ d ∧ d < m ∧ Spr2 n S' ∧ S'.length = S.length := by
  obtain ⟨⟨a, b, ha, hb, hS⟩, hlow⟩ := h
  have hn : n < S.length := (List.getElem?_eq_some_iff.mp hS).1
  rw [u__law_pick]
  by_cases h0 : 0 < a
  · refine ⟨a % m, S.set n (some (.ls [.int (a / m), .int b])), ?_, Int.emod_nonneg _ (by omega), Int.emod_lt_of_pos _ hm, ⟨⟨a / m, b, Int.ediv_nonneg ha (by omega), hb, ?_⟩, hlow.set _ _ _⟩, by simp⟩
    · have e : exL (callF tab k) ir__law_pick.body [some (.loc n), some (.int m), none] S = .rt (.int (a % m)) (S.set n (some (.ls [.int (a / m), .int b]))) := by
        simp [ir__law_pick, exL_n, exL_c, seq_nx, seq_rt, seq_ex, seq_bk, seq_ct, fl_non, fl_bl, fl_int, fl_str, exS, ev, evs, ix_t, ix_l, ix_s, atI_0, atI_1, atI_2, atI_3, atI_4, atI_5, atI_6, cm_lt, cm_le, cm_gt, cm_ge, cm_eqi, cm_nei, cm_eqs, cm_in2, op_addi, op_subi, op_muli, op_addl, op_addt, op_bl, op_mul0, op_x1, op_x0, op_mod, op_div, pr_int, pr_intb, pr_max, pr_min, pr_abs, bT_n, bT_t, bTs_n, bTs_c, sP_n, sP_c, isNon, iteB, thB, bindB, lift_B, asB_B, setD, ix_loc hS, h0, hm, hm2, hS, ixN]
      rw [e, leave_rt' _ (by simp)]
    · rw [List.getElem?_set_self hn]
  · refine ⟨(((b * 393555900739 + 8191) % 999999999989) / 4093) % m, S.set n (some (.ls [.int a, .int ((b * 393555900739 + 8191) % 999999999989)])), ?_, Int.emod_nonneg _ (by omega), Int.emod_lt_of_pos _ hm, ⟨⟨a, (b * 393555900739 + 8191) % 999999999989, ha, Int.emod_nonneg _ (show (999999999989 : Int) ≠ 0 by decide), ?_⟩, hlow.set _ _ _⟩, by simp⟩
    · have e : exL (callF tab k) ir__law_pick.body [some (.loc n), some (.int m), none] S = .rt (.int ((((b * 393555900739 + 8191) % 999999999989) / 4093) % m)) (S.set n (some (.ls [.int a, .int ((b * 393555900739 + 8191) % 999999999989)]))) := by
        have hg : (S.set n (some (.ls [.int a, .int ((b * 393555900739 + 8191) % 999999999989)])))[n]? = some (some (.ls [.int a, .int ((b * 393555900739 + 8191) % 999999999989)])) := by rw [List.getElem?_set_self hn]
        simp [ir__law_pick, exL_n, exL_c, seq_nx, seq_rt, seq_ex, seq_bk, seq_ct, fl_non, fl_bl, fl_int, fl_str, exS, ev, evs, ix_t, ix_l, ix_s, atI_0, atI_1, atI_2, atI_3, atI_4, atI_5, atI_6, cm_lt, cm_le, cm_gt, cm_ge, cm_eqi, cm_nei, cm_eqs, cm_in2, op_addi, op_subi, op_muli, op_addl, op_addt, op_bl, op_mul0, op_x1, op_x0, op_mod, op_div, pr_int, pr_intb, pr_max, pr_min, pr_abs, bT_n, bT_t, bTs_n, bTs_c, sP_n, sP_c, isNon, iteB, thB, bindB, lift_B, asB_B, setD, ix_loc hS, ix_loc hg, h0, hm, hm2, hS, ixN, sm_3]
      rw [e, leave_rt' _ (by simp)]
    · rw [List.getElem?_set_self hn]
theorem program2_ok (k : Nat) {n : Nat} {S : Store} (h : Spr2 n S) : ∃ (b hand : Bool) (level : Int) (S' : Store), callF tab (k + 2) n__law_program [.loc n] S = .ok (.tup [.int level, .str (hourS b), .bl hand]) S' ∧ 0 ≤ level ∧ level ≤ 3 ∧ Spr2 n S' ∧ S'.length = S.length := by
  obtain ⟨d1, S1, e1, l1, u1, h1, g1⟩ := pick2_ok k h 2 (by decide) (by decide)
  obtain ⟨d2, S2, e2, l2, u2, h2, g2⟩ := pick2_ok k h1 4 (by decide) (by decide)
  obtain ⟨d3, S3, e3, l3, u3, h3, g3⟩ := pick2_ok k h2 3 (by decide) (by decide)
  refine ⟨decide (d1 = 0), decide (d3 = 0), d2, S3, ?_, l2, by omega, h3, by omega⟩
  rw [u__law_program, ← leave_rt' (S := S) (S' := S3) _ (by omega)]
  congr 1
  obtain rfl | rfl : d1 = 0 ∨ d1 = 1 := by omega
  all_goals simp [ir__law_program, exL_n, exL_c, seq_nx, seq_rt, seq_ex, seq_bk, seq_ct, fl_non, fl_bl, fl_int, fl_str, exS, ev, evs, ix_t, ix_l, ix_s, atI_0, atI_1, atI_2, atI_3, atI_4, atI_5, atI_6, cm_lt, cm_le, cm_gt, cm_ge, cm_eqi, cm_nei, cm_eqs, cm_in2, op_addi, op_subi, op_muli, op_addl, op_addt, op_bl, op_mul0, op_x1, op_x0, op_mod, op_div, pr_int, pr_intb, pr_max, pr_min, pr_abs, bT_n, bT_t, bTs_n, bTs_c, sP_n, sP_c, isNon, iteB, thB, bindB, lift_B, asB_B, setD, e1, e2, e3, hourS]
theorem plan2_ok (k : Nat) {n : Nat} {S : Store} (h : Spr2 n S) : ∃ (p : Pl) (S' : Store), p.Ok ∧ callF tab (k + 3) n__law_plan [.loc n] S = .ok p.d S' ∧ Spr2 n S' ∧ S'.length = S.length := by
  obtain ⟨d1, S1, e1, l1, u1, h1, g1⟩ := pick2_ok (k + 1) h 4 (by decide) (by decide)
  obtain ⟨d2, S2, e2, l2, u2, h2, g2⟩ := pick2_ok (k + 1) h1 3 (by decide) (by decide)
  obtain ⟨d3, S3, e3, l3, u3, h3, g3⟩ := pick2_ok (k + 1) h2 4 (by decide) (by decide)
  obtain ⟨d4, S4, e4, l4, u4, h4, g4⟩ := pick2_ok (k + 1) h3 4 (by decide) (by decide)
  obtain ⟨d5, S5, e5, l5, u5, h5, g5⟩ := pick2_ok (k + 1) h4 3 (by decide) (by decide)
  obtain ⟨d6, S6, e6, l6, u6, h6, g6⟩ := pick2_ok (k + 1) h5 4 (by decide) (by decide)
  obtain ⟨b, hand, level, S7, e7, l7, u7, h7, g7⟩ := program2_ok k h6
  have hm : 0 ≤ (if d2 = 0 then 0 else if d2 = 1 then 1 else d1) ∧ (if d2 = 0 then 0 else if d2 = 1 then 1 else d1) ≤ 3 := by split <;> (try split) <;> omega
  refine ⟨⟨1 + d4, 1 + d5, d6, level, b, hand, 1 + (if d2 = 0 then 0 else if d2 = 1 then 1 else d1), d3⟩, S7, ⟨?_, ?_, ?_, ?_, ?_, ?_, ?_, ?_, ?_, ?_, ?_, ?_⟩, ?_, h7, by omega⟩
  case refine_13 =>
    rw [u__law_plan, ← leave_rt' (S := S) (S' := S7) _ (by omega)]
    congr 1
    obtain rfl | rfl | rfl : d2 = 0 ∨ d2 = 1 ∨ d2 = 2 := by omega
    all_goals simp [ir__law_plan, exL_n, exL_c, seq_nx, seq_rt, seq_ex, seq_bk, seq_ct, fl_non, fl_bl, fl_int, fl_str, exS, ev, evs, ix_t, ix_l, ix_s, atI_0, atI_1, atI_2, atI_3, atI_4, atI_5, atI_6, cm_lt, cm_le, cm_gt, cm_ge, cm_eqi, cm_nei, cm_eqs, cm_in2, op_addi, op_subi, op_muli, op_addl, op_addt, op_bl, op_mul0, op_x1, op_x0, op_mod, op_div, pr_int, pr_intb, pr_max, pr_min, pr_abs, bT_n, bT_t, bTs_n, bTs_c, sP_n, sP_c, isNon, iteB, thB, bindB, lift_B, asB_B, setD, e1, e2, e3, e4, e5, e6, e7, Pl.d]
  all_goals (simp only; omega)

def stepsL (p : Pl) : Sd → List D → List D
  | _, [] => []
  | s, d :: ds => match likeD (chN p s) d, d with
    | true, .tup [.int i, .bl b] => passedD p s i b :: stepsL p (nextQ p s b (drawnL p s i)) ds
    | _, _ => []
theorem like_of {n : Nat} {d : D} (h : likeD n d = true) : ∃ i b, d = .tup [.int i, .bl b] ∧ 0 ≤ i ∧ i ≤ 4 := by
  unfold likeD at h
  split at h
  · rename_i a b
    simp only [Bool.and_eq_true] at h
    obtain ⟨⟨h1, h2⟩, _⟩ := h
    cases a <;> simp [winD] at h1
    cases b <;> simp [isBl] at h2
    exact ⟨_, _, rfl, h1.1, h1.2⟩
  · cases h
theorem steps_cons {p : Pl} {s : Sd} {i : Int} {b : Bool} (h : likeD (chN p s) (.tup [.int i, .bl b]) = true) (ds : List D) : stepsL p s (.tup [.int i, .bl b] :: ds) = passedD p s i b :: stepsL p (nextQ p s b (drawnL p s i)) ds := by
  simp only [stepsL, h]
theorem steps_stop {p : Pl} {s : Sd} {d : D} (h : likeD (chN p s) d = false) (ds : List D) : stepsL p s (d :: ds) = [] := by
  simp only [stepsL, h]
theorem steps_len (p : Pl) : ∀ (ds : List D) (s : Sd), (stepsL p s ds).length ≤ ds.length
  | [], _ => Nat.le_refl _
  | d :: ds, s => by
    cases h : likeD (chN p s) d
    · rw [steps_stop h]
      exact Nat.zero_le _
    · obtain ⟨i, b, rfl, _⟩ := like_of h
      rw [steps_cons h]
      exact Nat.succ_le_succ (steps_len p ds _)
theorem set_last (S : Store) (x y : Option M) : (S ++ [x]).set S.length y = S ++ [y] := by simp
theorem get_last (S : Store) (x : Option M) : (S ++ [x])[S.length]? = some x := by simp
theorem atI_neg {α : Type} (l : List α) (x : α) : atI (l ++ [x]) (-1) = some x := by
  unfold atI ixN
  have h1 : ¬ (0 : Int) ≤ -1 := by decide
  have h2 : -((l ++ [x]).length : Int) ≤ -1 := by
    simp only [List.length_append, List.length_cons, List.length_nil]
    omega
  have h3 : (-1 + ((l ++ [x]).length : Int)).toNat = l.length := by
    simp only [List.length_append, List.length_cons, List.length_nil]
    omega
  rw [if_neg h1, if_pos h2, Option.bind_some, h3]
  simp
def stepB : List Wt.S := [
  .ite (.not (.call n_is_like [.var 4, .call n_choices_of [.var 0, .var 1]])) [
   .ret (.fz (.var 3))] [],
  .exp (.meth .append (.var 3) [.call n_passed [.var 0, .var 1, .var 4]]),
  .asg (.nm 1) (.ix (.ix (.var 3) (.neg (.k (.int 1)))) (.k (.int 0)))]
theorem fz_ok {F : Nat → List D → Store → Out D} {i n : Nat} {ρ : Slots} {S : Store} {xs : List D} (h : ρ[i]? = some (some (.loc n))) (hS : S[n]? = some (some (.ls xs))) : ev F (.fz (.var i)) ρ S = .ok (.lst xs) (S.set n none) := by
  rw [ev, ev, h]
  simp only [Out.bind_ok, hS, frD]
theorem steps_loop (k : Nat) {p : Pl} (hp : p.Ok) (S0 : Store) (a2 : D) : ∀ (ds : List D) (s : Sd), s.Ok p → (∀ d ∈ ds, D.flat 60 d = true) → ∀ (acc : List D) (x : Option D), acc.length + ds.length ≤ 1000 →
    (∃ s' x', forL (exL (callF tab (k + 2)) stepB) (.nm 4) ds [some p.d, some s.d, some a2, some (.loc S0.length), x] (S0 ++ [some (.ls acc)]) = .nx [some p.d, some (Sd.d s'), some a2, some (.loc S0.length), x'] (S0 ++ [some (.ls (acc ++ stepsL p s ds))])) ∨
    forL (exL (callF tab (k + 2)) stepB) (.nm 4) ds [some p.d, some s.d, some a2, some (.loc S0.length), x] (S0 ++ [some (.ls acc)]) = .rt (.lst (acc ++ stepsL p s ds)) (S0 ++ [none])
  | [], s, hs, hf, acc, x, hl => .inl ⟨s, x, by simp only [forL, stepsL, List.append_nil]⟩
  | d :: ds, s, hs, hf, acc, x, hl => by
    have hfd := hf d (.head _)
    have e1 : callF tab (k + 2) n_choices_of [p.d, s.d] (S0 ++ [some (.ls acc)]) = _ := choices_of_ok (k + 1) hp s _
    have e2 : callF tab (k + 2) n_is_like [d, .lst (chL (chN p s))] (S0 ++ [some (.ls acc)]) = _ := is_like_ok k (chN_le hp s).2 d hfd _
    cases h : likeD (chN p s) d
    · right
      rw [h] at e2
      rw [steps_stop h, List.append_nil]
      have e3 : exL (callF tab (k + 2)) stepB [some p.d, some s.d, some a2, some (.loc S0.length), some d] (S0 ++ [some (.ls acc)]) = .rt (.lst acc) (S0 ++ [none]) := by
        have e4 := fz_ok (F := callF tab (k + 2)) (i := 3) (n := S0.length) (ρ := [some p.d, some s.d, some a2, some (.loc S0.length), some d]) rfl (get_last S0 (some (.ls acc)))
        rw [set_last] at e4
        refine if_take (S1 := S0 ++ [some (.ls acc)]) (by simp [ev, evs, e1, e2]) ?_
        rw [exL_c, exS, e4]
        rfl
      show (match exL (callF tab (k + 2)) stepB [some p.d, some s.d, some a2, some (.loc S0.length), some d] (S0 ++ [some (.ls acc)]) with
        | .nx ρ2 S2 => forL (exL (callF tab (k + 2)) stepB) (.nm 4) ds ρ2 S2
        | .ct ρ2 S2 => forL (exL (callF tab (k + 2)) stepB) (.nm 4) ds ρ2 S2
        | .bk ρ2 S2 => .nx ρ2 S2
        | o => o) = _
      rw [e3]
    · obtain ⟨i, b, rfl, h0, h4⟩ := like_of h
      rw [h] at e2
      have e3 : callF tab (k + 2) n_passed [p.d, s.d, .tup [.int i, .bl b]] (S0 ++ [some (.ls acc)]) = _ := passed_ok k hs i b _
      have e4 : exL (callF tab (k + 2)) stepB [some p.d, some s.d, some a2, some (.loc S0.length), some (.tup [.int i, .bl b])] (S0 ++ [some (.ls acc)]) =
          .nx [some p.d, some (nextQ p s b (drawnL p s i)).d, some a2, some (.loc S0.length), some (.tup [.int i, .bl b])] (S0 ++ [some (.ls (acc ++ [passedD p s i b]))]) := by
        have r1 : rcv .append (.loc S0.length) (S0 ++ [some (.ls acc)]) = true := by
          show (match (S0 ++ [some (M.ls acc)])[S0.length]? with
            | some (some (.ls _)) => true
            | _ => false) = true
          rw [get_last]
        have r2 : mtD .append (.loc S0.length) [passedD p s i b] (S0 ++ [some (.ls acc)]) = some (.non, S0 ++ [some (.ls (acc ++ [passedD p s i b]))]) := by
          show (match (S0 ++ [some (M.ls acc)])[S0.length]? with
            | some (some (.ls xs)) => if roomy xs.length then some (D.non, (S0 ++ [some (M.ls acc)]).set S0.length (some (.ls (xs ++ [passedD p s i b])))) else none
            | _ => none) = _
          rw [get_last]
          have hr : roomy acc.length = true := by
            simp only [roomy, decide_eq_true_eq]
            simp only [List.length_cons] at hl
            omega
          simp only [hr, if_true, set_last]
        have r3 : atI (acc ++ [passedD p s i b]) (-1) = some (passedD p s i b) := atI_neg _ _
        have r4 := ix_loc (get_last S0 (some (.ls (acc ++ [passedD p s i b])))) (-1)
        refine ex_step (ite_no (S1 := S0 ++ [some (.ls acc)]) (by simp [ev, evs, e1, e2])) ?_
        refine ex_step (ρ1 := [some p.d, some s.d, some a2, some (.loc S0.length), some (.tup [.int i, .bl b])]) (S1 := S0 ++ [some (.ls (acc ++ [passedD p s i b]))]) (by simp [exS, ev, evs, e3, r1, r2]) ?_
        refine ex_step (asg_ok (d := (nextQ p s b (drawnL p s i)).d) (S1 := S0 ++ [some (.ls (acc ++ [passedD p s i b]))]) (by
          simp only [ev, List.getElem?_cons_zero, List.getElem?_cons_succ, Out.bind_ok, r4, r3, lift_some]
          rfl)) ?_
        rfl
      have e5 : forL (exL (callF tab (k + 2)) stepB) (.nm 4) (.tup [.int i, .bl b] :: ds) [some p.d, some s.d, some a2, some (.loc S0.length), x] (S0 ++ [some (.ls acc)]) =
          forL (exL (callF tab (k + 2)) stepB) (.nm 4) ds [some p.d, some (nextQ p s b (drawnL p s i)).d, some a2, some (.loc S0.length), some (.tup [.int i, .bl b])] (S0 ++ [some (.ls (acc ++ [passedD p s i b]))]) := by
        show (match exL (callF tab (k + 2)) stepB [some p.d, some s.d, some a2, some (.loc S0.length), some (.tup [.int i, .bl b])] (S0 ++ [some (.ls acc)]) with
          | .nx ρ2 S2 => forL (exL (callF tab (k + 2)) stepB) (.nm 4) ds ρ2 S2
          | .ct ρ2 S2 => forL (exL (callF tab (k + 2)) stepB) (.nm 4) ds ρ2 S2
          | .bk ρ2 S2 => .nx ρ2 S2
          | o => o) = _
        rw [e4]
      rw [e5, steps_cons h]
      have ih := steps_loop k hp S0 a2 ds (nextQ p s b (drawnL p s i)) (next_ok hp hs i b) (fun d hd => hf d (.tail _ hd)) (acc ++ [passedD p s i b]) (some (.tup [.int i, .bl b])) (by
        simp only [List.length_append, List.length_cons, List.length_nil] at hl ⊢
        omega)
      rw [List.append_assoc] at ih
      exact ih
theorem leave_low {S : Store} (hS : LowS S) {d : D} (hd : D.low S.length d = true) : leave S.length (.rt d (S ++ [none])) = .ok d S := by
  have e : trim S.length (S ++ [none]) = some S := by
    unfold trim
    rw [if_neg (by simp only [List.length_append, List.length_cons, List.length_nil]; omega)]
    rw [List.take_left, if_pos (hS S.length)]
  show (match (if (decide ((S ++ [none]).length ≤ S.length) || d.low S.length) = true then trim S.length (S ++ [none]) else none) with
    | some T => Out.ok d T
    | none => Out.ok d (S ++ [none])) = _
  rw [hd, Bool.or_true, if_pos rfl, e]
mutual
theorem fit_low (m : Nat) : ∀ (n : Nat) (d : D), D.fit n d = true → D.low m d = true
  | _, .non, _ => rfl
  | _, .bl _, _ => rfl
  | _, .int _, _ => rfl
  | _, .str _, _ => rfl
  | 0, .lst _, h => by simp [D.fit] at h
  | n + 1, .lst xs, h => by
    simp only [D.fit, Bool.and_eq_true] at h
    simp only [D.low]
    exact fitAll_low m n xs h.2
  | 0, .tup _, h => by simp [D.fit] at h
  | n + 1, .tup xs, h => by
    simp only [D.fit, Bool.and_eq_true] at h
    simp only [D.low]
    exact fitAll_low m n xs h.2
  | _, .scr _, h => by simp [D.fit] at h
  | _, .loc _, h => by simp [D.fit] at h
  | _, .dic _ _, h => by simp [D.fit] at h
theorem fitAll_low (m : Nat) : ∀ (n : Nat) (ds : List D), D.fitAll n ds = true → D.lowAll m ds = true
  | _, [], _ => rfl
  | n, d :: ds, h => by
    simp only [D.lowAll, D.fitAll, Bool.and_eq_true] at h ⊢
    exact ⟨fit_low m n d h.1, fitAll_low m n ds h.2⟩
end
theorem steps_fit (p : Pl) : ∀ (ds : List D) (s : Sd), D.fitAll 3 (stepsL p s ds) = true
  | [], _ => rfl
  | d :: ds, s => by
    cases h : likeD (chN p s) d
    · rw [steps_stop h]
      rfl
    · obtain ⟨i, b, rfl, _⟩ := like_of h
      rw [steps_cons h]
      simp only [D.fitAll, fit_passed, steps_fit p ds, Bool.and_self]
theorem steps_of_ok (k : Nat) {p : Pl} (hp : p.Ok) {s : Sd} (hs : s.Ok p) (ds : List D) (hf : ∀ d ∈ ds, D.flat 60 d = true) (hl : ds.length ≤ 1000) {S : Store} (hS : LowS S) : callF tab (k + 3) n_steps_of [p.d, s.d, .tup ds] S = .ok (.lst (stepsL p s ds)) S := by
  rw [u_steps_of]
  have e : exL (callF tab (k + 2)) ir_steps_of.body [some p.d, some s.d, some (.tup ds), none, none] S = .rt (.lst (stepsL p s ds)) (S ++ [none]) := by
    have h1 : exS (callF tab (k + 2)) (.asg (.nm 3) (.new [])) [some p.d, some s.d, some (.tup ds), none, none] S = .nx [some p.d, some s.d, some (.tup ds), some (.loc S.length), none] (S ++ [some (.ls [])]) := rfl
    refine ex_step h1 ?_
    rcases steps_loop k hp S (.tup ds) ds s hs hf [] none (by simpa using hl) with ⟨s', x', e1⟩ | e1
    · refine ex_step (ex_for (ds := [.tup ds]) rfl rfl e1) ?_
      have e4 := fz_ok (F := callF tab (k + 2)) (i := 3) (n := S.length) (ρ := [some p.d, some s'.d, some (.tup ds), some (.loc S.length), x']) rfl (get_last S (some (.ls ([] ++ stepsL p s ds))))
      rw [set_last] at e4
      rw [exL_c, exS, e4]
      rfl
    · rw [exL_c]
      refine (congrArg (fun o => OutS.seq o _) (ex_for (ds := [.tup ds]) rfl rfl e1)).trans ?_
      rfl
  rw [e, leave_low hS]
  exact fit_low _ 4 _ (by
    simp only [D.fit, Bool.and_eq_true, decide_eq_true_eq]
    exact ⟨by have := steps_len p ds s; omega, steps_fit p ds s⟩)
/-- a run that goes on from s to s', its steps -/
inductive Goes (p : Pl) : Sd → List D → Sd → List D → Prop
  | nil (s : Sd) : Goes p s [] s []
  | cons {s s' : Sd} {ds st : List D} (i : Int) (b : Bool) (h : likeD (chN p s) (.tup [.int i, .bl b]) = true) (g : Goes p (nextQ p s b (drawnL p s i)) ds s' st) : Goes p s (.tup [.int i, .bl b] :: ds) s' (passedD p s i b :: st)
theorem Goes.snoc {p : Pl} {s s' : Sd} {ds st : List D} (g : Goes p s ds s' st) : ∀ {i : Int} {b : Bool}, likeD (chN p s') (.tup [.int i, .bl b]) = true → Goes p s (ds ++ [.tup [.int i, .bl b]]) (nextQ p s' b (drawnL p s' i)) (st ++ [passedD p s' i b]) := by
  induction g with
  | nil s => exact fun h => .cons _ _ h (.nil _)
  | cons i b h g ih => exact fun h2 => .cons i b h (ih h2)
theorem Goes.steps {p : Pl} {s s' : Sd} {ds st : List D} (g : Goes p s ds s' st) : ∀ r, stepsL p s (ds ++ r) = st ++ stepsL p s' r := by
  induction g with
  | nil s => exact fun r => rfl
  | cons i b h g ih =>
    intro r
    rw [List.cons_append, steps_cons h, ih r]
    rfl
theorem Goes.len {p : Pl} {s s' : Sd} {ds st : List D} (g : Goes p s ds s' st) : st.length = ds.length := by
  induction g with
  | nil s => rfl
  | cons i b h g ih => simp only [List.length_cons, ih]
theorem Goes.flat {p : Pl} {s s' : Sd} {ds st : List D} (g : Goes p s ds s' st) : ∀ d ∈ ds, D.flat 60 d = true := by
  induction g with
  | nil s => exact fun _ h => nomatch h
  | cons i b h g ih =>
    intro d hd
    rcases List.mem_cons.mp hd with rfl | hd
    · rfl
    · exact ih d hd
theorem Goes.last {p : Pl} {s s' : Sd} {ds st : List D} (g : Goes p s ds s' st) : ∀ w : D, ∃ (r : List D) (w' : D), .tup [s.d, w] :: st = r ++ [.tup [s'.d, w']] := by
  induction g with
  | nil s => exact fun w => ⟨[], w, rfl⟩
  | cons i b h g ih =>
    rename_i s s' ds st
    intro w
    obtain ⟨r, w', e⟩ := ih (wordsD (sortS (wordQ p s b (drawnL p s i))))
    exact ⟨.tup [s.d, w] :: r, w', congrArg (List.cons _) e⟩
end Wt
set_option maxRecDepth 100000
set_option maxHeartbeats 1000000
/-! Runs looked at; prices. -/
namespace Wt
open PySem L2
theorem pr_lenl (xs : List D) (S : Store) : prD .len [.lst xs] S = some (.int xs.length) := rfl
theorem fits_run_ok (k : Nat) {p : Pl} (hp : p.Ok) (ds : List D) (hf : ∀ d ∈ ds, D.flat 60 d = true) (hl : ds.length ≤ 1000) {S : Store} (hS : LowS S) :
    callF tab (k + 4) n_fits_run [p.d, .tup ds] S = .ok (.bl (decide (ds.length ≤ 60) && decide ((stepsL p (begS p) ds).length = ds.length))) S := by
  rw [u_fits_run]
  have e1 : callF tab (k + 3) n_steps_of [p.d, (begS p).d, .tup ds] S = _ := steps_of_ok k hp (begS_ok hp) ds hf hl hS
  have e2 : callF tab (k + 3) n_begin_of [p.d] S = _ := begin_of_ok (k + 2) p S
  have et : tysD [.tuple] (.tup ds) = some true := rfl
  have e : exL (callF tab (k + 3)) ir_fits_run.body [some p.d, some (.tup ds)] S = .rt (.bl (decide (ds.length ≤ 60) && decide ((stepsL p (begS p) ds).length = ds.length))) S := by
    by_cases h : (60 : Int) < (ds.length : Int)
    · have h2 : ¬ ds.length ≤ 60 := by omega
      simp [ir_fits_run, exL_n, exL_c, seq_nx, seq_rt, seq_ex, seq_bk, seq_ct, fl_non, fl_bl, fl_int, fl_str, exS, ev, evs, ix_t, ix_l, ix_s, atI_0, atI_1, atI_2, atI_3, atI_4, atI_5, atI_6, cm_lt, cm_le, cm_gt, cm_ge, cm_eqi, cm_nei, cm_eqs, cm_in2, op_addi, op_subi, op_muli, op_addl, op_addt, op_bl, op_mul0, op_x1, op_x0, op_mod, op_div, pr_int, pr_intb, pr_max, pr_min, pr_abs, bT_n, bT_t, bTs_n, bTs_c, sP_n, sP_c, isNon, iteB, thB, bindB, lift_B, asB_B, setD, et, len_t, h, h2]
    · have h2 : ds.length ≤ 60 := by omega
      simp [ir_fits_run, exL_n, exL_c, seq_nx, seq_rt, seq_ex, seq_bk, seq_ct, fl_non, fl_bl, fl_int, fl_str, exS, ev, evs, ix_t, ix_l, ix_s, atI_0, atI_1, atI_2, atI_3, atI_4, atI_5, atI_6, cm_lt, cm_le, cm_gt, cm_ge, cm_eqi, cm_nei, cm_eqs, cm_in2, op_addi, op_subi, op_muli, op_addl, op_addt, op_bl, op_mul0, op_x1, op_x0, op_mod, op_div, pr_int, pr_intb, pr_max, pr_min, pr_abs, bT_n, bT_t, bTs_n, bTs_c, sP_n, sP_c, isNon, iteB, thB, bindB, lift_B, asB_B, setD, et, len_t, len_l, h, h2, e1, e2]
      by_cases h3 : (stepsL p (begS p) ds).length = ds.length
      · simp [h3]
      · simp [h3]
        omega
  rw [e, leave_rt]
theorem is_run_ok (k : Nat) {p : Pl} (hp : p.Ok) (ds : List D) (hf : ∀ d ∈ ds, D.flat 60 d = true) (hl : ds.length ≤ 1000) {S : Store} (hS : LowS S) :
    callF tab (k + 5) n_is_run [p.d, .tup ds] S = .ok (.bl (decide (ds.length ≤ 60) && decide ((stepsL p (begS p) ds).length = ds.length))) S := by
  rw [u_is_run]
  have e : exL (callF tab (k + 4)) ir_is_run.body [some p.d, some (.tup ds)] S = .rt (.bl (decide (ds.length ≤ 60) && decide ((stepsL p (begS p) ds).length = ds.length))) S := by
    simp only [ir_is_run, exL_c, exL_n, exS, ev, evs, List.getElem?_cons_zero, List.getElem?_cons_succ, Out.bind_ok, Out.thenS_ok, look_at_plan_ok _ hp, fits_run_ok _ hp ds hf hl hS, seq_nx, seq_rt]
  rw [e, leave_rt]
section
variable {p : Pl} {s : Sd} {ds st : List D} {S : Store}
theorem look_at_run_ok (k : Nat) (hp : p.Ok) (g : Goes p (begS p) ds s st) (hl : ds.length ≤ 60) (hS : LowS S) : callF tab (k + 5) n_look_at_run [p.d, .tup ds] S = .ok .non S := by
  rw [u_look_at_run]
  have hs : stepsL p (begS p) ds = st := by
    have := g.steps []
    rw [List.append_nil] at this
    rw [this, stepsL, List.append_nil]
  have e1 : callF tab (k + 4) n_fits_run [p.d, .tup ds] S = _ := fits_run_ok k hp ds g.flat (by omega) hS
  rw [hs, g.len] at e1
  have e : exL (callF tab (k + 4)) ir_look_at_run.body [some p.d, some (.tup ds)] S = .nx [some p.d, some (.tup ds)] S := by
    simp [ir_look_at_run, exL_n, exL_c, seq_nx, seq_rt, seq_ex, seq_bk, seq_ct, fl_non, fl_bl, fl_int, fl_str, exS, ev, evs, ix_t, ix_l, ix_s, atI_0, atI_1, atI_2, atI_3, atI_4, atI_5, atI_6, cm_lt, cm_le, cm_gt, cm_ge, cm_eqi, cm_nei, cm_eqs, cm_in2, op_addi, op_subi, op_muli, op_addl, op_addt, op_bl, op_mul0, op_x1, op_x0, op_mod, op_div, pr_int, pr_intb, pr_max, pr_min, pr_abs, bT_n, bT_t, bTs_n, bTs_c, sP_n, sP_c, isNon, iteB, thB, bindB, lift_B, asB_B, setD, look_at_plan_ok _ hp, e1, hl]
  rw [e, leave_nx]
theorem stand_behind_ok (k : Nat) (hp : p.Ok) (g : Goes p (begS p) ds s st) (hl : ds.length ≤ 60) (hS : LowS S) : callF tab (k + 6) n_stand_behind [p.d, .tup ds] S = .ok s.d S := by
  rw [u_stand_behind]
  have hs : stepsL p (begS p) ds = st := by
    have := g.steps []
    rw [List.append_nil] at this
    rw [this, stepsL, List.append_nil]
  have e1 : callF tab (k + 5) n_steps_of [p.d, (begS p).d, .tup ds] S = _ := steps_of_ok (k + 2) hp (begS_ok hp) ds g.flat (by omega) hS
  rw [hs] at e1
  obtain ⟨r, w, hr⟩ := g.last (.lst [])
  have e2 : atI (.tup [(begS p).d, .lst []] :: st) (-1) = some (.tup [s.d, w]) := by
    rw [hr, atI_neg]
  have e3 : opD .Add (.lst [.tup [(begS p).d, .lst []]]) (.lst st) = some (.lst (.tup [(begS p).d, .lst []] :: st)) := op_addl _ _ (by
    have := g.len
    simp only [List.length_cons, List.length_nil]
    omega)
  have e4 : callF tab (k + 5) n_begin_of [p.d] S = _ := begin_of_ok (k + 4) p S
  have e5 : callF tab (k + 5) n_look_at_run [p.d, .tup ds] S = _ := look_at_run_ok k hp g hl hS
  have e : exL (callF tab (k + 5)) ir_stand_behind.body [some p.d, some (.tup ds)] S = .rt s.d S := by
    simp only [ir_stand_behind, exL_c, exL_n, exS, ev, evs, List.getElem?_cons_zero, List.getElem?_cons_succ, Out.bind_ok, Out.thenS_ok, e5, e4, e1, e3, lift_some, ix_l, ix_t, e2, seq_nx, seq_rt, atI_0]
  rw [e, leave_rt]
end
/-! prices -/
def hasW (x : Str) (l : List Str) : Bool := l.any fun z => z == x
def priceL (l : List Str) : Int := (if hasW s_cheap l = true then 1 else 0) + 2 * (if hasW s_dear l = true then 1 else 0)
def lawPriceL (l : List Str) : Int := tollS (((l.filter fun x => s_cheap == x || s_dear == x) ++ [s_empty2]).headD s_empty2)
theorem words_cases (p : Pl) (s : Sd) (pr : Bool) (dr : Int) : ∃ a ∈ ([[], ["cold"], ["lost"]] : List (List Str)), ∃ b ∈ ([[], ["cheap"], ["dear"]] : List (List Str)), ∃ c ∈ ([[], ["empty"]] : List (List Str)), wordQ p s pr (drawnL p s dr) = (a ++ b) ++ c := by
  have ha : (drawnL p s dr).2.2.2 ∈ ([[], ["cold"], ["lost"]] : List (List Str)) := by
    unfold drawnL
    repeat' split
    all_goals simp
  refine ⟨_, ha, (if heatsL p (drawnL p s dr).1 s.hour s.on (heldL p s pr) = true then ([if s.hour < 2 then "cheap" else "dear"] : List Str) else []), ?_, (if (tickL p (drawnL p s dr).1 s.on s.warmed s.hour (heldL p s pr)).1 = 0 then (["empty"] : List Str) else []), ?_, rfl⟩
  · split
    · split <;> simp
    · simp
  · split <;> simp
theorem prices_alike (p : Pl) (s : Sd) (pr : Bool) (dr : Int) : lawPriceL (sortS (wordQ p s pr (drawnL p s dr))) = priceL (sortS (wordQ p s pr (drawnL p s dr))) := by
  obtain ⟨a, ha, b, hb, c, hc, e⟩ := words_cases p s pr dr
  rw [e]
  simp only [List.mem_cons, List.not_mem_nil, or_false] at ha hb hc
  rcases ha with rfl | rfl | rfl <;> rcases hb with rfl | rfl | rfl <;> rcases hc with rfl | rfl <;> decide +kernel
theorem any_strs (x : Str) : ∀ l : List Str, ((l.map D.str).any fun z => D.eqv z (.str x)) = hasW x l
  | [] => rfl
  | y :: l => by
    rw [List.map_cons, List.any_cons, any_strs x l]
    rfl
theorem flat_strs {l : List Str} (h : okW l) : D.flatAll 60 (l.map D.str) = true := by
  refine flatAll_iff fun d hd => ?_
  obtain ⟨x, hx, rfl⟩ := List.mem_map.mp hd
  exact fl_str _ _ (h.2 x hx)
theorem ok_dear : PyData.strOk "dear" = true := by decide +kernel
theorem price_ok (k : Nat) {l : List Str} (h : okW l) (S : Store) : callF tab (k + 1) n_price [wordsD l] S = .ok (.int (priceL l)) S := by
  rw [u_price]
  have e1 : cmpD .In (.str s_cheap) (.lst (l.map D.str)) = some (hasW s_cheap l) := by rw [cm_in (fl_str _ _ ok_cheap) (flat_strs h), any_strs]
  have e2 : cmpD .In (.str s_dear) (.lst (l.map D.str)) = some (hasW s_dear l) := by rw [cm_in (fl_str _ _ ok_dear) (flat_strs h), any_strs]
  have e : exL (callF tab k) ir_price.body [some (wordsD l)] S = .rt (.int (priceL l)) S := by
    have sm : small 2 = true := by decide
    simp [ir_price, exL_n, exL_c, seq_nx, seq_rt, seq_ex, seq_bk, seq_ct, fl_non, fl_bl, fl_int, fl_str, exS, ev, evs, ix_t, ix_l, ix_s, atI_0, atI_1, atI_2, atI_3, atI_4, atI_5, atI_6, cm_lt, cm_le, cm_gt, cm_ge, cm_eqi, cm_nei, cm_eqs, cm_in2, op_addi, op_subi, op_muli, op_addl, op_addt, op_bl, op_mul0, op_x1, op_x0, op_mod, op_div, pr_int, pr_intb, pr_max, pr_min, pr_abs, bT_n, bT_t, bTs_n, bTs_c, sP_n, sP_c, isNon, iteB, thB, bindB, lift_B, asB_B, setD, wordsD, e1, e2, sm, priceL]
  rw [e, leave_rt]
theorem in_cd {x : Str} (h : PyData.strOk x = true) : cmpD .In (.str x) (.lst [.str s_cheap, .str s_dear]) = some (s_cheap == x || s_dear == x) := by
  rw [cm_in (fl_str _ _ h) (by simp [D.flatAll, fl_str, ok_cheap, ok_dear])]
  simp [D.eqv]
theorem law_price_ok (k : Nat) {l : List Str} (h : okW l) (S : Store) : callF tab (k + 1) n__law_price [wordsD l] S = .ok (.int (lawPriceL l)) S := by
  rw [u__law_price]
  have e1 : ev (callF tab k) (.lc (.var 1) (.nm 1) .dat [.var 0] (.cmp .In (.var 1) (.lst [.k (.str s_cheap), .k (.str s_dear)])) [1]) [some (wordsD l), none] S = .ok (.lst ((l.filter fun x => s_cheap == x || s_dear == x).map D.str)) S := by
    have hl := h.1
    refine ev_lc (ds := [wordsD l]) (items := l.map D.str) rfl rfl (by
      simp only [roomy, List.length_map, decide_eq_true_eq]
      omega) ?_
    have e2 := lc_flt (ev (callF tab k) (.cmp .In (.var 1) (.lst [.k (.str s_cheap), .k (.str s_dear)]))) (ev (callF tab k) (.var 1)) (.nm 1) (wipeE [some (wordsD l), none] [1]) S (fun d => match d with | .str x => s_cheap == x || s_dear == x | _ => false) id (l.map D.str) (by
      intro d hd
      obtain ⟨x, hx, rfl⟩ := List.mem_map.mp hd
      refine ⟨_, rfl, ?_, fun _ => rfl⟩
      simp [wipeE, ev, evs, in_cd (h.2 x hx)])
    rw [e2, List.map_id, List.filter_map]
    rfl
  have hlen : (l.filter fun x => s_cheap == x || s_dear == x).length ≤ 60 := Nat.le_trans (List.length_filter_le _ _) h.1
  have e3 : opD .Add (.lst ((l.filter fun x => s_cheap == x || s_dear == x).map D.str)) (.lst [.str s_empty2]) = some (.lst (((l.filter fun x => s_cheap == x || s_dear == x) ++ [s_empty2]).map D.str)) := by
    rw [op_addl _ _ (by simp only [List.length_map, List.length_cons, List.length_nil]; omega), List.map_append]
    rfl
  have e4 : atI (((l.filter fun x => s_cheap == x || s_dear == x) ++ [s_empty2]).map D.str) 0 = some (.str (((l.filter fun x => s_cheap == x || s_dear == x) ++ [s_empty2]).headD s_empty2)) := by
    rw [atI_0]
    generalize (l.filter fun x => s_cheap == x || s_dear == x) = r
    cases r <;> rfl
  have e5 : ev (callF tab k) (.toll (.ix (.op .Add (.lc (.var 1) (.nm 1) .dat [.var 0] (.cmp .In (.var 1) (.lst [.k (.str s_cheap), .k (.str s_dear)])) [1]) (.lst [.k (.str s_empty2)])) (.k (.int 0)))) [some (wordsD l), none] S = .ok (.int (lawPriceL l)) S := by
    have e6 := op_ok e1 (show ev (callF tab k) (.lst [.k (.str s_empty2)]) [some (wordsD l), none] S = .ok (.lst [.str s_empty2]) S from rfl) e3
    rw [ev, ev, e6, Out.bind_ok, ev, Out.bind_ok, ix_l, e4]
    rfl
  have e : exL (callF tab k) ir__law_price.body [some (wordsD l), none] S = .rt (.int (lawPriceL l)) S := by
    have : exL (callF tab k) ir__law_price.body [some (wordsD l), none] S = (OutS.seq ((ev (callF tab k) (.toll (.ix (.op .Add (.lc (.var 1) (.nm 1) .dat [.var 0] (.cmp .In (.var 1) (.lst [.k (.str s_cheap), .k (.str s_dear)])) [1]) (.lst [.k (.str s_empty2)])) (.k (.int 0)))) [some (wordsD l), none] S).thenS fun d S1 => .rt d S1) fun ρ1 S1 => .nx ρ1 S1) := by
      rw [show ir__law_price.body = [.ret (.toll (.ix (.op .Add (.lc (.var 1) (.nm 1) .dat [.var 0] (.cmp .In (.var 1) (.lst [.k (.str s_cheap), .k (.str s_dear)])) [1]) (.lst [.k (.str s_empty2)])) (.k (.int 0))))] from rfl, exL_c, exS]
      rfl
    rw [this, e5]
    rfl
  rw [e, leave_rt]
/-- what a run costs -/
inductive Costs : List D → List Int → Prop
  | nil : Costs [] []
  | cons {st : List D} {zs : List Int} (d : D) (l : List Str) (h : okW l) (c : Costs st zs) : Costs (.tup [d, wordsD l] :: st) (priceL l :: zs)
theorem Costs.snoc {st : List D} {zs : List Int} (c : Costs st zs) (d : D) {l : List Str} (h : okW l) : Costs (st ++ [.tup [d, wordsD l]]) (zs ++ [priceL l]) := by
  induction c with
  | nil => exact .cons d l h .nil
  | cons d' l' h' _ ih => exact .cons d' l' h' ih
theorem ints_map : ∀ zs : List Int, intsD (zs.map D.int) = some zs
  | [] => rfl
  | z :: zs => by simp only [List.map_cons, intsD, ints_map zs, Option.map_some]
theorem Costs.len {st : List D} {zs : List Int} (c : Costs st zs) : zs.length = st.length := by
  induction c with
  | nil => rfl
  | cons _ _ _ _ ih => simp only [List.length_cons, ih]
theorem cost_lc (k : Nat) (S : Store) (ρ : Slots) (hρ : ρ.length = 4) {st : List D} {zs : List Int} (c : Costs st zs) : lcL (ev (callF tab (k + 1)) (.k (.bl true))) (ev (callF tab (k + 1)) (.call n_price [.var 3])) (.tup [(.nm 2), (.nm 3)]) ρ st S = .ok (zs.map D.int) S := by
  induction c with
  | nil => rfl
  | cons d l h _ ih =>
    have hb : bindT (.tup [.nm 2, .nm 3]) (.tup [d, wordsD l]) ρ = some ((ρ.set 2 (some d)).set 3 (some (wordsD l))) := rfl
    have h3 : ((ρ.set 2 (some d)).set 3 (some (wordsD l)))[3]? = some (some (wordsD l)) := by
      simp [List.getElem?_set, hρ]
    have ht : ev (callF tab (k + 1)) (.k (.bl true)) ((ρ.set 2 (some d)).set 3 (some (wordsD l))) S = .ok (.bl true) S := rfl
    have he : ev (callF tab (k + 1)) (.call n_price [.var 3]) ((ρ.set 2 (some d)).set 3 (some (wordsD l))) S = .ok (.int (priceL l)) S := by
      simp only [ev, evs, h3, Out.bind_ok, price_ok _ h]
    simp only [lcL, hb, ht, asB_B, he, ih, Out.bind_ok, List.map_cons]
section
variable {p : Pl} {s : Sd} {ds st : List D} {S : Store}
theorem cost_ok (k : Nat) (hp : p.Ok) (g : Goes p (begS p) ds s st) {zs : List Int} (c : Costs st zs) (hl : ds.length ≤ 60) (hS : LowS S) : callF tab (k + 6) n_cost [p.d, .tup ds] S = .ok (.int zs.sum) S := by
  rw [u_cost]
  have hs : stepsL p (begS p) ds = st := by
    have := g.steps []
    rw [List.append_nil] at this
    rw [this, stepsL, List.append_nil]
  have e1 : callF tab (k + 5) n_steps_of [p.d, (begS p).d, .tup ds] S = _ := steps_of_ok (k + 2) hp (begS_ok hp) ds g.flat (by omega) hS
  rw [hs] at e1
  have e4 : callF tab (k + 5) n_begin_of [p.d] S = _ := begin_of_ok (k + 4) p S
  have e5 : callF tab (k + 5) n_look_at_run [p.d, .tup ds] S = _ := look_at_run_ok k hp g hl hS
  have e6 : ev (callF tab (k + 5)) (.lc (.call n_price [.var 3]) (.tup [(.nm 2), (.nm 3)]) .dat [.call n_steps_of [.var 0, .call n_begin_of [.var 0], .var 1]] (.k (.bl true)) [2, 3]) [some p.d, some (.tup ds), none, none] S = .ok (.lst (zs.map D.int)) S :=
    ev_lc (ds := [.lst st]) (items := st) (by simp only [evs, ev, List.getElem?_cons_zero, List.getElem?_cons_succ, Out.bind_ok, e4, e1]) rfl (by
      have := g.len
      simp only [roomy, decide_eq_true_eq]
      omega) (cost_lc (k + 4) S _ rfl c)
  have e7 : prD .sum [.lst (zs.map D.int)] S = some (.int zs.sum) := by
    show (intsD (zs.map D.int)).map (fun ns => D.int ns.sum) = _
    rw [ints_map]
    rfl
  have e : exL (callF tab (k + 5)) ir_cost.body [some p.d, some (.tup ds), none, none] S = .rt (.int zs.sum) S := by
    have h1 : exS (callF tab (k + 5)) (.exp (.call n_look_at_run [.var 0, .var 1])) [some p.d, some (.tup ds), none, none] S = .nx [some p.d, some (.tup ds), none, none] S := by
      simp only [exS, ev, evs, List.getElem?_cons_zero, List.getElem?_cons_succ, Out.bind_ok, Out.thenS_ok, e5]
    refine ex_step h1 ?_
    rw [exL_c, exS, ev, evs, e6, Out.bind_ok, evs, Out.bind_ok, Out.bind_ok, e7]
    rfl
  rw [e, leave_rt]
end
/-! values that are none, at the end of a run -/
def oddL : List D := [.tup [.int 0, .bl false], .tup [.int 1, .bl false], .tup [.int 4, .bl true], .tup [.int 5, .bl false], .tup [.int 0, .int 0], .tup [.bl true, .bl false], .tup [.int 0], .lst [.int 0, .bl false], .non, .tup [.int (-1), .bl true]]
theorem odd_ok {d : D} (h : d ∈ oddL) {n : Nat} (h1 : 1 ≤ n) (h2 : n ≤ 5) : (chL n).any (fun r => twinsD r d) = likeD n d := by
  obtain rfl | rfl | rfl | rfl | rfl : n = 1 ∨ n = 2 ∨ n = 3 ∨ n = 4 ∨ n = 5 := by omega
  all_goals
    simp only [oddL, List.mem_cons, List.not_mem_nil, or_false] at h
    rcases h with rfl | rfl | rfl | rfl | rfl | rfl | rfl | rfl | rfl | rfl <;> rfl
theorem odd_fit {d : D} (h : d ∈ oddL) : D.fit 3 d = true := by
  simp only [oddL, List.mem_cons, List.not_mem_nil, or_false] at h
  rcases h with rfl | rfl | rfl | rfl | rfl | rfl | rfl | rfl | rfl | rfl <;> rfl
end Wt
set_option maxRecDepth 100000
set_option maxHeartbeats 1000000
/-! All stands that come up, in plain terms. -/
namespace Wt
open PySem L2
instance : DecidableEq Sd := fun a b => if h : a.hot = b.hot ∧ a.on = b.on ∧ a.warmed = b.warmed ∧ a.stood = b.stood ∧ a.hour = b.hour ∧ a.since = b.since ∧ a.held = b.held then isTrue (by
    obtain ⟨h1, h2, h3, h4, h5, h6, h7⟩ := h
    cases a
    cases b
    simp only at h1 h2 h3 h4 h5 h6 h7
    subst h1 h2 h3 h4 h5 h6 h7
    rfl) else isFalse fun z => h (by subst z; exact ⟨rfl, rfl, rfl, rfl, rfl, rfl, rfl⟩)
abbrev Ch := Nat × Bool
def chD (c : Ch) : D := .tup [.int (c.1 : Int), .bl c.2]
def chs (n : Nat) : List Ch := (List.range n).flatMap fun i => [(i, false), (i, true)]
theorem chL_chs (n : Nat) : chL n = (chs n).map chD := by
  unfold chL chs
  rw [List.map_flatMap]
  rfl
def Sd.nxt (p : Pl) (s : Sd) (c : Ch) : Sd := nextQ p s c.2 (drawnL p s (c.1 : Int))
def Sd.wds (p : Pl) (s : Sd) (c : Ch) : List Str := sortS (wordQ p s c.2 (drawnL p s (c.1 : Int)))
theorem passed_nxt (p : Pl) (s : Sd) (c : Ch) : passedD p s (c.1 : Int) c.2 = .tup [(s.nxt p c).d, wordsD (s.wds p c)] := rfl
def tickD (p : Pl) (s : Sd) (c : Ch) : D := .tup [chD c, (s.nxt p c).d, wordsD (s.wds p c)]
def cho (p : Pl) (s : Sd) : List Ch := chs (chN p s)
abbrev Fd := List (Sd × List Ch)
def addOne (p : Pl) (s : Sd) (r : List Ch) (F : Fd) (c : Ch) : Fd := if s.nxt p c ∈ F.map (·.1) then F else F ++ [(s.nxt p c, r ++ [c])]
def addAll (p : Pl) (s : Sd) (r : List Ch) : Fd → List Ch → Fd
  | F, [] => F
  | F, c :: cs => addAll p s r (addOne p s r F c) cs
def bfs (p : Pl) : Nat → Nat → Fd → Fd
  | 0, _, F => F
  | k + 1, i, F => match F[i]? with
    | none => F
    | some (s, r) => bfs p k (i + 1) (addAll p s r F (cho p s))
def begP (p : Pl) : Sd := ⟨p.tank, false, 0, 0, 0, p.apart, false⟩
def netF (p : Pl) : Fd := bfs p 2881 0 [(begP p, [])]
/-! ### there are few stands -/
theorem nodup_lt : ∀ (N : Nat) (l : List Nat), l.Nodup → (∀ x ∈ l, x < N) → l.length ≤ N
  | 0, [], _, _ => Nat.le_refl _
  | 0, x :: l, _, h => absurd (h x (.head _)) (Nat.not_lt_zero _)
  | N + 1, l, hn, h => by
    by_cases hm : N ∈ l
    · have h1 := nodup_lt N (l.erase N) (hn.erase N) fun x hx => by
        have h2 := h x (List.mem_of_mem_erase hx)
        have h3 : x ≠ N := fun z => by
          subst z
          exact (List.Nodup.not_mem_erase hn) hx
        omega
      rw [List.length_erase_of_mem hm] at h1
      omega
    · have := nodup_lt N l hn fun x hx => by
        have h2 := h x hx
        have h3 : x ≠ N := fun z => hm (z ▸ hx)
        omega
      omega
def Sd.code (s : Sd) : Nat := ((((((s.hot.toNat * 3 + s.warmed.toNat) * 3 + s.stood.toNat) * 4 + s.hour.toNat) * 4 + s.since.toNat) * 2 + (if s.on then 1 else 0)) * 2 + (if s.held then 1 else 0))
theorem code_lt {p : Pl} (hp : p.Ok) {s : Sd} (h : s.Ok p) : s.code < 2880 := by
  obtain ⟨h1, h2, w1, w2, s1, s2, o1, o2, n1, n2⟩ := h
  obtain ⟨t1, t2, e1, e2, c1, c2, l1, l2, m1, m2, a1, a2⟩ := hp
  unfold Sd.code
  have hb : (if s.on = true then 1 else 0) ≤ 1 := by split <;> omega
  have hc : (if s.held = true then 1 else 0) ≤ 1 := by split <;> omega
  have d1 : s.stood < 3 := by omega
  omega
theorem code_inj {p : Pl} (hp : p.Ok) {s t : Sd} (h : s.Ok p) (h' : t.Ok p) (e : s.code = t.code) : s = t := by
  obtain ⟨h1, h2, w1, w2, s1, s2, o1, o2, n1, n2⟩ := h
  obtain ⟨h1', h2', w1', w2', s1', s2', o1', o2', n1', n2'⟩ := h'
  obtain ⟨t1, t2, e1, e2, c1, c2, l1, l2, m1, m2, a1, a2⟩ := hp
  unfold Sd.code at e
  have d1 : s.stood < 3 := by omega
  have d2 : t.stood < 3 := by omega
  have hb : (if s.on = true then 1 else 0) ≤ 1 := by split <;> omega
  have hc : (if s.held = true then 1 else 0) ≤ 1 := by split <;> omega
  have hb' : (if t.on = true then 1 else 0) ≤ 1 := by split <;> omega
  have hc' : (if t.held = true then 1 else 0) ≤ 1 := by split <;> omega
  have q7 : (if s.held = true then 1 else 0) = (if t.held = true then 1 else 0) := by omega
  have q6 : (if s.on = true then 1 else 0) = (if t.on = true then 1 else 0) := by omega
  have q5 : s.since = t.since := by omega
  have q4 : s.hour = t.hour := by omega
  have q3 : s.stood = t.stood := by omega
  have q2 : s.warmed = t.warmed := by omega
  have q1 : s.hot = t.hot := by omega
  have b1 : s.on = t.on := by
    cases hs : s.on <;> cases ht : t.on <;> rw [hs, ht] at q6 <;> simp at q6 ⊢
  have b2 : s.held = t.held := by
    cases hs : s.held <;> cases ht : t.held <;> rw [hs, ht] at q7 <;> simp at q7 ⊢
  cases s
  cases t
  simp only at q1 q2 q3 q4 q5 b1 b2
  subst q1 q2 q3 q4 q5 b1 b2
  rfl
/-- a walk so far: the stands are sound and differ; the runs are short -/
structure FOk (p : Pl) (F : Fd) : Prop where
  nd : (F.map (·.1)).Nodup
  ok : ∀ x ∈ F, x.1.Ok p
  rl : ∀ (i : Nat) (x : Sd × List Ch), F[i]? = some x → x.2.length ≤ i
  rc : ∀ x ∈ F, ∀ c ∈ x.2, c.1 ≤ 4
  ne : F[0]? = some (begP p, [])
theorem FOk.len {p : Pl} (hp : p.Ok) {F : Fd} (h : FOk p F) : F.length ≤ 2880 := by
  have q := nodup_lt 2880 (F.map fun x => x.1.code) ?_ ?_
  · simpa using q
  · have nd := h.nd
    have ok := h.ok
    clear h
    induction F with
    | nil => exact List.nodup_nil
    | cons x F ih =>
      rw [List.map_cons, List.nodup_cons] at nd ⊢
      refine ⟨fun hx => ?_, ih nd.2 fun y hy => ok y (.tail _ hy)⟩
      obtain ⟨y, hy, e⟩ := List.mem_map.mp hx
      have := code_inj hp (ok y (.tail _ hy)) (ok x (.head _)) e
      exact nd.1 (List.mem_map.mpr ⟨y, hy, this⟩)
  · intro c hc
    obtain ⟨y, hy, rfl⟩ := List.mem_map.mp hc
    exact code_lt hp (h.ok y hy)
theorem ch_le {p : Pl} (hp : p.Ok) {s : Sd} {c : Ch} (h : c ∈ cho p s) : c.1 ≤ 4 := by
  have h2 := (chN_le hp s).2
  unfold cho chs at h
  simp only [List.mem_flatMap, List.mem_range] at h
  obtain ⟨i, hi, hc⟩ := h
  simp only [List.mem_cons, List.not_mem_nil, or_false] at hc
  rcases hc with rfl | rfl <;> (show i ≤ 4; omega)
theorem FOk.one {p : Pl} (hp : p.Ok) {F : Fd} (h : FOk p F) {i : Nat} {s : Sd} {r : List Ch} (hi : F[i]? = some (s, r)) {c : Ch} (hc : c ∈ cho p s) : FOk p (addOne p s r F c) := by
  have hlt : i < F.length := (List.getElem?_eq_some_iff.mp hi).1
  have hm : (s, r) ∈ F := List.mem_of_getElem? hi
  unfold addOne
  split
  · exact h
  · rename_i hn
    refine ⟨?_, fun x hx => ?_, fun j x hj => ?_, fun x hx d hd => ?_, ?_⟩
    · rw [List.map_append, List.nodup_append]
      refine ⟨h.nd, by simp, fun a ha b hb => ?_⟩
      simp only [List.map_cons, List.map_nil, List.mem_singleton] at hb
      rw [hb]
      exact fun z => hn (z ▸ ha)
    · rcases List.mem_append.mp hx with hx | hx
      · exact h.ok x hx
      · rw [List.mem_singleton.mp hx]
        exact next_ok hp (h.ok _ hm) _ _
    · by_cases hj2 : j < F.length
      · rw [List.getElem?_append_left hj2] at hj
        exact h.rl j x hj
      · rw [List.getElem?_append_right (by omega)] at hj
        have hx := List.mem_of_getElem? hj
        rw [List.mem_singleton.mp hx]
        have := h.rl i _ hi
        simp only [List.length_append, List.length_singleton]
        simp only at this
        omega
    · rcases List.mem_append.mp hx with hx | hx
      · exact h.rc x hx d hd
      · rw [List.mem_singleton.mp hx] at hd
        rcases List.mem_append.mp hd with hd | hd
        · exact h.rc _ hm d hd
        · rw [List.mem_singleton.mp hd]
          exact ch_le hp hc
    · rw [List.getElem?_append_left (by omega)]
      exact h.ne
theorem addOne_get {p : Pl} {F : Fd} {s : Sd} {r : List Ch} {c : Ch} {i : Nat} {x : Sd × List Ch} (h : F[i]? = some x) : (addOne p s r F c)[i]? = some x := by
  unfold addOne
  split
  · exact h
  · rw [List.getElem?_append_left (List.getElem?_eq_some_iff.mp h).1]
    exact h
theorem FOk.all {p : Pl} (hp : p.Ok) {i : Nat} {s : Sd} {r : List Ch} : ∀ (cs : List Ch) {F : Fd}, FOk p F → F[i]? = some (s, r) → (∀ c ∈ cs, c ∈ cho p s) → FOk p (addAll p s r F cs) ∧ (addAll p s r F cs)[i]? = some (s, r)
  | [], F, h, hi, _ => ⟨h, hi⟩
  | c :: cs, F, h, hi, hc => FOk.all hp cs (h.one hp hi (hc c (.head _))) (addOne_get hi) fun d hd => hc d (.tail _ hd)
theorem begP_ok {p : Pl} (h : p.Ok) : (begP p).Ok p := by
  obtain ⟨t1, t2, e1, e2, c1, c2, l1, l2, m1, m2, a1, a2⟩ := h
  exact ⟨by show 0 ≤ p.tank; omega, Int.le_refl _, Int.le_refl _, by show (0 : Int) < p.heat; omega, Int.le_refl _, .inl rfl, Int.le_refl _, by show (0 : Int) ≤ 3; decide, a1, Int.le_refl _⟩
theorem FOk.beg {p : Pl} (hp : p.Ok) : FOk p [(begP p, [])] := by
  refine ⟨by simp, fun x hx => ?_, fun j x hj => ?_, fun x hx d hd => ?_, rfl⟩
  · rw [List.mem_singleton.mp hx]
    exact begP_ok hp
  · have hx := List.mem_of_getElem? hj
    rw [List.mem_singleton.mp hx]
    exact Nat.zero_le _
  · rw [List.mem_singleton.mp hx] at hd
    exact nomatch hd
theorem FOk.bfs {p : Pl} (hp : p.Ok) : ∀ (k i : Nat) {F : Fd}, FOk p F → FOk p (Wt.bfs p k i F)
  | 0, _, _, h => h
  | k + 1, i, F, h => by
    unfold Wt.bfs
    split
    · exact h
    · rename_i s r hi
      exact FOk.bfs hp k (i + 1) (h.all hp _ hi fun _ hc => hc).1
theorem netF_ok {p : Pl} (hp : p.Ok) : FOk p (netF p) := FOk.bfs hp _ _ (FOk.beg hp)
/-! ### as data -/
def runD (r : List Ch) : D := .tup (r.map chD)
def netK (F : Fd) : List D := F.map fun x => x.1.d
def netV (p : Pl) (F : Fd) : List D := F.map fun x => .tup [runD x.2, .lst ((cho p x.1).map (tickD p x.1))]
def netD (p : Pl) (F : Fd) : D := .dic (netK F) (netV p F)
def Sd.key (s : Sd) : NestedKey := .tup [.num s.hot, .num (if s.on = true then 1 else 0), .num s.warmed, .num s.stood, .num s.hour, .num s.since, .num (if s.held = true then 1 else 0)]
theorem nk_sd (s : Sd) : nkD 8 s.d = some s.key := rfl
theorem key_inj {s t : Sd} (h : s.key = t.key) : s = t := by
  cases s
  cases t
  unfold Sd.key at h
  simp only [NestedKey.tup.injEq, List.cons.injEq, NestedKey.num.injEq, and_true] at h
  obtain ⟨h1, h2, h3, h4, h5, h6, h7⟩ := h
  rename_i a1 a2 a3 a4 a5 a6 a7 b1 b2 b3 b4 b5 b6 b7
  have e2 : a2 = b2 := by cases a2 <;> cases b2 <;> simp at h2 ⊢
  have e7 : a7 = b7 := by cases a7 <;> cases b7 <;> simp at h7 ⊢
  subst h1 e2 h3 h4 h5 h6 e7
  rfl
end Wt
set_option maxRecDepth 100000
set_option maxHeartbeats 1000000
/-! Dicts of stands; steps of the small syntax with dicts. -/
namespace Wt
open PySem L2
def tlx (n i : Nat) : Nat := if i = 0 then n else n + 2 + i
def kvsN (n : Nat) (F : Fd) : List (D × D) := F.zipIdx.map fun q => (q.1.1.d, .tup [runD q.1.2, .loc (tlx n q.2)])
theorem kvs_len (n : Nat) (F : Fd) : (kvsN n F).length = F.length := by simp [kvsN]
theorem kvs_get {n : Nat} {F : Fd} {i : Nat} {x : Sd × List Ch} (h : F[i]? = some x) : (kvsN n F)[i]? = some (x.1.d, .tup [runD x.2, .loc (tlx n i)]) := by
  simp [kvsN, h]
theorem kvs_app (n : Nat) (F : Fd) (t : Sd) (r : List Ch) : kvsN n (F ++ [(t, r)]) = kvsN n F ++ [(t.d, .tup [runD r, .loc (tlx n F.length)])] := by
  simp [kvsN, List.zipIdx_append]
theorem kvs_ok {n : Nat} {F : Fd} (s : Sd) : keyOk (kvsN n F) s.d = true := by
  cases F with
  | nil => rfl
  | cons x F => rfl
theorem kvs_look {p : Pl} {n : Nat} {F : Fd} (h : FOk p F) {i : Nat} {s : Sd} {r : List Ch} (hi : F[i]? = some (s, r)) : lookD (kvsN n F) s.d = some (some (.tup [runD r, .loc (tlx n i)])) := by
  unfold lookD
  rw [kvs_ok, if_pos rfl]
  unfold dGetD
  rw [nk_sd]
  simp only [Option.some.injEq]
  have e : (kvsN n F).find? (fun q => decide (nkD 8 q.1 = some s.key)) = some (s.d, .tup [runD r, .loc (tlx n i)]) := by
    rw [List.find?_eq_some_iff_getElem]
    refine ⟨by simp [nk_sd], i, by rw [kvs_len]; exact (List.getElem?_eq_some_iff.mp hi).1, ?_, fun j hj => ?_⟩
    · have := kvs_get (n := n) hi
      exact (List.getElem?_eq_some_iff.mp this).2
    · have hl : j < F.length := Nat.lt_trans hj (List.getElem?_eq_some_iff.mp hi).1
      have e1 : F[j]? = some F[j] := List.getElem?_eq_getElem hl
      have e2 := (List.getElem?_eq_some_iff.mp (kvs_get (n := n) e1)).2
      rw [e2]
      simp only [nk_sd, Bool.not_eq_true', decide_eq_false_iff_not, Option.some.injEq]
      intro z
      have z := key_inj z
      have nd := h.nd
      have h1 : (F.map (·.1))[j]? = some s := by rw [List.getElem?_map, e1, Option.map_some, z]
      have h2 : (F.map (·.1))[i]? = some s := by rw [List.getElem?_map, hi]; rfl
      obtain ⟨q1, q2⟩ := List.getElem?_eq_some_iff.mp h1
      obtain ⟨q3, q4⟩ := List.getElem?_eq_some_iff.mp h2
      have := (List.getElem_inj nd).mp (q2.trans q4.symm)
      omega
  rw [e]
  rfl
theorem kvs_none {n : Nat} {F : Fd} {s : Sd} (h : s ∉ F.map (·.1)) : lookD (kvsN n F) s.d = some none := by
  unfold lookD
  rw [kvs_ok, if_pos rfl]
  unfold dGetD
  rw [nk_sd]
  simp only [Option.some.injEq, Option.map_eq_none_iff, List.find?_eq_none, decide_eq_true_eq]
  intro q hq z
  unfold kvsN at hq
  obtain ⟨y, hy, rfl⟩ := List.mem_map.mp hq
  rw [nk_sd] at z
  have z := key_inj (Option.some.inj z)
  obtain ⟨y1, y2⟩ := y
  have hm : y1 ∈ F := by
    have := List.mem_zipIdx_iff_getElem?.mp hy
    exact List.mem_of_getElem? this
  exact h (List.mem_map.mpr ⟨y1, hm, z⟩)
theorem look_get {kvs : List (D × D)} {k : D} {o : Option D} (h : lookD kvs k = some o) : dGetD kvs k = o ∧ keyOk kvs k = true := by
  unfold lookD at h
  split at h
  · rename_i hk
    exact ⟨Option.some.inj h, hk⟩
  · cases h
theorem put_none {kvs : List (D × D)} {k v : D} (h : lookD kvs k = some none) : dPutD kvs k v = kvs ++ [(k, v)] := by
  unfold dPutD
  rw [(look_get h).1]
  rfl
/-! ### steps -/
theorem append_ok {F : Nat → List D → Store → Out D} {a e : E} {ρ : Slots} {S : Store} {m : Nat} {xs : List D} {d : D} (ha : ev F a ρ S = .ok (.loc m) S) (he : ev F e ρ S = .ok d S) (hS : S[m]? = some (some (.ls xs))) (hz : xs.length ≤ 1000000) :
    exS F (.exp (.meth .append a [e])) ρ S = .nx ρ (S.set m (some (.ls (xs ++ [d])))) := by
  have h1 : rcv .append (.loc m) S = true := by simp only [rcv, hS]
  have h2 : mtD .append (.loc m) [d] S = some (.non, S.set m (some (.ls (xs ++ [d])))) := by simp only [mtD, hS, roomy, decide_eq_true hz, if_true]
  simp only [exS, ev, evs, ha, he, h1, h2, Out.bind_ok, Out.thenS_ok, if_true]
theorem dput_ok {F : Nat → List D → Store → Out D} {a i e : E} {ρ : Slots} {S S1 : Store} {v k : D} {n : Nat} {kvs : List (D × D)} (he : ev F e ρ S = .ok v S1) (ha : ev F a ρ S1 = .ok (.loc n) S1) (hi : ev F i ρ S1 = .ok k S1) (hS : S1[n]? = some (some (.dc kvs))) (hk : keyOk kvs k = true) (hz : kvs.length ≤ 1000000) :
    exS F (.set a i e) ρ S = .nx ρ (S1.set n (some (.dc (dPutD kvs k v)))) := by
  have hr : roomy kvs.length = true := decide_eq_true hz
  simp only [exS, setD, he, ha, hi, Out.thenS_ok, hS, hk, hr, Bool.and_self, if_true]
theorem view_loc {S : Store} {n : Nat} {kvs : List (D × D)} (h : S[n]? = some (some (.dc kvs))) : viewD S (.loc n) = some kvs := by
  simp only [viewD, h]
theorem din_ok {F : Nat → List D → Store → Out D} {a b : E} {ρ : Slots} {S : Store} {k d : D} {neg : Bool} {kvs : List (D × D)} {o : Option D} (ha : ev F a ρ S = .ok k S) (hb : ev F b ρ S = .ok d S) (hv : viewD S d = some kvs) (hl : lookD kvs k = some o) :
    ev F (.din neg a b) ρ S = .ok (.bl (neg != o.isSome)) S := by
  simp only [ev, ha, hb, Out.bind_ok, dinD, hv, hl, Option.map_some, lift_some]
theorem ix_dic {S : Store} {n : Nat} {kvs : List (D × D)} {k v : D} (h : S[n]? = some (some (.dc kvs))) (hl : lookD kvs k = some (some v)) : ixD (.loc n) k S = some v := by
  simp only [ixD, h, hl]
  rfl
theorem ix_dicF {S : Store} {ks vs : List D} {k v : D} (hl : lookD (ks.zip vs) k = some (some v)) : ixD (.dic ks vs) k S = some v := by
  simp only [ixD, hl]
  rfl
/-! ### the store while the net grows -/
structure NetAt (S0 : Store) (F : Fd) (tk : Nat → Sd → List D) (S : Store) : Prop where
  t0 : S.take S0.length = S0
  len : S.length = S0.length + 2 + F.length
  dc : S[S0.length + 1]? = some (some (.dc (kvsN S0.length F)))
  q : S[S0.length + 2]? = some (some (.ls (netK F)))
  ts : ∀ (i : Nat) (x : Sd × List Ch), F[i]? = some x → S[tlx S0.length i]? = some (some (.ls (tk i x.1)))
theorem tlx_ge (n i : Nat) : n ≤ tlx n i := by unfold tlx; split <;> omega
theorem tlx_ne1 (n i : Nat) : tlx n i ≠ n + 1 := by unfold tlx; split <;> omega
theorem tlx_ne2 (n i : Nat) : tlx n i ≠ n + 2 := by unfold tlx; split <;> omega
theorem tlx_inj {n i j : Nat} (h : tlx n i = tlx n j) : i = j := by unfold tlx at h; split at h <;> split at h <;> omega
theorem take_set {S : Store} {n m : Nat} (x : Option M) (h : n ≤ m) : (S.set m x).take n = S.take n := by
  apply List.ext_getElem?
  intro i
  by_cases hi : i < n
  · rw [List.getElem?_take_of_lt hi, List.getElem?_take_of_lt hi, List.getElem?_set_ne (by omega)]
  · rw [List.getElem?_eq_none (by simp; omega), List.getElem?_eq_none (by simp; omega)]
theorem NetAt.app {S0 : Store} {F : Fd} {tk tk' : Nat → Sd → List D} {S : Store} {i : Nat} {x : Sd × List Ch} {ds : List D} (h : NetAt S0 F tk S) (hF : F.length ≤ 2880) (hi : F[i]? = some x) (e1 : ∀ j s, j < F.length → j ≠ i → tk' j s = tk j s) (e2 : tk' i x.1 = ds) :
    NetAt S0 F tk' (S.set (tlx S0.length i) (some (.ls ds))) := by
  have hlt : i < F.length := (List.getElem?_eq_some_iff.mp hi).1
  refine ⟨by rw [take_set _ (tlx_ge _ _), h.t0], by rw [List.length_set, h.len], by rw [List.getElem?_set_ne (tlx_ne1 _ _), h.dc], by rw [List.getElem?_set_ne (tlx_ne2 _ _), h.q], fun j y hj => ?_⟩
  by_cases e : j = i
  · subst e
    rw [hi] at hj
    cases hj
    have hb : tlx S0.length j < S.length := by
      rw [h.len]
      unfold tlx
      split <;> omega
    rw [List.getElem?_set_self hb, e2]
  · rw [List.getElem?_set_ne (fun z => e (tlx_inj z).symm), h.ts j y hj, e1 j y.1 (List.getElem?_eq_some_iff.mp hj).1 e]
theorem NetAt.new {S0 : Store} {F : Fd} {tk tk' : Nat → Sd → List D} {S : Store} {t : Sd} {r : List Ch} (h : NetAt S0 F tk S) (hF : 0 < F.length) (e1 : ∀ j s, j < F.length → tk' j s = tk j s) (e2 : tk' F.length t = []) :
    NetAt S0 (F ++ [(t, r)]) tk' (((S ++ [some (M.ls [])]).set (S0.length + 1) (some (M.dc (kvsN S0.length F ++ [(t.d, D.tup [runD r, D.loc S.length])])))).set (S0.length + 2) (some (M.ls (netK F ++ [t.d])))) := by
  have hl := h.len
  have tl : tlx S0.length F.length = S.length := by
    unfold tlx
    rw [if_neg (by omega), hl]
  have big : ∀ (i : Nat) (x : Option M) (y : Option M), i ≠ S0.length + 1 → i ≠ S0.length + 2 → (((S ++ [some (M.ls [])]).set (S0.length + 1) x).set (S0.length + 2) y)[i]? = (S ++ [some (M.ls [])])[i]? := fun i x y h1 h2 => by
    rw [List.getElem?_set_ne (Ne.symm h2), List.getElem?_set_ne (Ne.symm h1)]
  refine ⟨?_, by simp [hl]; omega, ?_, ?_, fun j y hj => ?_⟩
  · rw [take_set _ (by omega), take_set _ (by omega), List.take_append_of_le_length (by omega), h.t0]
  · rw [List.getElem?_set_ne (by omega), List.getElem?_set_self (by simp; omega), kvs_app, tl]
  · rw [List.getElem?_set_self (by simp; omega)]
    simp [netK]
  · rw [big _ _ _ (tlx_ne1 _ _) (tlx_ne2 _ _)]
    by_cases e : j < F.length
    · rw [List.getElem?_append_left e] at hj
      have hb := (List.getElem?_eq_some_iff.mp (h.ts j y hj)).1
      rw [List.getElem?_append_left hb, h.ts j y hj, e1 j y.1 e]
    · rw [List.getElem?_append_right (by omega)] at hj
      have hz : j = F.length := by
        have := (List.getElem?_eq_some_iff.mp hj).1
        simp at this
        omega
      subst hz
      simp only [Nat.sub_self, List.getElem?_cons_zero, Option.some.injEq] at hj
      subst hj
      rw [tl, e2, List.getElem?_append_right (Nat.le_refl _)]
      simp
/-- how far the ticks are: i stands are through, of the next one cs -/
def tkN (p : Pl) (i : Nat) (cs : List Ch) (j : Nat) (s : Sd) : List D := if j < i then (cho p s).map (tickD p s) else if j = i then cs.map (tickD p s) else []
end Wt
set_option maxRecDepth 100000
set_option maxHeartbeats 1000000
/-! The net of the program is the plain one. -/
namespace Wt
open PySem L2
theorem pr_lenQ {S : Store} {n : Nat} {xs : List D} (h : S[n]? = some (some (.ls xs))) : prD .len [.loc n] S = some (.int xs.length) := by
  simp only [prD, h]
theorem grow_ok {Fn : Nat → List D → Store → Out D} {p : Pl} {S0 S : Store} {F : Fd} (hp : p.Ok) (hF : FOk p F) {i : Nat} {s : Sd} {r cs : List Ch} (hi : F[i]? = some (s, r)) {c : Ch} (h : NetAt S0 F (tkN p i cs) S) {ρ : Slots} {vf vt vq : Nat} {er : E}
    (h1 : ρ[vf]? = some (some (.loc (S0.length + 1)))) (h2 : ρ[vt]? = some (some (s.nxt p c).d)) (h3 : ρ[vq]? = some (some (.loc (S0.length + 2)))) (h4 : ev Fn er ρ S = .ok (runD (r ++ [c])) S) :
    ∃ S', exS Fn (.ite (.din true (.var vt) (.var vf)) [.set (.var vf) (.var vt) (.tup [er, .new []]), .exp (.meth .append (.var vq) [.var vt])] []) ρ S = .nx ρ S' ∧ NetAt S0 (addOne p s r F c) (tkN p i cs) S' := by
  have hl := hF.len hp
  have hi0 : i < F.length := (List.getElem?_eq_some_iff.mp hi).1
  have v1 : ∀ T, ev Fn (.var vf) ρ T = .ok (.loc (S0.length + 1)) T := fun T => by simp only [ev, h1]
  have v2 : ∀ T, ev Fn (.var vt) ρ T = .ok (s.nxt p c).d T := fun T => by simp only [ev, h2]
  have v3 : ∀ T, ev Fn (.var vq) ρ T = .ok (.loc (S0.length + 2)) T := fun T => by simp only [ev, h3]
  by_cases hm : s.nxt p c ∈ F.map (·.1)
  · refine ⟨S, ?_, by unfold addOne; rw [if_pos hm]; exact h⟩
    obtain ⟨y, hy, e⟩ := List.mem_map.mp hm
    obtain ⟨j, hj⟩ := List.mem_iff_getElem?.mp hy
    obtain ⟨y1, y2⟩ := y
    simp only at e
    rw [e] at hj
    exact ite_no (din_ok (v2 S) (v1 S) (view_loc h.dc) (kvs_look hF hj))
  · have hk := kvs_none (n := S0.length) hm
    have e1 := din_ok (neg := true) (v2 S) (v1 S) (view_loc h.dc) hk
    have e2 : ev Fn (.tup [er, .new []]) ρ S = .ok (.tup [runD (r ++ [c]), .loc S.length]) (S ++ [some (.ls [])]) := by simp only [ev, evs, h4, Out.bind_ok]
    have hd : (S ++ [some (M.ls [])])[S0.length + 1]? = some (some (.dc (kvsN S0.length F))) := by rw [List.getElem?_append_left (by rw [h.len]; omega)]; exact h.dc
    have e3 := dput_ok e2 (v1 _) (v2 _) hd (look_get hk).2 (by rw [kvs_len]; omega)
    rw [put_none hk] at e3
    have hq : ((S ++ [some (M.ls [])]).set (S0.length + 1) (some (.dc (kvsN S0.length F ++ [((s.nxt p c).d, D.tup [runD (r ++ [c]), D.loc S.length])]))))[S0.length + 2]? = some (some (.ls (netK F))) := by
      rw [List.getElem?_set_ne (by omega), List.getElem?_append_left (by rw [h.len]; omega)]
      exact h.q
    have e4 := append_ok (F := Fn) (v3 _) (v2 _) hq (by unfold netK; rw [List.length_map]; omega)
    refine ⟨_, ?_, by
      unfold addOne
      rw [if_neg hm]
      exact h.new (tk' := tkN p i cs) (by omega) (fun _ _ _ => rfl) (by unfold tkN; rw [if_neg (by omega), if_neg (by omega)])⟩
    have e5 : exL Fn [.set (.var vf) (.var vt) (.tup [er, .new []]), .exp (.meth .append (.var vq) [.var vt])] ρ S = .nx ρ _ := ex_step e3 (ex_step e4 (exL_n _ _ _))
    simp only [exS, e1, asB_B, Out.thenS_ok]
    exact e5
def netB : List Wt.S := [
   .asg (.tup [(.nm 9), (.nm 10)]) (.call n_passed [.var 0, .var 5, .var 6]),
   .exp (.meth .append (.var 8) [.tup [.var 6, .var 9, .var 10]]),
   .ite (.din true (.var 9) (.var 2)) [
    .set (.var 2) (.var 9) (.tup [.op .Add (.var 7) (.tup [.var 6]), .new []]),
    .exp (.meth .append (.var 3) [.var 9])] []]
def netR (p : Pl) (n : Nat) (a1 a4 : D) (s : Sd) (x6 : Option D) (r : List Ch) (i : Nat) (x9 x10 : Option D) : Slots := [some p.d, some a1, some (.loc (n + 1)), some (.loc (n + 2)), some a4, some s.d, x6, some (runD r), some (.loc (tlx n i)), x9, x10]
theorem tk_snoc {p : Pl} {i : Nat} {cs : List Ch} {s : Sd} (c : Ch) : tkN p i cs i s ++ [tickD p s c] = tkN p i (cs ++ [c]) i s := by
  simp [tkN]
theorem run_snoc (r : List Ch) (c : Ch) (h : r.length ≤ 2880) : opD .Add (runD r) (.tup [chD c]) = some (runD (r ++ [c])) := by
  unfold runD
  rw [op_addt _ _ (by simp; omega)]
  simp
theorem net_step (k : Nat) {p : Pl} (hp : p.Ok) {S0 S : Store} {F : Fd} (hF : FOk p F) {i : Nat} {s : Sd} {r cs : List Ch} (hi : F[i]? = some (s, r)) {c : Ch} (h : NetAt S0 F (tkN p i cs) S) (hcs : cs.length ≤ 100) (a1 a4 : D) (x9 x10 : Option D) :
    ∃ (S' : Store) (y9 y10 : Option D), exL (callF tab (k + 2)) netB (netR p S0.length a1 a4 s (some (chD c)) r i x9 x10) S = .nx (netR p S0.length a1 a4 s (some (chD c)) r i y9 y10) S' ∧ NetAt S0 (addOne p s r F c) (tkN p i (cs ++ [c])) S' := by
  have hl := hF.len hp
  have hs := hF.ok _ (List.mem_of_getElem? hi)
  have hi0 : i < F.length := (List.getElem?_eq_some_iff.mp hi).1
  have hr : r.length ≤ 2880 := by
    have := hF.rl i _ hi
    simp only at this
    omega
  have e1 : callF tab (k + 2) n_passed [p.d, s.d, chD c] S = .ok (.tup [(s.nxt p c).d, wordsD (s.wds p c)]) S := passed_ok k hs (c.1 : Int) c.2 S
  have s1 : exS (callF tab (k + 2)) (.asg (.tup [(.nm 9), (.nm 10)]) (.call n_passed [.var 0, .var 5, .var 6])) (netR p S0.length a1 a4 s (some (chD c)) r i x9 x10) S = .nx (netR p S0.length a1 a4 s (some (chD c)) r i (some (s.nxt p c).d) (some (wordsD (s.wds p c)))) S := by
    simp [netR, exL_n, exL_c, seq_nx, seq_rt, seq_ex, seq_bk, seq_ct, fl_non, fl_bl, fl_int, fl_str, exS, ev, evs, ix_t, ix_l, ix_s, atI_0, atI_1, atI_2, atI_3, atI_4, atI_5, atI_6, cm_lt, cm_le, cm_gt, cm_ge, cm_eqi, cm_nei, cm_eqs, cm_in2, op_addi, op_subi, op_muli, op_addl, op_addt, op_bl, op_mul0, op_x1, op_x0, op_mod, op_div, pr_int, pr_intb, pr_max, pr_min, pr_abs, bT_n, bT_t, bTs_n, bTs_c, sP_n, sP_c, isNon, iteB, thB, bindB, lift_B, asB_B, setD, e1]
  have hS := h.ts i _ hi
  have s2 := append_ok (F := callF tab (k + 2)) (a := .var 8) (e := .tup [.var 6, .var 9, .var 10]) (ρ := netR p S0.length a1 a4 s (some (chD c)) r i (some (s.nxt p c).d) (some (wordsD (s.wds p c)))) (d := tickD p s c) (by simp [netR, ev]) (by simp [netR, ev, evs, tickD]) hS (by
    unfold tkN
    rw [if_neg (by omega), if_pos rfl, List.length_map]
    omega)
  simp only [tk_snoc] at s2
  have h2 := h.app hl hi (tk' := tkN p i (cs ++ [c])) (fun j t hj hne => by simp only [tkN, if_neg hne]) rfl
  obtain ⟨S', s3, h3⟩ := grow_ok (Fn := callF tab (k + 2)) hp hF hi (c := c) h2 (ρ := netR p S0.length a1 a4 s (some (chD c)) r i (some (s.nxt p c).d) (some (wordsD (s.wds p c)))) (vf := 2) (vt := 9) (vq := 3) (er := .op .Add (.var 7) (.tup [.var 6])) (by simp [netR]) (by simp [netR]) (by simp [netR]) (by
    simp [netR, ev, evs, run_snoc r c hr])
  exact ⟨S', _, _, ex_step s1 (ex_step s2 (ex_step s3 (exL_n _ _ _))), h3⟩
theorem net_for (k : Nat) {p : Pl} (hp : p.Ok) {S0 : Store} {i : Nat} {s : Sd} {r : List Ch} (a1 a4 : D) : ∀ (cs2 : List Ch) {cs1 : List Ch} {F : Fd} {S : Store} (x6 x9 x10 : Option D), cs1.length + cs2.length ≤ 100 → (∀ c ∈ cs2, c ∈ cho p s) → FOk p F → F[i]? = some (s, r) → NetAt S0 F (tkN p i cs1) S →
    ∃ (S' : Store) (y6 y9 y10 : Option D), forL (exL (callF tab (k + 2)) netB) (.nm 6) (cs2.map chD) (netR p S0.length a1 a4 s x6 r i x9 x10) S = .nx (netR p S0.length a1 a4 s y6 r i y9 y10) S' ∧ NetAt S0 (addAll p s r F cs2) (tkN p i (cs1 ++ cs2)) S'
  | [], cs1, F, S, x6, x9, x10, _, _, _, _, h => ⟨S, x6, x9, x10, rfl, by rw [List.append_nil]; exact h⟩
  | c :: cs2, cs1, F, S, x6, x9, x10, hl, hc, hF, hi, h => by
    rw [List.length_cons] at hl
    obtain ⟨S1, y9, y10, e1, h1⟩ := net_step k hp hF hi (c := c) h (by omega) a1 a4 x9 x10
    obtain ⟨S2, z6, z9, z10, e2, h2⟩ := net_for k hp a1 a4 cs2 (some (chD c)) y9 y10 (by rw [List.length_append, List.length_singleton]; omega) (fun d hd => hc d (.tail _ hd)) (hF.one hp hi (hc c (.head _))) (addOne_get hi) h1
    refine ⟨S2, z6, z9, z10, ?_, by simpa [addAll] using h2⟩
    rw [List.map_cons]
    unfold forL
    have b : bindT (.nm 6) (chD c) (netR p S0.length a1 a4 s x6 r i x9 x10) = some (netR p S0.length a1 a4 s (some (chD c)) r i x9 x10) := rfl
    simp only [b, e1]
    exact e2
theorem NetAt.congr {S0 : Store} {F : Fd} {tk tk' : Nat → Sd → List D} {S : Store} (h : NetAt S0 F tk S) (e : ∀ (i : Nat) (x : Sd × List Ch), F[i]? = some x → tk' i x.1 = tk i x.1) : NetAt S0 F tk' S := ⟨h.t0, h.len, h.dc, h.q, fun i x hi => by rw [e i x hi]; exact h.ts i x hi⟩
def netW : List Wt.S := [
  .asg (.nm 5) (.ix (.var 3) (.var 4)),
  .asg (.nm 4) (.op .Add (.var 4) (.k (.int 1))),
  .asg (.tup [(.nm 7), (.nm 8)]) (.ix (.var 2) (.var 5)),
  .for_ (.nm 6) .dat [.call n_choices_of [.var 0, .var 5]] netB]
theorem cho_len {p : Pl} (hp : p.Ok) (s : Sd) : (cho p s).length ≤ 10 := by
  have h := (chN_le hp s).2
  have e : (chL (chN p s)).length = (cho p s).length := by rw [chL_chs, List.length_map]; rfl
  have q : ∀ n, (chL n).length = 2 * n := by
    intro n
    induction n with
    | zero => rfl
    | succ n ih =>
      unfold chL at ih ⊢
      rw [List.range_succ, List.flatMap_append, List.length_append, ih]
      simp
      omega
  rw [← e, q]
  omega
def netQ (p : Pl) (n : Nat) (a1 : D) (i : Nat) (x5 x6 x7 x8 x9 x10 : Option D) : Slots := [some p.d, some a1, some (.loc (n + 1)), some (.loc (n + 2)), some (.int (i : Int)), x5, x6, x7, x8, x9, x10]
theorem netK_get {F : Fd} {i : Nat} {s : Sd} {r : List Ch} (h : F[i]? = some (s, r)) : (netK F)[i]? = some s.d := by simp [netK, h]
theorem net_turn (k : Nat) {p : Pl} (hp : p.Ok) {S0 S : Store} {F : Fd} (hF : FOk p F) {i : Nat} {s : Sd} {r : List Ch} (hi : F[i]? = some (s, r)) (h : NetAt S0 F (tkN p i []) S) (a1 : D) (x5 x6 x7 x8 x9 x10 : Option D) :
    ∃ (S' : Store) (y5 y6 y7 y8 y9 y10 : Option D), exL (callF tab (k + 2)) netW (netQ p S0.length a1 i x5 x6 x7 x8 x9 x10) S = .nx (netQ p S0.length a1 (i + 1) y5 y6 y7 y8 y9 y10) S' ∧ NetAt S0 (addAll p s r F (cho p s)) (tkN p (i + 1) []) S' := by
  have hi0 : i < F.length := (List.getElem?_eq_some_iff.mp hi).1
  have e1 : ixD (.loc (S0.length + 2)) (.int (i : Int)) S = some s.d := by rw [ix_loc h.q, atI_nat, netK_get hi]
  have e2 : ixD (.loc (S0.length + 1)) s.d S = some (.tup [runD r, .loc (tlx S0.length i)]) := ix_dic h.dc (kvs_look hF hi)
  have e3 : callF tab (k + 2) n_choices_of [p.d, s.d] S = .ok (.lst ((cho p s).map chD)) S := by
    have := choices_of_ok (k + 1) hp s S
    rw [chL_chs] at this
    exact this
  obtain ⟨S', y6, y9, y10, e4, h4⟩ := net_for k hp a1 (.int ((i : Int) + 1)) (cho p s) x6 x9 x10 (by have := cho_len hp s; simp only [List.length_nil]; omega) (fun c hc => hc) hF hi h
  refine ⟨S', some s.d, y6, some (runD r), some (.loc (tlx S0.length i)), y9, y10, ?_, ?_⟩
  · have e5 : exS (callF tab (k + 2)) (.for_ (.nm 6) .dat [.call n_choices_of [.var 0, .var 5]] netB) (netR p S0.length a1 (.int ((i : Int) + 1)) s x6 r i x9 x10) S = .nx (netR p S0.length a1 (.int ((i : Int) + 1)) s y6 r i y9 y10) S' :=
      ex_for (ds := [.lst ((cho p s).map chD)]) (by simp [netR, evs, ev, e3]) rfl e4
    have e6 : ((i : Int) + 1) = ((i + 1 : Nat) : Int) := rfl
    have q : ∀ (b : Wt.S), exS (callF tab (k + 2)) b (netR p S0.length a1 (.int ((i : Int) + 1)) s x6 r i x9 x10) S = .nx (netR p S0.length a1 (.int ((i : Int) + 1)) s y6 r i y9 y10) S' →
        exL (callF tab (k + 2)) [.asg (.nm 5) (.ix (.var 3) (.var 4)), .asg (.nm 4) (.op .Add (.var 4) (.k (.int 1))), .asg (.tup [(.nm 7), (.nm 8)]) (.ix (.var 2) (.var 5)), b] (netQ p S0.length a1 i x5 x6 x7 x8 x9 x10) S = .nx (netR p S0.length a1 (.int ((i : Int) + 1)) s y6 r i y9 y10) S' := by
      intro b hb
      simp only [netR] at hb ⊢
      simp [netQ, exL_n, exL_c, seq_nx, seq_rt, seq_ex, seq_bk, seq_ct, fl_non, fl_bl, fl_int, fl_str, exS, ev, evs, ix_t, ix_l, ix_s, atI_0, atI_1, atI_2, atI_3, atI_4, atI_5, atI_6, cm_lt, cm_le, cm_gt, cm_ge, cm_eqi, cm_nei, cm_eqs, cm_in2, op_addi, op_subi, op_muli, op_addl, op_addt, op_bl, op_mul0, op_x1, op_x0, op_mod, op_div, pr_int, pr_intb, pr_max, pr_min, pr_abs, bT_n, bT_t, bTs_n, bTs_c, sP_n, sP_c, isNon, iteB, thB, bindB, lift_B, asB_B, setD, e1, e2, hb]
    exact q _ e5
  · have hx := (hF.all hp (cho p s) hi fun _ h => h).2
    refine h4.congr fun j x hj => ?_
    unfold tkN
    by_cases hj1 : j < i
    · rw [if_pos (by omega), if_pos hj1]
    · by_cases hj2 : j = i
      · subst hj2
        rw [hx] at hj
        cases hj
        rw [if_pos (by omega), if_neg (by omega), if_pos rfl, List.nil_append]
      · rw [if_neg (by omega), if_neg hj1, if_neg hj2]
        split <;> rfl
theorem net_whl (k : Nat) {p : Pl} (hp : p.Ok) {S0 : Store} (a1 : D) : ∀ (m i : Nat) {F : Fd} {S : Store} (x5 x6 x7 x8 x9 x10 : Option D) (fu : Nat), m < fu → 2881 ≤ m + i → i ≤ F.length → FOk p F → NetAt S0 F (tkN p i []) S →
    ∃ (S' : Store) (j : Nat) (y5 y6 y7 y8 y9 y10 : Option D), whlL (ev (callF tab (k + 2)) (.cmp .Lt (.var 4) (.prim .len [.var 3]))) (exL (callF tab (k + 2)) netW) fu (netQ p S0.length a1 i x5 x6 x7 x8 x9 x10) S = .nx (netQ p S0.length a1 j y5 y6 y7 y8 y9 y10) S' ∧ NetAt S0 (bfs p m i F) (tkN p (bfs p m i F).length []) S' := by
  intro m
  induction m with
  | zero =>
    intro i F S x5 x6 x7 x8 x9 x10 fu hm hi hle hF h
    have := hF.len hp
    omega
  | succ m ih =>
    intro i F S x5 x6 x7 x8 x9 x10 fu hm hi hle hF h
    have hl := hF.len hp
    obtain ⟨fu, rfl⟩ : ∃ f, fu = f + 1 := ⟨fu - 1, by omega⟩
    have ec : ev (callF tab (k + 2)) (.cmp .Lt (.var 4) (.prim .len [.var 3])) (netQ p S0.length a1 i x5 x6 x7 x8 x9 x10) S = .ok (.bl (decide ((i : Int) < (F.length : Int)))) S := by
      have := pr_lenQ h.q
      simp [netQ, exL_n, exL_c, seq_nx, seq_rt, seq_ex, seq_bk, seq_ct, fl_non, fl_bl, fl_int, fl_str, exS, ev, evs, ix_t, ix_l, ix_s, atI_0, atI_1, atI_2, atI_3, atI_4, atI_5, atI_6, cm_lt, cm_le, cm_gt, cm_ge, cm_eqi, cm_nei, cm_eqs, cm_in2, op_addi, op_subi, op_muli, op_addl, op_addt, op_bl, op_mul0, op_x1, op_x0, op_mod, op_div, pr_int, pr_intb, pr_max, pr_min, pr_abs, bT_n, bT_t, bTs_n, bTs_c, sP_n, sP_c, isNon, iteB, thB, bindB, lift_B, asB_B, setD, this, netK]
    unfold whlL
    rw [ec]
    simp only [asB_B, Out.thenS_ok]
    by_cases hlt : i < F.length
    · have hi1 : F[i]? = some (F[i].1, F[i].2) := List.getElem?_eq_getElem hlt
      obtain ⟨S1, y5, y6, y7, y8, y9, y10, e1, h1⟩ := net_turn k hp hF hi1 h a1 x5 x6 x7 x8 x9 x10
      have hA := hF.all hp (cho p F[i].1) hi1 fun _ h => h
      obtain ⟨S2, j, z5, z6, z7, z8, z9, z10, e2, h2⟩ := ih (i + 1) y5 y6 y7 y8 y9 y10 fu (by omega) (by omega) (by have := (List.getElem?_eq_some_iff.mp hA.2).1; omega) hA.1 h1
      refine ⟨S2, j, z5, z6, z7, z8, z9, z10, ?_, ?_⟩
      · rw [if_pos (decide_eq_true (by omega)), e1]
        exact e2
      · unfold bfs
        simp only [hi1]
        exact h2
    · have hz : F[i]? = none := List.getElem?_eq_none (by omega)
      refine ⟨S, i, x5, x6, x7, x8, x9, x10, ?_, ?_⟩
      · rw [if_neg (by rw [decide_eq_true_eq]; omega)]
      · unfold bfs
        simp only [hz]
        have : F.length = i := by omega
        rw [this]
        exact h
end Wt
set_option maxRecDepth 100000
set_option maxHeartbeats 1000000
/-! What is handed back is frozen. -/
namespace Wt
open PySem L2
mutual
theorem fit_res (f : Nat → D) : ∀ (n : Nat) (d : D), D.fit n d = true → resW f d = d
  | _, .non, _ => by simp only [resW]
  | _, .bl _, _ => by simp only [resW]
  | _, .int _, _ => by simp only [resW]
  | _, .str _, _ => by simp only [resW]
  | 0, .lst _, h => by simp [D.fit] at h
  | 0, .tup _, h => by simp [D.fit] at h
  | n + 1, .lst xs, h => by
    simp only [D.fit, Bool.and_eq_true] at h
    simp only [resW, fitAll_res f n xs h.2]
  | n + 1, .tup xs, h => by
    simp only [D.fit, Bool.and_eq_true] at h
    simp only [resW, fitAll_res f n xs h.2]
  | _, .scr _, h => by simp [D.fit] at h
  | _, .loc _, h => by simp [D.fit] at h
  | _, .dic _ _, h => by simp [D.fit] at h
theorem fitAll_res (f : Nat → D) : ∀ (n : Nat) (ds : List D), D.fitAll n ds = true → resWs f ds = ds
  | _, [], _ => by simp only [resWs]
  | n, d :: ds, h => by
    simp only [D.fitAll, Bool.and_eq_true] at h
    simp only [resWs, fit_res f n d h.1, fitAll_res f n ds h.2]
end
theorem resWs_map (f : Nat → D) : ∀ ds : List D, resWs f ds = ds.map (resW f)
  | [] => by simp only [resWs, List.map_nil]
  | d :: ds => by simp only [resWs, List.map_cons, resWs_map f ds]
theorem fit_chD (c : Ch) (n : Nat) : D.fit (n + 1) (chD c) = true := rfl
theorem fit_sdD (s : Sd) (n : Nat) : D.fit (n + 1) s.d = true := by simp [Sd.d, D.fit, D.fitAll]
theorem fit_tup {n : Nat} {ds : List D} (h : ds.length ≤ 1000000) (h2 : ∀ d ∈ ds, D.fit n d = true) : D.fit (n + 1) (.tup ds) = true := by
  simp only [D.fit, Bool.and_eq_true, decide_eq_true_eq]
  exact ⟨h, fitAll_of h2⟩
theorem fit_lst {n : Nat} {ds : List D} (h : ds.length ≤ 1000000) (h2 : ∀ d ∈ ds, D.fit n d = true) : D.fit (n + 1) (.lst ds) = true := by
  simp only [D.fit, Bool.and_eq_true, decide_eq_true_eq]
  exact ⟨h, fitAll_of h2⟩
theorem fit_run {r : List Ch} (h : r.length ≤ 1000000) (n : Nat) : D.fit (n + 2) (runD r) = true := fit_tup (by simpa using h) fun d hd => by
  obtain ⟨c, _, rfl⟩ := List.mem_map.mp hd
  exact fit_chD c n
theorem okW_wds (p : Pl) (s : Sd) (c : Ch) : okW (s.wds p c) := (okW_word p s c.2 (c.1 : Int)).sort
theorem fit_tick (p : Pl) (s : Sd) (c : Ch) (n : Nat) : D.fit (n + 2) (tickD p s c) = true := fit_tup (by simp) fun d hd => by
  simp only [List.mem_cons, List.not_mem_nil, or_false] at hd
  rcases hd with rfl | rfl | rfl
  · exact fit_chD c n
  · exact fit_sdD _ n
  · exact (okW_wds p s c).fit n
theorem fit_ticks {p : Pl} (hp : p.Ok) (s : Sd) (n : Nat) : D.fit (n + 3) (.lst ((cho p s).map (tickD p s))) = true := fit_lst (by rw [List.length_map]; have := cho_len hp s; omega) fun d hd => by
  obtain ⟨c, _, rfl⟩ := List.mem_map.mp hd
  exact fit_tick p s c n
theorem FOk.short {p : Pl} (hp : p.Ok) {F : Fd} (h : FOk p F) {x : Sd × List Ch} (hx : x ∈ F) : x.2.length ≤ 2880 := by
  obtain ⟨i, hi⟩ := List.mem_iff_getElem?.mp hx
  have h1 := h.rl i x hi
  have h2 := h.len hp
  have h3 := (List.getElem?_eq_some_iff.mp hi).1
  omega
theorem low_netD {p : Pl} (hp : p.Ok) {F : Fd} (h : FOk p F) (n : Nat) : D.low n (netD p F) = true := by
  simp only [netD, D.low, Bool.and_eq_true]
  refine ⟨fitAll_low n 1 _ (fitAll_of fun d hd => ?_), fitAll_low n 4 _ (fitAll_of fun d hd => ?_)⟩
  · obtain ⟨x, _, rfl⟩ := List.mem_map.mp hd
    exact fit_sdD _ 0
  · obtain ⟨x, hx, rfl⟩ := List.mem_map.mp hd
    refine fit_tup (by simp) fun d hd => ?_
    simp only [List.mem_cons, List.not_mem_nil, or_false] at hd
    rcases hd with rfl | rfl
    · exact fit_run (by have := h.short hp hx; omega) 1
    · exact fit_ticks hp _ 0
theorem net_res {p : Pl} (hp : p.Ok) {S0 S : Store} {F : Fd} (hF : FOk p F) {i : Nat} (hi : F.length ≤ i) (h : NetAt S0 F (tkN p i []) S) : resW (resN S S0.length 8) (.loc (S0.length + 1)) = netD p F := by
  have e1 : ∀ k j x, F[j]? = some x → resN S S0.length (k + 1) (tlx S0.length j) = .lst ((cho p x.1).map (tickD p x.1)) := by
    intro k j x hj
    have hlt : j < F.length := (List.getElem?_eq_some_iff.mp hj).1
    unfold resN
    rw [if_neg (by have := tlx_ge S0.length j; omega), h.ts j x hj]
    show resW _ (.lst (tkN p i [] j x.1)) = _
    have : tkN p i [] j x.1 = (cho p x.1).map (tickD p x.1) := by
      unfold tkN
      rw [if_pos (by omega)]
    rw [this]
    exact fit_res _ 3 _ (fit_ticks hp _ 0)
  show resN S S0.length 8 (S0.length + 1) = _
  unfold resN
  rw [if_neg (by omega), h.dc]
  show resW _ (.dic ((kvsN S0.length F).map (·.1)) ((kvsN S0.length F).map (·.2))) = _
  simp only [resW, netD, D.dic.injEq]
  constructor
  · apply List.ext_getElem?
    intro j
    by_cases hj : j < F.length
    · have e : F[j]? = some F[j] := List.getElem?_eq_getElem hj
      rw [List.getElem?_map, kvs_get e]
      simp [netK, e]
    · rw [List.getElem?_eq_none (by simp [kvs_len]; omega), List.getElem?_eq_none (by simp [netK]; omega)]
  · rw [resWs_map]
    apply List.ext_getElem?
    intro j
    by_cases hj : j < F.length
    · have e : F[j]? = some F[j] := List.getElem?_eq_getElem hj
      have hr : F[j].2.length ≤ 2880 := hF.short hp (List.mem_of_getElem? e)
      rw [List.getElem?_map, List.getElem?_map, kvs_get e]
      simp only [Option.map_some, resW, resWs, netV, List.getElem?_map, e]
      rw [fit_res _ 2 _ (fit_run (by omega) 0), e1 6 j _ e]
    · rw [List.getElem?_eq_none (by simp [kvs_len]; omega), List.getElem?_eq_none (by simp [netV]; omega)]
theorem leave_rz {S0 S : Store} {d e : D} (h0 : LowS S0) (ht : S.take S0.length = S0) (he : resW (resN S S0.length 8) d = e) (hl : D.low S0.length e = true) : leave S0.length (.rz d S) = .ok e S0 := by
  have hn : S0.length ≤ S.length := by
    have := congrArg List.length ht
    rw [List.length_take] at this
    omega
  have e1 : (killAb S0.length S).take S0.length = S0 := by
    unfold killAb
    rw [ht, List.take_left]
  have e2 : trim S0.length (killAb S0.length S) = some S0 := by
    unfold trim
    split
    · rename_i hq
      have e3 : killAb S0.length S = S0 := (List.take_of_length_le hq).symm.trans e1
      rw [e3]
    · rw [e1, if_pos (h0 _)]
  show (match (if (decide ((killAb S0.length S).length ≤ S0.length) || (resW (resN S S0.length 8) d).low S0.length) = true then trim S0.length (killAb S0.length S) else none) with
    | some T => Out.ok (resW (resN S S0.length 8) d) T
    | none => .ok (resW (resN S S0.length 8) d) (killAb S0.length S)) = _
  rw [he, hl, Bool.or_true, if_pos rfl, e2]
theorem dic1_ok {F : Nat → List D → Store → Out D} {a b : E} {ρ : Slots} {S S1 S2 : Store} {x y : D} {q : NestedKey} (ha : ev F a ρ S = .ok x S1) (hb : ev F b ρ S1 = .ok y S2) (ht : ∃ ks, x = .tup ks) (hk : nkD 8 x = some q) :
    ev F (.dic1 a b) ρ S = .ok (.loc S2.length) (S2 ++ [some (.dc [(x, y)])]) := by
  obtain ⟨ks, rfl⟩ := ht
  simp only [ev, ha, hb, Out.bind_ok, hk]
def netS1 (p : Pl) (S0 : Store) : Store := S0 ++ [some (.ls [])] ++ [some (.dc [((begP p).d, .tup [.tup [], .loc S0.length])])] ++ [some (.ls [(begP p).d])]
theorem net_at0 (p : Pl) (S0 : Store) : NetAt S0 [(begP p, [])] (tkN p 0 []) (netS1 p S0) := by
  have hl : (netS1 p S0).length = S0.length + 3 := by simp [netS1]
  have g : ∀ j, (netS1 p S0)[S0.length + j]? = ([some (.ls []), some (.dc [((begP p).d, .tup [.tup [], .loc S0.length])]), some (.ls [(begP p).d])] : Store)[j]? := fun j => by
    unfold netS1
    rw [List.append_assoc, List.append_assoc, List.getElem?_append_right (by omega)]
    congr 1
    omega
  refine ⟨by simp [netS1, List.append_assoc], by rw [hl]; rfl, by rw [g 1]; rfl, by rw [g 2]; rfl, fun i x hx => ?_⟩
  have hi : i = 0 := by
    have := (List.getElem?_eq_some_iff.mp hx).1
    simp at this
    exact this
  subst hi
  have := g 0
  simp only [Nat.add_zero] at this
  show (netS1 p S0)[S0.length]? = _
  rw [this]
  rfl
theorem net_of_ok (k : Nat) {p : Pl} (hp : p.Ok) {S0 : Store} (hS : LowS S0) : callF tab (k + 3) n_net_of [p.d] S0 = .ok (netD p (netF p)) S0 := by
  rw [u_net_of]
  have e0 : callF tab (k + 2) n_begin_of [p.d] S0 = .ok (begP p).d S0 := begin_of_ok (k + 1) p S0
  obtain ⟨S2, j, y5, y6, y7, y8, y9, y10, e1, h1⟩ := net_whl k hp (S0 := S0) (begP p).d 2881 0 none none none none none none fuel (by decide) (by omega) (by simp) (FOk.beg hp) (net_at0 p S0)
  have hF := netF_ok hp
  have q : ∀ (c : E) (b : List Wt.S), whlL (ev (callF tab (k + 2)) c) (exL (callF tab (k + 2)) b) fuel (netQ p S0.length (begP p).d 0 none none none none none none) (netS1 p S0) = .nx (netQ p S0.length (begP p).d j y5 y6 y7 y8 y9 y10) S2 →
      exL (callF tab (k + 2)) [.asg (.nm 1) (.call n_begin_of [.var 0]), .par [2, 3, 4] [.dic1 (.var 1) (.tup [.tup [], .new []]), .new [.var 1], .k (.int 0)], .whl c b, .retz (.var 2)] [some p.d, none, none, none, none, none, none, none, none, none, none] S0 = .rz (.loc (S0.length + 1)) S2 := by
    intro c b hb
    have s1 : exS (callF tab (k + 2)) (.asg (.nm 1) (.call n_begin_of [.var 0])) [some p.d, none, none, none, none, none, none, none, none, none, none] S0 = .nx [some p.d, some (begP p).d, none, none, none, none, none, none, none, none, none] S0 := by
      simp [exL_n, exL_c, seq_nx, seq_rt, seq_ex, seq_bk, seq_ct, fl_non, fl_bl, fl_int, fl_str, exS, ev, evs, ix_t, ix_l, ix_s, atI_0, atI_1, atI_2, atI_3, atI_4, atI_5, atI_6, cm_lt, cm_le, cm_gt, cm_ge, cm_eqi, cm_nei, cm_eqs, cm_in2, op_addi, op_subi, op_muli, op_addl, op_addt, op_bl, op_mul0, op_x1, op_x0, op_mod, op_div, pr_int, pr_intb, pr_max, pr_min, pr_abs, bT_n, bT_t, bTs_n, bTs_c, sP_n, sP_c, isNon, iteB, thB, bindB, lift_B, asB_B, setD, e0]
    have s2 : exS (callF tab (k + 2)) (.par [2, 3, 4] [.dic1 (.var 1) (.tup [.tup [], .new []]), .new [.var 1], .k (.int 0)]) [some p.d, some (begP p).d, none, none, none, none, none, none, none, none, none] S0 = .nx (netQ p S0.length (begP p).d 0 none none none none none none) (netS1 p S0) := by
      have hd := dic1_ok (F := callF tab (k + 2)) (a := .var 1) (b := .tup [.tup [], .new []]) (ρ := [some p.d, some (begP p).d, none, none, none, none, none, none, none, none, none]) (S := S0) (S1 := S0) (S2 := S0 ++ [some (.ls [])]) (x := (begP p).d) (y := .tup [.tup [], .loc S0.length]) (q := (begP p).key) (by simp [ev]) (by simp [ev, evs]) ⟨_, rfl⟩ (nk_sd _)
      simp [exS, evs, hd, sP_c, sP_n, netQ, netS1]
      simp [ev, evs]
      rfl
    have s3 : exS (callF tab (k + 2)) (.whl c b) (netQ p S0.length (begP p).d 0 none none none none none none) (netS1 p S0) = .nx (netQ p S0.length (begP p).d j y5 y6 y7 y8 y9 y10) S2 := hb
    refine ex_step s1 (ex_step s2 (ex_step s3 ?_))
    simp [netQ, exL_c, exS, ev, OutS.seq]
  have e2 := q _ _ e1
  refine (congrArg (leave S0.length) e2).trans (leave_rz hS h1.t0 (net_res hp hF (Nat.le_refl _) h1) (low_netD hp hF _))
/-! ### the law's walk -/
def wayB : List Wt.S := [
   .asg (.tup [(.nm 7), (.nm 8)]) (.call n__law_tick [.var 0, .var 5, .var 6]),
   .exp (.meth .append (.ix (.ix (.var 2) (.var 5)) (.k (.int 1))) [.tup [.var 6, .var 7, .var 8]]),
   .ite (.din true (.var 7) (.var 2)) [
    .set (.var 2) (.var 7) (.tup [.op .Add (.ix (.ix (.var 2) (.var 5)) (.k (.int 0))) (.tup [.var 6]), .new []]),
    .exp (.meth .append (.var 3) [.var 7])] []]
def wayR (p : Pl) (n : Nat) (a1 a4 : D) (s : Sd) (x6 x7 x8 : Option D) : Slots := [some p.d, some a1, some (.loc (n + 1)), some (.loc (n + 2)), some a4, some s.d, x6, x7, x8]
theorem way_step (k : Nat) {p : Pl} (hp : p.Ok) {S0 S : Store} {F : Fd} (hF : FOk p F) {i : Nat} {s : Sd} {r cs : List Ch} (hi : F[i]? = some (s, r)) {c : Ch} (h : NetAt S0 F (tkN p i cs) S) (hcs : cs.length ≤ 100) (a1 a4 : D) (x7 x8 : Option D) :
    ∃ (S' : Store) (y7 y8 : Option D), exL (callF tab (k + 2)) wayB (wayR p S0.length a1 a4 s (some (chD c)) x7 x8) S = .nx (wayR p S0.length a1 a4 s (some (chD c)) y7 y8) S' ∧ NetAt S0 (addOne p s r F c) (tkN p i (cs ++ [c])) S' := by
  have hl := hF.len hp
  have hs := hF.ok _ (List.mem_of_getElem? hi)
  have hi0 : i < F.length := (List.getElem?_eq_some_iff.mp hi).1
  have hr : r.length ≤ 2880 := by
    have := hF.rl i _ hi
    simp only at this
    omega
  have e1 : callF tab (k + 2) n__law_tick [p.d, s.d, chD c] S = .ok (.tup [(s.nxt p c).d, wordsD (s.wds p c)]) S := law_tick_ok (k + 1) hp hs (c.1 : Int) (by omega) c.2 S
  have s1 : exS (callF tab (k + 2)) (.asg (.tup [(.nm 7), (.nm 8)]) (.call n__law_tick [.var 0, .var 5, .var 6])) (wayR p S0.length a1 a4 s (some (chD c)) x7 x8) S = .nx (wayR p S0.length a1 a4 s (some (chD c)) (some (s.nxt p c).d) (some (wordsD (s.wds p c)))) S := by
    simp [wayR, exL_n, exL_c, seq_nx, seq_rt, seq_ex, seq_bk, seq_ct, fl_non, fl_bl, fl_int, fl_str, exS, ev, evs, ix_t, ix_l, ix_s, atI_0, atI_1, atI_2, atI_3, atI_4, atI_5, atI_6, cm_lt, cm_le, cm_gt, cm_ge, cm_eqi, cm_nei, cm_eqs, cm_in2, op_addi, op_subi, op_muli, op_addl, op_addt, op_bl, op_mul0, op_x1, op_x0, op_mod, op_div, pr_int, pr_intb, pr_max, pr_min, pr_abs, bT_n, bT_t, bTs_n, bTs_c, sP_n, sP_c, isNon, iteB, thB, bindB, lift_B, asB_B, setD, e1]
  have hS := h.ts i _ hi
  have e2 : ixD (.loc (S0.length + 1)) s.d S = some (.tup [runD r, .loc (tlx S0.length i)]) := ix_dic h.dc (kvs_look hF hi)
  have s2 := append_ok (F := callF tab (k + 2)) (a := .ix (.ix (.var 2) (.var 5)) (.k (.int 1))) (e := .tup [.var 6, .var 7, .var 8]) (ρ := wayR p S0.length a1 a4 s (some (chD c)) (some (s.nxt p c).d) (some (wordsD (s.wds p c)))) (d := tickD p s c) (by simp [wayR, ev, e2, ix_t, atI_1]) (by simp [wayR, ev, evs, tickD]) hS (by
    unfold tkN
    rw [if_neg (by omega), if_pos rfl, List.length_map]
    omega)
  simp only [tk_snoc] at s2
  have h2 := h.app hl hi (tk' := tkN p i (cs ++ [c])) (fun j t hj hne => by simp only [tkN, if_neg hne]) rfl
  have e3 : ixD (.loc (S0.length + 1)) s.d (S.set (tlx S0.length i) (some (.ls (tkN p i (cs ++ [c]) i s)))) = some (.tup [runD r, .loc (tlx S0.length i)]) := ix_dic h2.dc (kvs_look hF hi)
  obtain ⟨S', s3, h3⟩ := grow_ok (Fn := callF tab (k + 2)) hp hF hi (c := c) h2 (ρ := wayR p S0.length a1 a4 s (some (chD c)) (some (s.nxt p c).d) (some (wordsD (s.wds p c)))) (vf := 2) (vt := 7) (vq := 3) (er := .op .Add (.ix (.ix (.var 2) (.var 5)) (.k (.int 0))) (.tup [.var 6])) (by simp [wayR]) (by simp [wayR]) (by simp [wayR]) (by
    simp [wayR, ev, evs, e3, ix_t, atI_0, run_snoc r c hr])
  exact ⟨S', _, _, ex_step s1 (ex_step s2 (ex_step s3 (exL_n _ _ _))), h3⟩
theorem way_for (k : Nat) {p : Pl} (hp : p.Ok) {S0 : Store} {i : Nat} {s : Sd} {r : List Ch} (a1 a4 : D) : ∀ (cs2 : List Ch) {cs1 : List Ch} {F : Fd} {S : Store} (x6 x9 x10 : Option D), cs1.length + cs2.length ≤ 100 → (∀ c ∈ cs2, c ∈ cho p s) → FOk p F → F[i]? = some (s, r) → NetAt S0 F (tkN p i cs1) S →
    ∃ (S' : Store) (y6 y9 y10 : Option D), forL (exL (callF tab (k + 2)) wayB) (.nm 6) (cs2.map chD) (wayR p S0.length a1 a4 s x6 x9 x10) S = .nx (wayR p S0.length a1 a4 s y6 y9 y10) S' ∧ NetAt S0 (addAll p s r F cs2) (tkN p i (cs1 ++ cs2)) S'
  | [], cs1, F, S, x6, x9, x10, _, _, _, _, h => ⟨S, x6, x9, x10, rfl, by rw [List.append_nil]; exact h⟩
  | c :: cs2, cs1, F, S, x6, x9, x10, hl, hc, hF, hi, h => by
    rw [List.length_cons] at hl
    obtain ⟨S1, y9, y10, e1, h1⟩ := way_step k hp hF hi (c := c) h (by omega) a1 a4 x9 x10
    obtain ⟨S2, z6, z9, z10, e2, h2⟩ := way_for k hp a1 a4 cs2 (some (chD c)) y9 y10 (by rw [List.length_append, List.length_singleton]; omega) (fun d hd => hc d (.tail _ hd)) (hF.one hp hi (hc c (.head _))) (addOne_get hi) h1
    refine ⟨S2, z6, z9, z10, ?_, by simpa [addAll] using h2⟩
    rw [List.map_cons]
    unfold forL
    have b : bindT (.nm 6) (chD c) (wayR p S0.length a1 a4 s x6 x9 x10) = some (wayR p S0.length a1 a4 s (some (chD c)) x9 x10) := rfl
    simp only [b, e1]
    exact e2
def wayW : List Wt.S := [
  .asg (.nm 5) (.ix (.var 3) (.var 4)),
  .asg (.nm 4) (.op .Add (.var 4) (.k (.int 1))),
  .for_ (.nm 6) .dat [.call n__law_choices [.var 0, .var 5]] wayB]
def wayQ (p : Pl) (n : Nat) (a1 : D) (i : Nat) (x5 x6 x7 x8 : Option D) : Slots := [some p.d, some a1, some (.loc (n + 1)), some (.loc (n + 2)), some (.int (i : Int)), x5, x6, x7, x8]
theorem way_turn (k : Nat) {p : Pl} (hp : p.Ok) {S0 S : Store} {F : Fd} (hF : FOk p F) {i : Nat} {s : Sd} {r : List Ch} (hi : F[i]? = some (s, r)) (h : NetAt S0 F (tkN p i []) S) (a1 : D) (x5 x6 x7 x8 : Option D) :
    ∃ (S' : Store) (y5 y6 y7 y8 : Option D), exL (callF tab (k + 2)) wayW (wayQ p S0.length a1 i x5 x6 x7 x8) S = .nx (wayQ p S0.length a1 (i + 1) y5 y6 y7 y8) S' ∧ NetAt S0 (addAll p s r F (cho p s)) (tkN p (i + 1) []) S' := by
  have hi0 : i < F.length := (List.getElem?_eq_some_iff.mp hi).1
  have e1 : ixD (.loc (S0.length + 2)) (.int (i : Int)) S = some s.d := by rw [ix_loc h.q, atI_nat, netK_get hi]
  have e3 : callF tab (k + 2) n__law_choices [p.d, s.d] S = .ok (.lst ((cho p s).map chD)) S := by
    have := law_choices_ok (k + 1) hp s S
    rw [chL_chs] at this
    exact this
  obtain ⟨S', y6, y7, y8, e4, h4⟩ := way_for k hp a1 (.int ((i : Int) + 1)) (cho p s) x6 x7 x8 (by have := cho_len hp s; simp only [List.length_nil]; omega) (fun c hc => hc) hF hi h
  refine ⟨S', some s.d, y6, y7, y8, ?_, ?_⟩
  · have e5 : exS (callF tab (k + 2)) (.for_ (.nm 6) .dat [.call n__law_choices [.var 0, .var 5]] wayB) (wayR p S0.length a1 (.int ((i : Int) + 1)) s x6 x7 x8) S = .nx (wayR p S0.length a1 (.int ((i : Int) + 1)) s y6 y7 y8) S' :=
      ex_for (ds := [.lst ((cho p s).map chD)]) (by simp [wayR, evs, ev, e3]) rfl e4
    have q : ∀ (b : Wt.S), exS (callF tab (k + 2)) b (wayR p S0.length a1 (.int ((i : Int) + 1)) s x6 x7 x8) S = .nx (wayR p S0.length a1 (.int ((i : Int) + 1)) s y6 y7 y8) S' →
        exL (callF tab (k + 2)) [.asg (.nm 5) (.ix (.var 3) (.var 4)), .asg (.nm 4) (.op .Add (.var 4) (.k (.int 1))), b] (wayQ p S0.length a1 i x5 x6 x7 x8) S = .nx (wayR p S0.length a1 (.int ((i : Int) + 1)) s y6 y7 y8) S' := by
      intro b hb
      simp only [wayR] at hb ⊢
      simp [wayQ, exL_n, exL_c, seq_nx, seq_rt, seq_ex, seq_bk, seq_ct, fl_non, fl_bl, fl_int, fl_str, exS, ev, evs, ix_t, ix_l, ix_s, atI_0, atI_1, atI_2, atI_3, atI_4, atI_5, atI_6, cm_lt, cm_le, cm_gt, cm_ge, cm_eqi, cm_nei, cm_eqs, cm_in2, op_addi, op_subi, op_muli, op_addl, op_addt, op_bl, op_mul0, op_x1, op_x0, op_mod, op_div, pr_int, pr_intb, pr_max, pr_min, pr_abs, bT_n, bT_t, bTs_n, bTs_c, sP_n, sP_c, isNon, iteB, thB, bindB, lift_B, asB_B, setD, e1, hb]
    exact q _ e5
  · have hx := (hF.all hp (cho p s) hi fun _ h => h).2
    refine h4.congr fun j x hj => ?_
    unfold tkN
    by_cases hj1 : j < i
    · rw [if_pos (by omega), if_pos hj1]
    · by_cases hj2 : j = i
      · subst hj2
        rw [hx] at hj
        cases hj
        rw [if_pos (by omega), if_neg (by omega), if_pos rfl, List.nil_append]
      · rw [if_neg (by omega), if_neg hj1, if_neg hj2]
        split <;> rfl
theorem way_whl (k : Nat) {p : Pl} (hp : p.Ok) {S0 : Store} (a1 : D) : ∀ (m i : Nat) {F : Fd} {S : Store} (x5 x6 x7 x8 : Option D) (fu : Nat), m < fu → 2881 ≤ m + i → i ≤ F.length → FOk p F → NetAt S0 F (tkN p i []) S →
    ∃ (S' : Store) (j : Nat) (y5 y6 y7 y8 : Option D), whlL (ev (callF tab (k + 2)) (.cmp .Lt (.var 4) (.prim .len [.var 3]))) (exL (callF tab (k + 2)) wayW) fu (wayQ p S0.length a1 i x5 x6 x7 x8) S = .nx (wayQ p S0.length a1 j y5 y6 y7 y8) S' ∧ NetAt S0 (bfs p m i F) (tkN p (bfs p m i F).length []) S' := by
  intro m
  induction m with
  | zero =>
    intro i F S x5 x6 x7 x8 fu hm hi hle hF h
    have := hF.len hp
    omega
  | succ m ih =>
    intro i F S x5 x6 x7 x8 fu hm hi hle hF h
    have hl := hF.len hp
    obtain ⟨fu, rfl⟩ : ∃ f, fu = f + 1 := ⟨fu - 1, by omega⟩
    have ec : ev (callF tab (k + 2)) (.cmp .Lt (.var 4) (.prim .len [.var 3])) (wayQ p S0.length a1 i x5 x6 x7 x8) S = .ok (.bl (decide ((i : Int) < (F.length : Int)))) S := by
      have := pr_lenQ h.q
      simp [wayQ, exL_n, exL_c, seq_nx, seq_rt, seq_ex, seq_bk, seq_ct, fl_non, fl_bl, fl_int, fl_str, exS, ev, evs, ix_t, ix_l, ix_s, atI_0, atI_1, atI_2, atI_3, atI_4, atI_5, atI_6, cm_lt, cm_le, cm_gt, cm_ge, cm_eqi, cm_nei, cm_eqs, cm_in2, op_addi, op_subi, op_muli, op_addl, op_addt, op_bl, op_mul0, op_x1, op_x0, op_mod, op_div, pr_int, pr_intb, pr_max, pr_min, pr_abs, bT_n, bT_t, bTs_n, bTs_c, sP_n, sP_c, isNon, iteB, thB, bindB, lift_B, asB_B, setD, this, netK]
    unfold whlL
    rw [ec]
    simp only [asB_B, Out.thenS_ok]
    by_cases hlt : i < F.length
    · have hi1 : F[i]? = some (F[i].1, F[i].2) := List.getElem?_eq_getElem hlt
      obtain ⟨S1, y5, y6, y7, y8, e1, h1⟩ := way_turn k hp hF hi1 h a1 x5 x6 x7 x8
      have hA := hF.all hp (cho p F[i].1) hi1 fun _ h => h
      obtain ⟨S2, j, z5, z6, z7, z8, e2, h2⟩ := ih (i + 1) y5 y6 y7 y8 fu (by omega) (by omega) (by have := (List.getElem?_eq_some_iff.mp hA.2).1; omega) hA.1 h1
      refine ⟨S2, j, z5, z6, z7, z8, ?_, ?_⟩
      · rw [if_pos (decide_eq_true (by omega)), e1]
        exact e2
      · unfold bfs
        simp only [hi1]
        exact h2
    · have hz : F[i]? = none := List.getElem?_eq_none (by omega)
      refine ⟨S, i, x5, x6, x7, x8, ?_, ?_⟩
      · rw [if_neg (by rw [decide_eq_true_eq]; omega)]
      · unfold bfs
        simp only [hz]
        have : F.length = i := by omega
        rw [this]
        exact h
theorem law_ways_ok (k : Nat) {p : Pl} (hp : p.Ok) {S0 : Store} (hS : LowS S0) : callF tab (k + 3) n__law_ways [p.d] S0 = .ok (netD p (netF p)) S0 := by
  rw [u__law_ways]
  have e0 : callF tab (k + 2) n__law_begin [p.d] S0 = .ok (begP p).d S0 := law_begin_ok (k + 1) p S0
  obtain ⟨S2, j, y5, y6, y7, y8, e1, h1⟩ := way_whl k hp (S0 := S0) (begP p).d 2881 0 none none none none fuel (by decide) (by omega) (by simp) (FOk.beg hp) (net_at0 p S0)
  have hF := netF_ok hp
  have q : ∀ (c : E) (b : List Wt.S), whlL (ev (callF tab (k + 2)) c) (exL (callF tab (k + 2)) b) fuel (wayQ p S0.length (begP p).d 0 none none none none) (netS1 p S0) = .nx (wayQ p S0.length (begP p).d j y5 y6 y7 y8) S2 →
      exL (callF tab (k + 2)) [.asg (.nm 1) (.call n__law_begin [.var 0]), .par [2, 3, 4] [.dic1 (.var 1) (.tup [.tup [], .new []]), .new [.var 1], .k (.int 0)], .whl c b, .retz (.var 2)] [some p.d, none, none, none, none, none, none, none, none] S0 = .rz (.loc (S0.length + 1)) S2 := by
    intro c b hb
    have s1 : exS (callF tab (k + 2)) (.asg (.nm 1) (.call n__law_begin [.var 0])) [some p.d, none, none, none, none, none, none, none, none] S0 = .nx [some p.d, some (begP p).d, none, none, none, none, none, none, none] S0 := by
      simp [exL_n, exL_c, seq_nx, seq_rt, seq_ex, seq_bk, seq_ct, fl_non, fl_bl, fl_int, fl_str, exS, ev, evs, ix_t, ix_l, ix_s, atI_0, atI_1, atI_2, atI_3, atI_4, atI_5, atI_6, cm_lt, cm_le, cm_gt, cm_ge, cm_eqi, cm_nei, cm_eqs, cm_in2, op_addi, op_subi, op_muli, op_addl, op_addt, op_bl, op_mul0, op_x1, op_x0, op_mod, op_div, pr_int, pr_intb, pr_max, pr_min, pr_abs, bT_n, bT_t, bTs_n, bTs_c, sP_n, sP_c, isNon, iteB, thB, bindB, lift_B, asB_B, setD, e0]
    have s2 : exS (callF tab (k + 2)) (.par [2, 3, 4] [.dic1 (.var 1) (.tup [.tup [], .new []]), .new [.var 1], .k (.int 0)]) [some p.d, some (begP p).d, none, none, none, none, none, none, none] S0 = .nx (wayQ p S0.length (begP p).d 0 none none none none) (netS1 p S0) := by
      have hd := dic1_ok (F := callF tab (k + 2)) (a := .var 1) (b := .tup [.tup [], .new []]) (ρ := [some p.d, some (begP p).d, none, none, none, none, none, none, none]) (S := S0) (S1 := S0) (S2 := S0 ++ [some (.ls [])]) (x := (begP p).d) (y := .tup [.tup [], .loc S0.length]) (q := (begP p).key) (by simp [ev]) (by simp [ev, evs]) ⟨_, rfl⟩ (nk_sd _)
      simp [exS, evs, hd, sP_c, sP_n, wayQ, netS1]
      simp [ev, evs]
      rfl
    have s3 : exS (callF tab (k + 2)) (.whl c b) (wayQ p S0.length (begP p).d 0 none none none none) (netS1 p S0) = .nx (wayQ p S0.length (begP p).d j y5 y6 y7 y8) S2 := hb
    refine ex_step s1 (ex_step s2 (ex_step s3 ?_))
    simp [wayQ, exL_c, exS, ev, OutS.seq]
  have e2 := q _ _ e1
  refine (congrArg (leave S0.length) e2).trans (leave_rz hS h1.t0 (net_res hp hF (Nat.le_refl _) h1) (low_netD hp hF _))
end Wt
set_option maxRecDepth 100000
set_option maxHeartbeats 1000000
/-! First runs by words; harms. -/
namespace Wt
open PySem L2
theorem nodup_sub {α : Type} [DecidableEq α] : ∀ (l m : List α), l.Nodup → (∀ x ∈ l, x ∈ m) → l.length ≤ m.length
  | [], m, _, _ => Nat.zero_le _
  | x :: l, m, hn, h => by
    rw [List.nodup_cons] at hn
    have hx := h x (.head _)
    have := nodup_sub l (m.erase x) hn.2 fun y hy => by
      have hne : y ≠ x := fun z => hn.1 (z ▸ hy)
      exact (List.mem_erase_of_ne hne).mpr (h y (.tail _ hy))
    rw [List.length_erase_of_mem hx] at this
    have hp := List.length_pos_of_mem hx
    simp only [List.length_cons]
    omega
/-! ### the net as a frozen dict -/
def netX (p : Pl) (x : Sd × List Ch) : D := .tup [runD x.2, .lst ((cho p x.1).map (tickD p x.1))]
theorem net_zip (p : Pl) (F : Fd) : (netK F).zip (netV p F) = F.map fun x => (x.1.d, netX p x) := by
  unfold netK netV
  rw [List.zip_map']
  rfl
theorem net_keyOk (p : Pl) (F : Fd) (s : Sd) : keyOk (F.map fun x => (x.1.d, netX p x)) s.d = true := by
  cases F with
  | nil => rfl
  | cons x F => rfl
theorem look_net (p : Pl) (F : Fd) (s : Sd) : lookD ((netK F).zip (netV p F)) s.d = some ((F.find? fun x => decide (x.1 = s)).map (netX p)) := by
  rw [net_zip]
  unfold lookD
  rw [net_keyOk, if_pos rfl]
  unfold dGetD
  rw [nk_sd]
  simp only [List.find?_map, Option.map_map, Option.some.injEq]
  have e : ((fun p => decide (nkD 8 p.fst = some s.key)) ∘ fun x => (x.fst.d, netX p x)) = fun (x : Sd × List Ch) => decide (x.1 = s) := by
    funext x
    simp only [Function.comp, nk_sd, Option.some.injEq]
    by_cases h : x.1 = s
    · rw [h]
      simp
    · rw [decide_eq_false h, decide_eq_false fun z => h (key_inj z)]
  rw [e]
  rfl
theorem find_net {p : Pl} {F : Fd} (h : FOk p F) {x : Sd × List Ch} (hx : x ∈ F) : (F.find? fun y => decide (y.1 = x.1)) = some x := by
  obtain ⟨i, hi⟩ := List.mem_iff_getElem?.mp hx
  obtain ⟨hlt, hi2⟩ := List.getElem?_eq_some_iff.mp hi
  rw [List.find?_eq_some_iff_getElem]
  refine ⟨by simp, i, hlt, hi2, fun j hj => ?_⟩
  have hl : j < F.length := Nat.lt_trans hj hlt
  simp only [Bool.not_eq_true', decide_eq_false_iff_not]
  intro z
  have h1 : (F.map (·.1))[j]? = some x.1 := by rw [List.getElem?_map, List.getElem?_eq_getElem hl, Option.map_some, z]
  have h2 : (F.map (·.1))[i]? = some x.1 := by rw [List.getElem?_map, hi]; rfl
  obtain ⟨q1, q2⟩ := List.getElem?_eq_some_iff.mp h1
  obtain ⟨q3, q4⟩ := List.getElem?_eq_some_iff.mp h2
  have := (List.getElem_inj h.nd).mp (q2.trans q4.symm)
  omega
/-! ### words -/
abbrev Wd5 := List (Str × List Ch)
def addW (W : Wd5) (r : List Ch) (w : Str) : Wd5 := if w ∈ W.map (·.1) then W else W ++ [(w, r)]
def addWs (r : List Ch) : Wd5 → List Str → Wd5
  | W, [] => W
  | W, w :: ws => addWs r (addW W r w) ws
def addCs (p : Pl) (s : Sd) (r : List Ch) : Wd5 → List Ch → Wd5
  | W, [] => W
  | W, c :: cs => addCs p s r (addWs (r ++ [c]) W (s.wds p c)) cs
def addFs (p : Pl) : Wd5 → Fd → Wd5
  | W, [] => W
  | W, x :: F => addFs p (addCs p x.1 x.2 W (cho p x.1)) F
def firstW (p : Pl) : Wd5 := addFs p [] (netF p)
def kvsW (W : Wd5) : List (D × D) := W.map fun x => (.str x.1, runD x.2)
def firstD (W : Wd5) : D := .dic (W.map fun x => .str x.1) (W.map fun x => runD x.2)
def findW (W : Wd5) (w : Str) : Option (List Ch) := (W.find? fun x => decide (x.1 = w)).map (·.2)
theorem look_W (W : Wd5) (w : Str) : lookD (kvsW W) (.str w) = some ((findW W w).map runD) := by
  have hk : keyOk (kvsW W) (.str w) = true := by cases W <;> rfl
  unfold lookD
  rw [hk, if_pos rfl]
  unfold dGetD kvsW findW
  have e0 : nkD 8 (.str w) = some (.text w) := rfl
  rw [e0]
  simp only [List.find?_map, Option.map_map, Option.some.injEq]
  have e : ((fun (p : D × D) => decide (nkD 8 p.fst = some (.text w))) ∘ fun x => (D.str x.fst, runD x.snd)) = fun (x : Str × List Ch) => decide (x.1 = w) := by
    funext x
    have e1 : nkD 8 (.str x.1) = some (.text x.1) := rfl
    simp only [Function.comp, e1, Option.some.injEq, NestedKey.text.injEq]
  rw [e]
  rfl
theorem find_some {W : Wd5} {w : Str} : (findW W w).isSome = decide (w ∈ W.map (·.1)) := by
  unfold findW
  rw [Option.isSome_map]
  by_cases h : w ∈ W.map (·.1)
  · rw [decide_eq_true h]
    obtain ⟨x, hx, e⟩ := List.mem_map.mp h
    rw [List.find?_isSome]
    exact ⟨x, hx, by simpa using e⟩
  · rw [decide_eq_false h]
    rw [Option.isSome_eq_false_iff, Option.isNone_iff_eq_none, List.find?_eq_none]
    intro x hx
    simp only [decide_eq_true_eq]
    exact fun z => h (List.mem_map.mpr ⟨x, hx, z⟩)
def allWs : List Str := ["cold", "lost", "cheap", "dear", "empty"]
theorem wds_all (p : Pl) (s : Sd) (c : Ch) {w : Str} (h : w ∈ s.wds p c) : w ∈ allWs := by
  have h := sort_mem h
  obtain ⟨a, ha, b, hb, d, hd, e⟩ := words_cases p s c.2 (c.1 : Int)
  rw [e] at h
  simp only [List.mem_cons, List.not_mem_nil, or_false] at ha hb hd
  simp only [List.mem_append] at h
  rcases h with (h | h) | h
  · rcases ha with rfl | rfl | rfl <;> simp [allWs] at h ⊢ <;> simp [h]
  · rcases hb with rfl | rfl | rfl <;> simp [allWs] at h ⊢ <;> simp [h]
  · rcases hd with rfl | rfl <;> simp [allWs] at h ⊢ <;> simp [h]
structure WOk (W : Wd5) : Prop where
  nd : (W.map (·.1)).Nodup
  sub : ∀ x ∈ W, x.1 ∈ allWs
  rl : ∀ x ∈ W, x.2.length ≤ 2881
theorem WOk.len {W : Wd5} (h : WOk W) : W.length ≤ 5 := by
  have := nodup_sub (W.map (·.1)) allWs h.nd fun x hx => by
    obtain ⟨y, hy, rfl⟩ := List.mem_map.mp hx
    exact h.sub y hy
  simpa [allWs] using this
theorem WOk.add {W : Wd5} (h : WOk W) {r : List Ch} {w : Str} (hw : w ∈ allWs) (hr : r.length ≤ 2881) : WOk (addW W r w) := by
  unfold addW
  split
  · exact h
  · rename_i hn
    refine ⟨?_, fun x hx => ?_, fun x hx => ?_⟩
    · rw [List.map_append, List.nodup_append]
      refine ⟨h.nd, by simp, fun a ha b hb => ?_⟩
      simp only [List.map_cons, List.map_nil, List.mem_singleton] at hb
      rw [hb]
      exact fun z => hn (z ▸ ha)
    · rcases List.mem_append.mp hx with hx | hx
      · exact h.sub x hx
      · rw [List.mem_singleton.mp hx]
        exact hw
    · rcases List.mem_append.mp hx with hx | hx
      · exact h.rl x hx
      · rw [List.mem_singleton.mp hx]
        exact hr
theorem WOk.adds {r : List Ch} (hr : r.length ≤ 2881) : ∀ (ws : List Str) {W : Wd5}, WOk W → (∀ w ∈ ws, w ∈ allWs) → WOk (addWs r W ws)
  | [], _, h, _ => h
  | w :: ws, W, h, hw => WOk.adds hr ws (h.add (hw w (.head _)) hr) fun x hx => hw x (.tail _ hx)
theorem WOk.addc {p : Pl} {s : Sd} {r : List Ch} (hr : r.length ≤ 2880) : ∀ (cs : List Ch) {W : Wd5}, WOk W → WOk (addCs p s r W cs)
  | [], _, h => h
  | c :: cs, W, h => WOk.addc hr cs (WOk.adds (by rw [List.length_append, List.length_singleton]; omega) _ h fun w hw => wds_all p s c hw)
theorem WOk.addf {p : Pl} : ∀ (F : Fd) {W : Wd5}, (∀ x ∈ F, x.2.length ≤ 2880) → WOk W → WOk (addFs p W F)
  | [], _, _, h => h
  | x :: F, W, hF, h => WOk.addf F (fun y hy => hF y (.tail _ hy)) (WOk.addc (hF x (.head _)) _ h)
theorem WOk.nil : WOk [] := ⟨List.nodup_nil, (fun _ h => nomatch h), (fun _ h => nomatch h)⟩
theorem firstW_ok {p : Pl} (hp : p.Ok) : WOk (firstW p) := WOk.addf _ (fun x hx => (netF_ok hp).short hp hx) WOk.nil
/-! ### steps -/
def St1 (S0 : Store) (W : Wd5) : Store := S0 ++ [some (.dc (kvsW W))]
theorem st1_get (S0 : Store) (W : Wd5) : (St1 S0 W)[S0.length]? = some (some (.dc (kvsW W))) := get_last _ _
theorem LowS.dc {S : Store} (h : LowS S) : LowS (S ++ [some (.dc [])]) := fun n => by
  rw [List.all_append, h n]
  rfl
theorem word_ok {Fn : Nat → List D → Store → Out D} {S0 : Store} {W : Wd5} (hW : WOk W) {ρ : Slots} {vf vw : Nat} {er : E} {r : List Ch} {w : Str} (h1 : ρ[vf]? = some (some (.loc S0.length))) (h2 : ρ[vw]? = some (some (.str w))) (h3 : ∀ S, ev Fn er ρ S = .ok (runD r) S) :
    exS Fn (.ite (.din true (.var vw) (.var vf)) [.set (.var vf) (.var vw) er] []) ρ (St1 S0 W) = .nx ρ (St1 S0 (addW W r w)) := by
  have v1 : ∀ T, ev Fn (.var vf) ρ T = .ok (.loc S0.length) T := fun T => by simp only [ev, h1]
  have v2 : ∀ T, ev Fn (.var vw) ρ T = .ok (.str w) T := fun T => by simp only [ev, h2]
  have e1 := din_ok (neg := true) (v2 (St1 S0 W)) (v1 _) (view_loc (st1_get S0 W)) (look_W W w)
  rw [Option.isSome_map, find_some] at e1
  unfold addW
  by_cases hm : w ∈ W.map (·.1)
  · rw [if_pos hm]
    rw [decide_eq_true hm] at e1
    exact ite_no e1
  · rw [if_neg hm]
    rw [decide_eq_false hm] at e1
    have hn : findW W w = none := by
      have := find_some (W := W) (w := w)
      rw [decide_eq_false hm] at this
      exact Option.isNone_iff_eq_none.mp (by simpa using this)
    have hl := look_W W w
    rw [hn] at hl
    have e2 := dput_ok (h3 (St1 S0 W)) (v1 _) (v2 _) (st1_get S0 W) (look_get hl).2 (by unfold kvsW; rw [List.length_map]; have := hW.len; omega)
    rw [put_none hl] at e2
    have e3 : (St1 S0 W).set S0.length (some (.dc (kvsW W ++ [(.str w, runD r)]))) = St1 S0 (W ++ [(w, r)]) := by
      unfold St1
      rw [set_last]
      simp [kvsW]
    rw [e3] at e2
    simp only [exS, e1, asB_B, Out.thenS_ok]
    exact ex_step e2 (exL_n _ _ _)
def fstB : List Wt.S := [.ite (.din true (.var 7) (.var 1)) [.set (.var 1) (.var 7) (.op .Add (.var 2) (.tup [.var 4]))] []]
def fstR (p : Pl) (n : Nat) (x2 x3 x4 x5 x6 x7 : Option D) : Slots := [some p.d, some (.loc n), x2, x3, x4, x5, x6, x7]
theorem fst_words (Fn : Nat → List D → Store → Out D) {p : Pl} {S0 : Store} {r : List Ch} (hr : r.length ≤ 2880) (c : Ch) (x3 x5 x6 : Option D) : ∀ (ws : List Str) {W : Wd5} (x7 : Option D), WOk W → (∀ w ∈ ws, w ∈ allWs) →
    ∃ y7, forL (exL Fn fstB) (.nm 7) (ws.map D.str) (fstR p S0.length (some (runD r)) x3 (some (chD c)) x5 x6 x7) (St1 S0 W) = .nx (fstR p S0.length (some (runD r)) x3 (some (chD c)) x5 x6 y7) (St1 S0 (addWs (r ++ [c]) W ws))
  | [], W, x7, _, _ => ⟨x7, rfl⟩
  | w :: ws, W, x7, hW, h => by
    have e1 := word_ok (Fn := Fn) (S0 := S0) hW (ρ := fstR p S0.length (some (runD r)) x3 (some (chD c)) x5 x6 (some (.str w))) (vf := 1) (vw := 7) (er := .op .Add (.var 2) (.tup [.var 4])) (r := r ++ [c]) (w := w) (by simp [fstR]) (by simp [fstR]) (fun S => by
      simp [fstR, ev, evs, run_snoc r c hr])
    obtain ⟨y7, e2⟩ := fst_words Fn (p := p) (S0 := S0) hr c x3 x5 x6 ws (some (.str w)) (hW.add (h w (.head _)) (r := r ++ [c]) (by rw [List.length_append, List.length_singleton]; omega)) fun x hx => h x (.tail _ hx)
    refine ⟨y7, ?_⟩
    rw [List.map_cons]
    unfold forL
    have b : bindT (.nm 7) (.str w) (fstR p S0.length (some (runD r)) x3 (some (chD c)) x5 x6 x7) = some (fstR p S0.length (some (runD r)) x3 (some (chD c)) x5 x6 (some (.str w))) := rfl
    have e3 : exL Fn fstB (fstR p S0.length (some (runD r)) x3 (some (chD c)) x5 x6 (some (.str w))) (St1 S0 W) = .nx _ _ := ex_step e1 (exL_n _ _ _)
    simp only [b, e3]
    exact e2
def fstC : List Wt.S := [.for_ (.nm 7) .dat [.var 6] fstB]
theorem fst_ticks (Fn : Nat → List D → Store → Out D) {p : Pl} {S0 : Store} {s : Sd} {r : List Ch} (hr : r.length ≤ 2880) (x3 : Option D) : ∀ (cs : List Ch) {W : Wd5} (x4 x5 x6 x7 : Option D), WOk W →
    ∃ y4 y5 y6 y7, forL (exL Fn fstC) (.tup [(.nm 4), (.nm 5), (.nm 6)]) (cs.map (tickD p s)) (fstR p S0.length (some (runD r)) x3 x4 x5 x6 x7) (St1 S0 W) = .nx (fstR p S0.length (some (runD r)) x3 y4 y5 y6 y7) (St1 S0 (addCs p s r W cs))
  | [], W, x4, x5, x6, x7, _ => ⟨x4, x5, x6, x7, rfl⟩
  | c :: cs, W, x4, x5, x6, x7, hW => by
    obtain ⟨z7, e1⟩ := fst_words Fn (p := p) (S0 := S0) hr c x3 (some (s.nxt p c).d) (some (wordsD (s.wds p c))) (s.wds p c) x7 hW fun w hw => wds_all p s c hw
    obtain ⟨y4, y5, y6, y7, e2⟩ := fst_ticks Fn (p := p) (S0 := S0) (s := s) hr x3 cs (some (chD c)) (some (s.nxt p c).d) (some (wordsD (s.wds p c))) z7 (WOk.adds (r := r ++ [c]) (by rw [List.length_append, List.length_singleton]; omega) _ hW fun w hw => wds_all p s c hw)
    refine ⟨y4, y5, y6, y7, ?_⟩
    rw [List.map_cons]
    unfold forL
    have b : bindT (.tup [(.nm 4), (.nm 5), (.nm 6)]) (tickD p s c) (fstR p S0.length (some (runD r)) x3 x4 x5 x6 x7) = some (fstR p S0.length (some (runD r)) x3 (some (chD c)) (some (s.nxt p c).d) (some (wordsD (s.wds p c))) x7) := rfl
    have e3 : exS Fn (.for_ (.nm 7) .dat [.var 6] fstB) (fstR p S0.length (some (runD r)) x3 (some (chD c)) (some (s.nxt p c).d) (some (wordsD (s.wds p c))) x7) (St1 S0 W) = .nx _ _ := ex_for (ds := [wordsD (s.wds p c)]) (by simp [fstR, evs, ev]) rfl e1
    have e4 : exL Fn fstC (fstR p S0.length (some (runD r)) x3 (some (chD c)) (some (s.nxt p c).d) (some (wordsD (s.wds p c))) x7) (St1 S0 W) = .nx _ _ := ex_step e3 (exL_n _ _ _)
    simp only [b, e4]
    exact e2
def fstE : List Wt.S := [.for_ (.tup [(.nm 4), (.nm 5), (.nm 6)]) .dat [.var 3] fstC]
theorem fst_all (Fn : Nat → List D → Store → Out D) {p : Pl} {S0 : Store} : ∀ (F : Fd) {W : Wd5} (x2 x3 x4 x5 x6 x7 : Option D), (∀ x ∈ F, x.2.length ≤ 2880) → WOk W →
    ∃ y2 y3 y4 y5 y6 y7, forL (exL Fn fstE) (.tup [(.nm 2), (.nm 3)]) (netV p F) (fstR p S0.length x2 x3 x4 x5 x6 x7) (St1 S0 W) = .nx (fstR p S0.length y2 y3 y4 y5 y6 y7) (St1 S0 (addFs p W F))
  | [], W, x2, x3, x4, x5, x6, x7, _, _ => ⟨x2, x3, x4, x5, x6, x7, rfl⟩
  | x :: F, W, x2, x3, x4, x5, x6, x7, hF, hW => by
    have hr := hF x (.head _)
    obtain ⟨z4, z5, z6, z7, e1⟩ := fst_ticks Fn (p := p) (S0 := S0) (s := x.1) hr (some (.lst ((cho p x.1).map (tickD p x.1)))) (cho p x.1) x4 x5 x6 x7 hW
    obtain ⟨y2, y3, y4, y5, y6, y7, e2⟩ := fst_all Fn (p := p) (S0 := S0) F (some (runD x.2)) (some (.lst ((cho p x.1).map (tickD p x.1)))) z4 z5 z6 z7 (fun y hy => hF y (.tail _ hy)) (WOk.addc (p := p) (s := x.1) hr (cho p x.1) hW)
    refine ⟨y2, y3, y4, y5, y6, y7, ?_⟩
    unfold netV at e2 ⊢
    rw [List.map_cons]
    unfold forL
    have b : bindT (.tup [(.nm 2), (.nm 3)]) (.tup [runD x.2, .lst ((cho p x.1).map (tickD p x.1))]) (fstR p S0.length x2 x3 x4 x5 x6 x7) = some (fstR p S0.length (some (runD x.2)) (some (.lst ((cho p x.1).map (tickD p x.1)))) x4 x5 x6 x7) := rfl
    have e3 : exS Fn (.for_ (.tup [(.nm 4), (.nm 5), (.nm 6)]) .dat [.var 3] fstC) (fstR p S0.length (some (runD x.2)) (some (.lst ((cho p x.1).map (tickD p x.1)))) x4 x5 x6 x7) (St1 S0 W) = .nx _ _ := ex_for (ds := [.lst ((cho p x.1).map (tickD p x.1))]) (by simp [fstR, evs, ev]) rfl e1
    have e4 : exL Fn fstE (fstR p S0.length (some (runD x.2)) (some (.lst ((cho p x.1).map (tickD p x.1)))) x4 x5 x6 x7) (St1 S0 W) = .nx _ _ := ex_step e3 (exL_n _ _ _)
    simp only [b, e4]
    exact e2
theorem fit_firstV {W : Wd5} (h : WOk W) : D.fitAll 2 (W.map fun x => runD x.2) = true := fitAll_of fun d hd => by
  obtain ⟨x, hx, rfl⟩ := List.mem_map.mp hd
  exact fit_run (by have := h.rl x hx; omega) 0
theorem low_first {W : Wd5} (h : WOk W) (n : Nat) : D.low n (firstD W) = true := by
  simp only [firstD, D.low, Bool.and_eq_true]
  refine ⟨?_, fitAll_low n 2 _ (fit_firstV h)⟩
  clear h
  induction W with
  | nil => rfl
  | cons x W ih =>
    simp only [List.map_cons, D.lowAll, Bool.and_eq_true]
    exact ⟨rfl, ih⟩
theorem first_res {S0 : Store} {W : Wd5} (h : WOk W) : resW (resN (St1 S0 W) S0.length 8) (.loc S0.length) = firstD W := by
  show resN (St1 S0 W) S0.length 8 S0.length = _
  unfold resN
  rw [if_neg (by omega), st1_get]
  show resW _ (.dic ((kvsW W).map (·.1)) ((kvsW W).map (·.2))) = _
  have e1 : (kvsW W).map (·.1) = W.map fun x => .str x.1 := by simp [kvsW]
  have e2 : (kvsW W).map (·.2) = W.map fun x => runD x.2 := by simp [kvsW]
  simp only [resW, firstD, e1, e2, fitAll_res _ 2 _ (fit_firstV h)]
theorem firsts_by_ok (k : Nat) {p : Pl} (hp : p.Ok) {S0 : Store} (hS : LowS S0) : callF tab (k + 4) n_firsts_by [p.d] S0 = .ok (firstD (firstW p)) S0 := by
  rw [u_firsts_by]
  have e0 : callF tab (k + 3) n_net_of [p.d] (St1 S0 []) = .ok (netD p (netF p)) (St1 S0 []) := net_of_ok k hp hS.dc
  obtain ⟨y2, y3, y4, y5, y6, y7, e1⟩ := fst_all (callF tab (k + 3)) (p := p) (S0 := S0) (netF p) none none none none none none (fun x hx => (netF_ok hp).short hp hx) WOk.nil
  have e2 : exS (callF tab (k + 3)) (.asg (.nm 1) .dic0) [some p.d, none, none, none, none, none, none, none] S0 = .nx (fstR p S0.length none none none none none none) (St1 S0 []) := by
    simp [exS, ev, bT_n, fstR, St1, kvsW]
  have e3 : exS (callF tab (k + 3)) (.for_ (.tup [(.nm 2), (.nm 3)]) .vals [.call n_net_of [.var 0]] fstE) (fstR p S0.length none none none none none none) (St1 S0 []) = .nx _ _ := ex_for (ds := [netD p (netF p)]) (by simp [fstR, evs, ev, e0]) rfl e1
  have e4 : exL (callF tab (k + 3)) ir_firsts_by.body [some p.d, none, none, none, none, none, none, none] S0 = .rz (.loc S0.length) (St1 S0 (firstW p)) := by
    refine ex_step e2 (ex_step e3 ?_)
    simp [fstR, exL_c, exS, ev, OutS.seq]
    rfl
  have hW := firstW_ok hp
  exact (congrArg (leave S0.length) e4).trans (leave_rz hS (by unfold St1; rw [List.take_left]) (first_res hW) (low_first hW _))
/-! ### the law's -/
def lfsB : List Wt.S := [.ite (.din true (.var 7) (.var 3)) [.set (.var 3) (.var 7) (.op .Add (.ix (.ix (.var 2) (.var 1)) (.k (.int 0))) (.tup [.var 4]))] []]
def lfsR (p : Pl) (n : Nat) (x1 x4 x5 x6 x7 : Option D) : Slots := [some p.d, x1, some (netD p (netF p)), some (.loc n), x4, x5, x6, x7]
theorem ix_net {p : Pl} (hp : p.Ok) {x : Sd × List Ch} (hx : x ∈ netF p) (S : Store) : ixD (netD p (netF p)) x.1.d S = some (netX p x) := by
  refine ix_dicF ?_
  rw [look_net, find_net (netF_ok hp) hx]
  rfl
theorem lfs_words (Fn : Nat → List D → Store → Out D) {p : Pl} (hp : p.Ok) {S0 : Store} {x : Sd × List Ch} (hx : x ∈ netF p) (c : Ch) (x5 x6 : Option D) : ∀ (ws : List Str) {W : Wd5} (x7 : Option D), WOk W → (∀ w ∈ ws, w ∈ allWs) →
    ∃ y7, forL (exL Fn lfsB) (.nm 7) (ws.map D.str) (lfsR p S0.length (some x.1.d) (some (chD c)) x5 x6 x7) (St1 S0 W) = .nx (lfsR p S0.length (some x.1.d) (some (chD c)) x5 x6 y7) (St1 S0 (addWs (x.2 ++ [c]) W ws))
  | [], W, x7, _, _ => ⟨x7, rfl⟩
  | w :: ws, W, x7, hW, h => by
    have hr : x.2.length ≤ 2880 := (netF_ok hp).short hp hx
    have e1 := word_ok (Fn := Fn) (S0 := S0) hW (ρ := lfsR p S0.length (some x.1.d) (some (chD c)) x5 x6 (some (.str w))) (vf := 3) (vw := 7) (er := .op .Add (.ix (.ix (.var 2) (.var 1)) (.k (.int 0))) (.tup [.var 4])) (r := x.2 ++ [c]) (w := w) (by simp [lfsR]) (by simp [lfsR]) (fun S => by
      simp [lfsR, ev, evs, ix_net hp hx S, netX, ix_t, atI_0, run_snoc x.2 c hr])
    obtain ⟨y7, e2⟩ := lfs_words Fn hp (S0 := S0) hx c x5 x6 ws (some (.str w)) (hW.add (h w (.head _)) (r := x.2 ++ [c]) (by rw [List.length_append, List.length_singleton]; omega)) fun x hx => h x (.tail _ hx)
    refine ⟨y7, ?_⟩
    rw [List.map_cons]
    unfold forL
    have b : bindT (.nm 7) (.str w) (lfsR p S0.length (some x.1.d) (some (chD c)) x5 x6 x7) = some (lfsR p S0.length (some x.1.d) (some (chD c)) x5 x6 (some (.str w))) := rfl
    have e3 : exL Fn lfsB (lfsR p S0.length (some x.1.d) (some (chD c)) x5 x6 (some (.str w))) (St1 S0 W) = .nx _ _ := ex_step e1 (exL_n _ _ _)
    simp only [b, e3]
    exact e2
def lfsC : List Wt.S := [.for_ (.nm 7) .dat [.var 6] lfsB]
theorem lfs_ticks (Fn : Nat → List D → Store → Out D) {p : Pl} (hp : p.Ok) {S0 : Store} {x : Sd × List Ch} (hx : x ∈ netF p) : ∀ (cs : List Ch) {W : Wd5} (x4 x5 x6 x7 : Option D), WOk W →
    ∃ y4 y5 y6 y7, forL (exL Fn lfsC) (.tup [(.nm 4), (.nm 5), (.nm 6)]) (cs.map (tickD p x.1)) (lfsR p S0.length (some x.1.d) x4 x5 x6 x7) (St1 S0 W) = .nx (lfsR p S0.length (some x.1.d) y4 y5 y6 y7) (St1 S0 (addCs p x.1 x.2 W cs))
  | [], W, x4, x5, x6, x7, _ => ⟨x4, x5, x6, x7, rfl⟩
  | c :: cs, W, x4, x5, x6, x7, hW => by
    have hr : x.2.length ≤ 2880 := (netF_ok hp).short hp hx
    obtain ⟨z7, e1⟩ := lfs_words Fn hp (S0 := S0) hx c (some (x.1.nxt p c).d) (some (wordsD (x.1.wds p c))) (x.1.wds p c) x7 hW fun w hw => wds_all p x.1 c hw
    obtain ⟨y4, y5, y6, y7, e2⟩ := lfs_ticks Fn hp (S0 := S0) hx cs (some (chD c)) (some (x.1.nxt p c).d) (some (wordsD (x.1.wds p c))) z7 (WOk.adds (r := x.2 ++ [c]) (by rw [List.length_append, List.length_singleton]; omega) _ hW fun w hw => wds_all p x.1 c hw)
    refine ⟨y4, y5, y6, y7, ?_⟩
    rw [List.map_cons]
    unfold forL
    have b : bindT (.tup [(.nm 4), (.nm 5), (.nm 6)]) (tickD p x.1 c) (lfsR p S0.length (some x.1.d) x4 x5 x6 x7) = some (lfsR p S0.length (some x.1.d) (some (chD c)) (some (x.1.nxt p c).d) (some (wordsD (x.1.wds p c))) x7) := rfl
    have e3 : exS Fn (.for_ (.nm 7) .dat [.var 6] lfsB) (lfsR p S0.length (some x.1.d) (some (chD c)) (some (x.1.nxt p c).d) (some (wordsD (x.1.wds p c))) x7) (St1 S0 W) = .nx _ _ := ex_for (ds := [wordsD (x.1.wds p c)]) (by simp [lfsR, evs, ev]) rfl e1
    have e4 : exL Fn lfsC (lfsR p S0.length (some x.1.d) (some (chD c)) (some (x.1.nxt p c).d) (some (wordsD (x.1.wds p c))) x7) (St1 S0 W) = .nx _ _ := ex_step e3 (exL_n _ _ _)
    simp only [b, e4]
    exact e2
def lfsE : List Wt.S := [.for_ (.tup [(.nm 4), (.nm 5), (.nm 6)]) .dat [.ix (.ix (.var 2) (.var 1)) (.k (.int 1))] lfsC]
theorem lfs_all (Fn : Nat → List D → Store → Out D) {p : Pl} (hp : p.Ok) {S0 : Store} : ∀ (F : Fd) {W : Wd5} (x1 x4 x5 x6 x7 : Option D), (∀ x ∈ F, x ∈ netF p) → WOk W →
    ∃ y1 y4 y5 y6 y7, forL (exL Fn lfsE) (.nm 1) (netK F) (lfsR p S0.length x1 x4 x5 x6 x7) (St1 S0 W) = .nx (lfsR p S0.length y1 y4 y5 y6 y7) (St1 S0 (addFs p W F))
  | [], W, x1, x4, x5, x6, x7, _, _ => ⟨x1, x4, x5, x6, x7, rfl⟩
  | x :: F, W, x1, x4, x5, x6, x7, hF, hW => by
    have hx := hF x (.head _)
    have hr : x.2.length ≤ 2880 := (netF_ok hp).short hp hx
    obtain ⟨z4, z5, z6, z7, e1⟩ := lfs_ticks Fn hp (S0 := S0) hx (cho p x.1) x4 x5 x6 x7 hW
    obtain ⟨y2, y4, y5, y6, y7, e2⟩ := lfs_all Fn hp (S0 := S0) F (some x.1.d) z4 z5 z6 z7 (fun y hy => hF y (.tail _ hy)) (WOk.addc (p := p) (s := x.1) hr (cho p x.1) hW)
    refine ⟨y2, y4, y5, y6, y7, ?_⟩
    unfold netK at e2 ⊢
    rw [List.map_cons]
    unfold forL
    have b : bindT (.nm 1) x.1.d (lfsR p S0.length x1 x4 x5 x6 x7) = some (lfsR p S0.length (some x.1.d) x4 x5 x6 x7) := rfl
    have e3 : exS Fn (.for_ (.tup [(.nm 4), (.nm 5), (.nm 6)]) .dat [.ix (.ix (.var 2) (.var 1)) (.k (.int 1))] lfsC) (lfsR p S0.length (some x.1.d) x4 x5 x6 x7) (St1 S0 W) = .nx _ _ := ex_for (ds := [.lst ((cho p x.1).map (tickD p x.1))]) (by simp [lfsR, evs, ev, ix_net hp hx, netX, ix_t, atI_1]) rfl e1
    have e4 : exL Fn lfsE (lfsR p S0.length (some x.1.d) x4 x5 x6 x7) (St1 S0 W) = .nx _ _ := ex_step e3 (exL_n _ _ _)
    simp only [b, e4]
    exact e2
theorem law_firsts_ok (k : Nat) {p : Pl} (hp : p.Ok) {S0 : Store} (hS : LowS S0) : callF tab (k + 4) n__law_firsts [p.d] S0 = .ok (firstD (firstW p)) S0 := by
  rw [u__law_firsts]
  have e0 : callF tab (k + 3) n__law_ways [p.d] S0 = .ok (netD p (netF p)) S0 := law_ways_ok k hp hS
  obtain ⟨y2, y4, y5, y6, y7, e1⟩ := lfs_all (callF tab (k + 3)) hp (S0 := S0) (netF p) none none none none none (fun x hx => hx) WOk.nil
  have e2 : exS (callF tab (k + 3)) (.par [2, 3] [.call n__law_ways [.var 0], .dic0]) [some p.d, none, none, none, none, none, none, none] S0 = .nx (lfsR p S0.length none none none none none) (St1 S0 []) := by
    simp [exS, ev, evs, e0, lfsR, St1, kvsW]
    rfl
  have e3 : exS (callF tab (k + 3)) (.for_ (.nm 1) .dat [.var 2] lfsE) (lfsR p S0.length none none none none none) (St1 S0 []) = .nx _ _ := ex_for (ds := [netD p (netF p)]) (by simp [lfsR, evs, ev]) rfl e1
  have e4 : exL (callF tab (k + 3)) ir__law_firsts.body [some p.d, none, none, none, none, none, none, none] S0 = .rz (.loc S0.length) (St1 S0 (firstW p)) := by
    refine ex_step e2 (ex_step e3 ?_)
    simp [lfsR, exL_c, exS, ev, OutS.seq]
    rfl
  have hW := firstW_ok hp
  exact (congrArg (leave S0.length) e4).trans (leave_rz hS (by unfold St1; rw [List.take_left]) (first_res hW) (low_first hW _))
end Wt
set_option maxRecDepth 100000
set_option maxHeartbeats 1000000
/-! Harms, runs to stands. -/
namespace Wt
open PySem L2
def hl4 : List D := [.str "cold", .str "dear", .str "empty", .str "lost"]
def tW (W : Wd5) : D → Bool
  | .str w => decide (w ∈ W.map (·.1))
  | _ => false
def harmD (W : Wd5) : D := .lst ((hl4.filter (tW W)).map id)
theorem hl4_mem {d : D} (h : d ∈ hl4) : ∃ w, d = .str w ∧ PyData.strOk w = true ∧ w ∈ allWs := by
  unfold hl4 at h
  simp only [List.mem_cons, List.not_mem_nil, or_false] at h
  rcases h with rfl | rfl | rfl | rfl
  · exact ⟨_, rfl, by decide +kernel, by decide +kernel⟩
  · exact ⟨_, rfl, by decide +kernel, by decide +kernel⟩
  · exact ⟨_, rfl, by decide +kernel, by decide +kernel⟩
  · exact ⟨_, rfl, by decide +kernel, by decide +kernel⟩
theorem view_first (W : Wd5) (S : Store) : viewD S (firstD W) = some (kvsW W) := by
  simp only [viewD, firstD, List.zip_map']
  rfl
theorem harm_lc (Fn : Nat → List D → Store → Out D) (W : Wd5) (a0 : Option D) (S : Store) : lcL (ev Fn (.din false (.var 2) (.var 1))) (ev Fn (.var 2)) (.nm 2) (wipeE [a0, some (firstD W), none] [2]) hl4 S = .ok ((hl4.filter (tW W)).map id) S := by
  refine lc_flt _ _ _ _ _ (tW W) id hl4 fun d hd => ?_
  obtain ⟨w, rfl, _, _⟩ := hl4_mem hd
  refine ⟨[a0, some (firstD W), some (.str w)], rfl, ?_, fun _ => ?_⟩
  · have e := din_ok (F := Fn) (neg := false) (a := .var 2) (b := .var 1) (ρ := [a0, some (firstD W), some (.str w)]) (S := S) (k := .str w) (d := firstD W) (by simp [ev]) (by simp [ev]) (view_first W S) (look_W W w)
    rw [e, Option.isSome_map, find_some]
    simp [tW]
  · simp [ev]
theorem harms_by_ok (k : Nat) {p : Pl} (hp : p.Ok) {S0 : Store} (hS : LowS S0) : callF tab (k + 5) n_harms_by [p.d] S0 = .ok (harmD (firstW p)) S0 := by
  rw [u_harms_by]
  have e0 : callF tab (k + 4) n_firsts_by [p.d] S0 = .ok (firstD (firstW p)) S0 := firsts_by_ok k hp hS
  have e1 : ev (callF tab (k + 4)) (.lc (.var 2) (.nm 2) .dat [.k (.tup [.str s_cold, .str s_dear, .str s_empty, .str s_lost])] (.din false (.var 2) (.var 1)) [2]) [some p.d, some (firstD (firstW p)), none] S0 = .ok (harmD (firstW p)) S0 :=
    ev_lc (ds := [.tup hl4]) (items := hl4) (by simp [evs, ev, hl4]) rfl rfl (harm_lc _ _ _ _)
  have e2 : exL (callF tab (k + 4)) ir_harms_by.body [some p.d, none, none] S0 = .rt (harmD (firstW p)) S0 := by
    refine ex_step (ρ1 := [some p.d, some (firstD (firstW p)), none]) (S1 := S0) (by simp [exL_n, exL_c, seq_nx, seq_rt, seq_ex, seq_bk, seq_ct, fl_non, fl_bl, fl_int, fl_str, exS, ev, evs, ix_t, ix_l, ix_s, atI_0, atI_1, atI_2, atI_3, atI_4, atI_5, atI_6, cm_lt, cm_le, cm_gt, cm_ge, cm_eqi, cm_nei, cm_eqs, cm_in2, op_addi, op_subi, op_muli, op_addl, op_addt, op_bl, op_mul0, op_x1, op_x0, op_mod, op_div, pr_int, pr_intb, pr_max, pr_min, pr_abs, bT_n, bT_t, bTs_n, bTs_c, sP_n, sP_c, isNon, iteB, thB, bindB, lift_B, asB_B, setD, e0]) ?_
    simp only [exL_c, exS, e1, Out.thenS_ok, OutS.seq]
  exact (congrArg (leave S0.length) e2).trans (leave_rt _ _)
theorem law_harms_ok (k : Nat) {p : Pl} (hp : p.Ok) {S0 : Store} (hS : LowS S0) : callF tab (k + 5) n__law_harms [p.d] S0 = .ok (harmD (firstW p)) S0 := by
  rw [u__law_harms]
  have e0 : callF tab (k + 4) n__law_firsts [p.d] S0 = .ok (firstD (firstW p)) S0 := law_firsts_ok k hp hS
  have e1 : ev (callF tab (k + 4)) (.lc (.var 2) (.nm 2) .dat [.lst [.k (.str s_cold), .k (.str s_dear), .k (.str s_empty), .k (.str s_lost)]] (.din false (.var 2) (.var 1)) [2]) [some p.d, some (firstD (firstW p)), none] S0 = .ok (harmD (firstW p)) S0 :=
    ev_lc (ds := [.lst hl4]) (items := hl4) (by simp [evs, ev, hl4]) rfl rfl (harm_lc _ _ _ _)
  have e2 : exL (callF tab (k + 4)) ir__law_harms.body [some p.d, none, none] S0 = .rt (harmD (firstW p)) S0 := by
    refine ex_step (ρ1 := [some p.d, some (firstD (firstW p)), none]) (S1 := S0) (by simp [exL_n, exL_c, seq_nx, seq_rt, seq_ex, seq_bk, seq_ct, fl_non, fl_bl, fl_int, fl_str, exS, ev, evs, ix_t, ix_l, ix_s, atI_0, atI_1, atI_2, atI_3, atI_4, atI_5, atI_6, cm_lt, cm_le, cm_gt, cm_ge, cm_eqi, cm_nei, cm_eqs, cm_in2, op_addi, op_subi, op_muli, op_addl, op_addt, op_bl, op_mul0, op_x1, op_x0, op_mod, op_div, pr_int, pr_intb, pr_max, pr_min, pr_abs, bT_n, bT_t, bTs_n, bTs_c, sP_n, sP_c, isNon, iteB, thB, bindB, lift_B, asB_B, setD, e0]) ?_
    simp only [exL_c, exS, e1, Out.thenS_ok, OutS.seq]
  exact (congrArg (leave S0.length) e2).trans (leave_rt _ _)
theorem fit_harm (W : Wd5) (n : Nat) : D.fit (n + 1) (harmD W) = true := fit_lst (by
    rw [List.length_map]
    have := List.length_filter_le (tW W) hl4
    have e : hl4.length = 4 := rfl
    omega) fun d hd => by
  rw [List.map_id] at hd
  obtain ⟨w, rfl, h, _⟩ := hl4_mem (List.mem_filter.mp hd).1
  simpa [D.fit] using h
theorem harms_ok (k : Nat) {p : Pl} (hp : p.Ok) {S0 : Store} (hS : LowS S0) : callF tab (k + 6) n_harms [p.d] S0 = .ok (harmD (firstW p)) S0 := by
  rw [u_harms]
  have e0 : callF tab (k + 5) n_look_at_plan [p.d] S0 = .ok .non S0 := look_at_plan_ok (k + 1) hp S0
  have e1 : callF tab (k + 5) n_harms_by [p.d] S0 = .ok (harmD (firstW p)) S0 := harms_by_ok k hp hS
  have e2 : exL (callF tab (k + 5)) ir_harms.body [some p.d] S0 = .rt (harmD (firstW p)) S0 := by
    simp [ir_harms, exL_n, exL_c, seq_nx, seq_rt, seq_ex, seq_bk, seq_ct, fl_non, fl_bl, fl_int, fl_str, exS, ev, evs, ix_t, ix_l, ix_s, atI_0, atI_1, atI_2, atI_3, atI_4, atI_5, atI_6, cm_lt, cm_le, cm_gt, cm_ge, cm_eqi, cm_nei, cm_eqs, cm_in2, op_addi, op_subi, op_muli, op_addl, op_addt, op_bl, op_mul0, op_x1, op_x0, op_mod, op_div, pr_int, pr_intb, pr_max, pr_min, pr_abs, bT_n, bT_t, bTs_n, bTs_c, sP_n, sP_c, isNon, iteB, thB, bindB, lift_B, asB_B, setD, e0, e1]
  exact (congrArg (leave S0.length) e2).trans (leave_rt _ _)
theorem count_ok (k : Nat) {p : Pl} (hp : p.Ok) {S0 : Store} (hS : LowS S0) : callF tab (k + 5) n_count_stands [p.d] S0 = .ok (.int ((netF p).length : Nat)) S0 := by
  rw [u_count_stands]
  have e0 : callF tab (k + 4) n_look_at_plan [p.d] S0 = .ok .non S0 := look_at_plan_ok k hp S0
  have e1 : callF tab (k + 4) n_net_of [p.d] S0 = .ok (netD p (netF p)) S0 := net_of_ok (k + 1) hp hS
  have e3 : prD .len [netD p (netF p)] S0 = some (.int ((netF p).length : Nat)) := by simp [netD, prD, netK]
  have e2 : exL (callF tab (k + 4)) ir_count_stands.body [some p.d] S0 = .rt (.int ((netF p).length : Nat)) S0 := by
    simp [ir_count_stands, exL_n, exL_c, seq_nx, seq_rt, seq_ex, seq_bk, seq_ct, fl_non, fl_bl, fl_int, fl_str, exS, ev, evs, ix_t, ix_l, ix_s, atI_0, atI_1, atI_2, atI_3, atI_4, atI_5, atI_6, cm_lt, cm_le, cm_gt, cm_ge, cm_eqi, cm_nei, cm_eqs, cm_in2, op_addi, op_subi, op_muli, op_addl, op_addt, op_bl, op_mul0, op_x1, op_x0, op_mod, op_div, pr_int, pr_intb, pr_max, pr_min, pr_abs, bT_n, bT_t, bTs_n, bTs_c, sP_n, sP_c, isNon, iteB, thB, bindB, lift_B, asB_B, setD, e0, e1, e3]
  exact (congrArg (leave S0.length) e2).trans (leave_rt _ _)
/-- the run to a stand -/
def toV (p : Pl) (s : Sd) : D := match (netF p).find? fun x => decide (x.1 = s) with
  | some x => runD x.2
  | none => .non
theorem fit_toV {p : Pl} (hp : p.Ok) (s : Sd) (n : Nat) : D.fit (n + 2) (toV p s) = true := by
  unfold toV
  split
  · rename_i x hx
    have := (netF_ok hp).short hp (List.mem_of_find?_eq_some hx)
    exact fit_run (by omega) n
  · rfl
theorem to_ev (Fn : Nat → List D → Store → Out D) {p : Pl} (hp : p.Ok) {a b : E} {ρ : Slots} {S : Store} {s : Sd} (ha : ev Fn a ρ S = .ok s.d S) (hb : ev Fn b ρ S = .ok (netD p (netF p)) S) :
    ev Fn (.ite (.din false a b) (.ix (.ix b a) (.k (.int 0))) (.k .non)) ρ S = .ok (toV p s) S := by
  have e := din_ok (F := Fn) (neg := false) ha hb (kvs := (netK (netF p)).zip (netV p (netF p))) rfl (look_net p (netF p) s)
  rw [ev_if, e]
  unfold toV
  cases hf : (netF p).find? fun x => decide (x.1 = s) with
  | none => simp [ev]
  | some x =>
    have hx := List.mem_of_find?_eq_some hf
    have hs : x.1 = s := by simpa using List.find?_some hf
    have := ix_net hp hx S
    rw [hs] at this
    simp [ev, ha, hb, this, netX, ix_t, atI_0]
theorem run_to_ok (k : Nat) {p : Pl} (hp : p.Ok) {s : Sd} (hs : s.Ok p) {S0 : Store} (hS : LowS S0) : callF tab (k + 5) n_run_to [p.d, s.d] S0 = .ok (toV p s) S0 := by
  rw [u_run_to]
  have e0 : callF tab (k + 4) n_look_at_plan [p.d] S0 = .ok .non S0 := look_at_plan_ok k hp S0
  have e1 : callF tab (k + 4) n_look_at_stand [p.d, s.d] S0 = .ok .non S0 := look_at_stand_ok (k + 1) s.d (flat_stand s) (fitsD_stand hs) S0
  have e2 : callF tab (k + 4) n_net_of [p.d] S0 = .ok (netD p (netF p)) S0 := net_of_ok (k + 1) hp hS
  have e3 := to_ev (callF tab (k + 4)) hp (a := .var 1) (b := .var 2) (ρ := [some p.d, some s.d, some (netD p (netF p))]) (S := S0) (s := s) (by simp [ev]) (by simp [ev])
  have e4 : exL (callF tab (k + 4)) ir_run_to.body [some p.d, some s.d, none] S0 = .rt (toV p s) S0 := by
    refine ex_step (ρ1 := [some p.d, some s.d, none]) (S1 := S0) (by simp [exL_n, exL_c, seq_nx, seq_rt, seq_ex, seq_bk, seq_ct, fl_non, fl_bl, fl_int, fl_str, exS, ev, evs, ix_t, ix_l, ix_s, atI_0, atI_1, atI_2, atI_3, atI_4, atI_5, atI_6, cm_lt, cm_le, cm_gt, cm_ge, cm_eqi, cm_nei, cm_eqs, cm_in2, op_addi, op_subi, op_muli, op_addl, op_addt, op_bl, op_mul0, op_x1, op_x0, op_mod, op_div, pr_int, pr_intb, pr_max, pr_min, pr_abs, bT_n, bT_t, bTs_n, bTs_c, sP_n, sP_c, isNon, iteB, thB, bindB, lift_B, asB_B, setD, e0]) ?_
    refine ex_step (ρ1 := [some p.d, some s.d, none]) (S1 := S0) (by simp [exL_n, exL_c, seq_nx, seq_rt, seq_ex, seq_bk, seq_ct, fl_non, fl_bl, fl_int, fl_str, exS, ev, evs, ix_t, ix_l, ix_s, atI_0, atI_1, atI_2, atI_3, atI_4, atI_5, atI_6, cm_lt, cm_le, cm_gt, cm_ge, cm_eqi, cm_nei, cm_eqs, cm_in2, op_addi, op_subi, op_muli, op_addl, op_addt, op_bl, op_mul0, op_x1, op_x0, op_mod, op_div, pr_int, pr_intb, pr_max, pr_min, pr_abs, bT_n, bT_t, bTs_n, bTs_c, sP_n, sP_c, isNon, iteB, thB, bindB, lift_B, asB_B, setD, e1]) ?_
    refine ex_step (ρ1 := [some p.d, some s.d, some (netD p (netF p))]) (S1 := S0) (by simp [exL_n, exL_c, seq_nx, seq_rt, seq_ex, seq_bk, seq_ct, fl_non, fl_bl, fl_int, fl_str, exS, ev, evs, ix_t, ix_l, ix_s, atI_0, atI_1, atI_2, atI_3, atI_4, atI_5, atI_6, cm_lt, cm_le, cm_gt, cm_ge, cm_eqi, cm_nei, cm_eqs, cm_in2, op_addi, op_subi, op_muli, op_addl, op_addt, op_bl, op_mul0, op_x1, op_x0, op_mod, op_div, pr_int, pr_intb, pr_max, pr_min, pr_abs, bT_n, bT_t, bTs_n, bTs_c, sP_n, sP_c, isNon, iteB, thB, bindB, lift_B, asB_B, setD, e2]) ?_
    simp only [exL_c, exS, e3, Out.thenS_ok, OutS.seq]
  exact (congrArg (leave S0.length) e4).trans (leave_rt _ _)
/-- the first run with a word, or None -/
def firstV (W : Wd5) (w : Str) : D := ((findW W w).map runD).getD .non
theorem get_first (W : Wd5) (w : Str) (S : Store) : getD (firstD W) (.str w) .non S = some (firstV W w) := by
  simp only [getD, view_first, look_W, Option.map_some]
  rfl
theorem fit_firstW {W : Wd5} (h : WOk W) (w : Str) (n : Nat) : D.fit (n + 2) (firstV W w) = true := by
  unfold firstV findW
  cases hf : W.find? fun x => decide (x.1 = w) with
  | none => rfl
  | some x =>
    have := h.rl x (List.mem_of_find?_eq_some hf)
    exact fit_run (r := x.2) (by omega) n
theorem first_ev {Fn : Nat → List D → Store → Out D} {a b : E} {ρ : Slots} {S : Store} {W : Wd5} {w : Str} (ha : ev Fn a ρ S = .ok (firstD W) S) (hb : ev Fn b ρ S = .ok (.str w) S) : ev Fn (.get1 a b) ρ S = .ok (firstV W w) S := by
  simp only [ev, ha, hb, Out.bind_ok, view_first, Option.isSome_some, if_true, get_first, lift_some]
theorem not_in4 {d : D} (h : d ∈ hl4) : cmpD .NotIn d (.tup [.str s_cold, .str s_dear, .str s_empty, .str s_lost]) = some false := by
  unfold hl4 at h
  simp only [List.mem_cons, List.not_mem_nil, or_false] at h
  rcases h with rfl | rfl | rfl | rfl <;> rfl
theorem look_harm_ok (k : Nat) {d : D} (h : d ∈ hl4) (S : Store) : callF tab (k + 1) n_look_at_harm [d] S = .ok .non S := by
  rw [u_look_at_harm]
  have e := not_in4 h
  obtain ⟨w, rfl, hw, _⟩ := hl4_mem h
  have e2 : tysD [.str] (.str w) = some true := rfl
  have e3 : exL (callF tab k) ir_look_at_harm.body [some (.str w)] S = .nx [some (.str w)] S := by
    simp [ir_look_at_harm, exL_n, exL_c, seq_nx, seq_rt, seq_ex, seq_bk, seq_ct, fl_non, fl_bl, fl_int, fl_str, exS, ev, evs, ix_t, ix_l, ix_s, atI_0, atI_1, atI_2, atI_3, atI_4, atI_5, atI_6, cm_lt, cm_le, cm_gt, cm_ge, cm_eqi, cm_nei, cm_eqs, cm_in2, op_addi, op_subi, op_muli, op_addl, op_addt, op_bl, op_mul0, op_x1, op_x0, op_mod, op_div, pr_int, pr_intb, pr_max, pr_min, pr_abs, bT_n, bT_t, bTs_n, bTs_c, sP_n, sP_c, isNon, iteB, thB, bindB, lift_B, asB_B, setD, e, e2]
  exact (congrArg (leave S.length) e3).trans (leave_nx _ _)
theorem first_harm_ok (k : Nat) {p : Pl} (hp : p.Ok) {w : Str} (hw : D.str w ∈ hl4) {S0 : Store} (hS : LowS S0) : callF tab (k + 5) n_first_harm [p.d, .str w] S0 = .ok (firstV (firstW p) w) S0 := by
  rw [u_first_harm]
  have e0 : callF tab (k + 4) n_look_at_plan [p.d] S0 = .ok .non S0 := look_at_plan_ok k hp S0
  have e1 : callF tab (k + 4) n_look_at_harm [.str w] S0 = .ok .non S0 := look_harm_ok (k + 3) hw S0
  have e2 : callF tab (k + 4) n_firsts_by [p.d] S0 = .ok (firstD (firstW p)) S0 := firsts_by_ok k hp hS
  have e3 := first_ev (Fn := callF tab (k + 4)) (a := .call n_firsts_by [.var 0]) (b := .var 1) (ρ := [some p.d, some (.str w)]) (S := S0) (W := firstW p) (w := w) (by simp [ev, evs, e2]) (by simp [ev])
  have e4 : exL (callF tab (k + 4)) ir_first_harm.body [some p.d, some (.str w)] S0 = .rt (firstV (firstW p) w) S0 := by
    refine ex_step (ρ1 := [some p.d, some (.str w)]) (S1 := S0) (by simp [exL_n, exL_c, seq_nx, seq_rt, seq_ex, seq_bk, seq_ct, fl_non, fl_bl, fl_int, fl_str, exS, ev, evs, ix_t, ix_l, ix_s, atI_0, atI_1, atI_2, atI_3, atI_4, atI_5, atI_6, cm_lt, cm_le, cm_gt, cm_ge, cm_eqi, cm_nei, cm_eqs, cm_in2, op_addi, op_subi, op_muli, op_addl, op_addt, op_bl, op_mul0, op_x1, op_x0, op_mod, op_div, pr_int, pr_intb, pr_max, pr_min, pr_abs, bT_n, bT_t, bTs_n, bTs_c, sP_n, sP_c, isNon, iteB, thB, bindB, lift_B, asB_B, setD, e0]) ?_
    refine ex_step (ρ1 := [some p.d, some (.str w)]) (S1 := S0) (by simp [exL_n, exL_c, seq_nx, seq_rt, seq_ex, seq_bk, seq_ct, fl_non, fl_bl, fl_int, fl_str, exS, ev, evs, ix_t, ix_l, ix_s, atI_0, atI_1, atI_2, atI_3, atI_4, atI_5, atI_6, cm_lt, cm_le, cm_gt, cm_ge, cm_eqi, cm_nei, cm_eqs, cm_in2, op_addi, op_subi, op_muli, op_addl, op_addt, op_bl, op_mul0, op_x1, op_x0, op_mod, op_div, pr_int, pr_intb, pr_max, pr_min, pr_abs, bT_n, bT_t, bTs_n, bTs_c, sP_n, sP_c, isNon, iteB, thB, bindB, lift_B, asB_B, setD, e1]) ?_
    simp only [exL_c, exS, e3, Out.thenS_ok, OutS.seq]
  exact (congrArg (leave S0.length) e4).trans (leave_rt _ _)
/-! ### small plans -/
structure Pl.Small (p : Pl) : Prop where
  t : p.tank ≤ 2
  h : p.heat ≤ 2
  c : p.cool ≤ 2
  m : p.most ≤ 2
  a : p.apart ≤ 1
theorem small_ok (k : Nat) {n : Nat} {S : Store} (h : Spr2 n S) : ∃ (p : Pl) (S' : Store), p.Ok ∧ p.Small ∧ callF tab (k + 4) n__law_small [.loc n] S = .ok p.d S' ∧ Spr2 n S' ∧ S'.length = S.length := by
  obtain ⟨p, S1, hp, e1, h1, g1⟩ := plan2_ok k h
  refine ⟨⟨if p.tank < 2 then p.tank else 2, if p.heat < 2 then p.heat else 2, if p.cool < 2 then p.cool else 2, p.level, p.all, p.hand, if p.most < 2 then p.most else 2, if p.apart < 1 then p.apart else 1⟩, S1, ?_, ?_, ?_, h1, g1⟩
  · obtain ⟨t1, t2, a1, a2, c1, c2, l1, l2, m1, m2, b1, b2⟩ := hp
    constructor <;> simp only <;> (try split) <;> omega
  · constructor <;> simp only <;> split <;> omega
  · rw [u__law_small]
    have e2 : callF tab (k + 3) n__law_plan [.loc n] S = .ok p.d S1 := e1
    have e3 : exL (callF tab (k + 3)) ir__law_small.body [some (.loc n), none, none, none, none, none] S = .rt (Pl.d ⟨if p.tank < 2 then p.tank else 2, if p.heat < 2 then p.heat else 2, if p.cool < 2 then p.cool else 2, p.level, p.all, p.hand, if p.most < 2 then p.most else 2, if p.apart < 1 then p.apart else 1⟩) S1 := by
      simp [ir__law_small, exL_n, exL_c, seq_nx, seq_rt, seq_ex, seq_bk, seq_ct, fl_non, fl_bl, fl_int, fl_str, exS, ev, evs, ix_t, ix_l, ix_s, atI_0, atI_1, atI_2, atI_3, atI_4, atI_5, atI_6, cm_lt, cm_le, cm_gt, cm_ge, cm_eqi, cm_nei, cm_eqs, cm_in2, op_addi, op_subi, op_muli, op_addl, op_addt, op_bl, op_mul0, op_x1, op_x0, op_mod, op_div, pr_int, pr_intb, pr_max, pr_min, pr_abs, bT_n, bT_t, bTs_n, bTs_c, sP_n, sP_c, isNon, iteB, thB, bindB, lift_B, asB_B, setD, e2, Pl.d]
    exact (congrArg (leave S.length) e3).trans (leave_rt' _ g1)
end Wt
set_option maxRecDepth 100000
set_option maxHeartbeats 1000000
/-! Dicts as lists of keys and values, whatever the keys are. -/
namespace Wt
open PySem L2
/-- keys of one kind -/
structure KeyT (κ : Type) where
  d : κ → D
  sm : ∀ k, (nkD 8 (d k)).isSome = true
  inj : ∀ {a b}, nkD 8 (d a) = nkD 8 (d b) → a = b
  t : Bool
  kt : ∀ k, kindT (d k) = t
  as_ : ∀ k, (match d k with
    | .tup _ => true
    | .int _ => true
    | .str _ => true
    | _ => false) = true
section
variable {κ β : Type} [DecidableEq κ] {K : KeyT κ} {g : β → D} {l : List (κ × β)} {k : κ} {v : β}
def getA (l : List (κ × β)) (k : κ) : Option β := (l.find? fun x => decide (x.1 = k)).map (·.2)
def putA (l : List (κ × β)) (k : κ) (v : β) : List (κ × β) := if (getA l k).isSome then l.map (fun x => if x.1 = k then (x.1, v) else x) else l ++ [(k, v)]
def kvA (K : KeyT κ) (g : β → D) (l : List (κ × β)) : List (D × D) := l.map fun x => (K.d x.1, g x.2)
theorem kvA_len : (kvA K g l).length = l.length := by simp [kvA]
theorem kvA_ok : keyOk (kvA K g l) (K.d k) = true := by
  unfold keyOk
  simp only [Bool.and_eq_true]
  refine ⟨⟨K.sm k, K.as_ k⟩, ?_⟩
  cases l with
  | nil => rfl
  | cons x l => simp [kvA, K.kt]
theorem kvA_look : lookD (kvA K g l) (K.d k) = some ((getA l k).map g) := by
  unfold lookD
  rw [kvA_ok, if_pos rfl]
  unfold dGetD
  obtain ⟨q, hq⟩ := Option.isSome_iff_exists.mp (K.sm k)
  rw [hq]
  unfold kvA getA
  simp only [List.find?_map, Option.map_map, Option.some.injEq]
  have e : ((fun (p : D × D) => decide (nkD 8 p.fst = some q)) ∘ fun (x : κ × β) => (K.d x.1, g x.2)) = fun (x : κ × β) => decide (x.1 = k) := by
    funext x
    simp only [Function.comp]
    by_cases h : x.1 = k
    · have h1 : nkD 8 (K.d x.1) = some q := by rw [h, hq]
      rw [decide_eq_true h, decide_eq_true h1]
    · rw [decide_eq_false h, decide_eq_false fun z => h (K.inj (z.trans hq.symm))]
  rw [e]
  rfl
theorem kvA_put : dPutD (kvA K g l) (K.d k) (g v) = kvA K g (putA l k v) := by
  have h := kvA_look (K := K) (g := g) (l := l) (k := k)
  have h2 := (look_get h).1
  unfold dPutD putA
  rw [h2, Option.isSome_map]
  split
  · unfold kvA
    rw [List.map_map, List.map_map]
    refine List.map_congr_left fun x _ => ?_
    simp only [Function.comp]
    by_cases e : x.1 = k
    · rw [if_pos e, if_pos (by rw [e])]
    · rw [if_neg e, if_neg fun z => e (K.inj z)]
  · simp [kvA]
theorem getA_some : (getA l k).isSome = true ↔ k ∈ l.map (·.1) := by
  unfold getA
  rw [Option.isSome_map, List.find?_isSome]
  constructor
  · rintro ⟨x, hx, e⟩
    exact List.mem_map.mpr ⟨x, hx, by simpa using e⟩
  · intro h
    obtain ⟨x, hx, e⟩ := List.mem_map.mp h
    exact ⟨x, hx, by simpa using e⟩
theorem getA_none (h : k ∉ l.map (·.1)) : getA l k = none := by
  cases e : getA l k with
  | none => rfl
  | some v => exact absurd (getA_some.mp (by rw [e]; rfl)) h
theorem getA_mem {v : β} (h : getA l k = some v) : (k, v) ∈ l := by
  unfold getA at h
  obtain ⟨x, hx, e⟩ := Option.map_eq_some_iff.mp h
  have h1 := List.mem_of_find?_eq_some hx
  have h2 : x.1 = k := by simpa using List.find?_some hx
  rw [← h2, ← e]
  exact h1
theorem getA_of (nd : (l.map (·.1)).Nodup) {v : β} (h : (k, v) ∈ l) : getA l k = some v := by
  induction l with
  | nil => cases h
  | cons x l ih =>
    rw [List.map_cons, List.nodup_cons] at nd
    unfold getA
    rcases List.mem_cons.mp h with e | h
    · subst e
      simp
    · have hne : x.1 ≠ k := fun z => nd.1 (List.mem_map.mpr ⟨(k, v), h, z.symm⟩)
      simp only [List.find?_cons, decide_eq_false hne]
      exact ih nd.2 h
theorem putA_new (h : k ∉ l.map (·.1)) : putA l k v = l ++ [(k, v)] := by
  unfold putA
  rw [getA_none h]
  rfl
theorem putA_keys : (putA l k v).map (·.1) = if k ∈ l.map (·.1) then l.map (·.1) else l.map (·.1) ++ [k] := by
  unfold putA
  by_cases h : k ∈ l.map (·.1)
  · rw [if_pos h, if_pos (getA_some.mpr h), List.map_map]
    refine List.map_congr_left fun x _ => ?_
    simp only [Function.comp]
    split <;> rfl
  · rw [if_neg h, if_neg fun z => h (getA_some.mp z)]
    simp
theorem putA_nodup (h : (l.map (·.1)).Nodup) : ((putA l k v).map (·.1)).Nodup := by
  rw [putA_keys]
  split
  · exact h
  · rename_i hn
    rw [List.nodup_append]
    refine ⟨h, by simp, fun a ha b hb => ?_⟩
    rw [List.mem_singleton.mp hb]
    exact fun z => hn (z ▸ ha)
theorem putA_mem {x : κ} : x ∈ (putA l k v).map (·.1) ↔ x ∈ l.map (·.1) ∨ x = k := by
  rw [putA_keys]
  split
  · rename_i h
    exact ⟨.inl, fun z => z.elim id fun e => e ▸ h⟩
  · simp
theorem getA_put {x : κ} : getA (putA l k v) x = if x = k then some v else getA l x := by
  unfold putA
  split
  · rename_i h
    have hk := getA_some.mp h
    clear h
    induction l with
    | nil => simp at hk
    | cons y l ih =>
      unfold getA at ih ⊢
      by_cases e : y.1 = k
      · by_cases ex : x = k
        · simp [List.find?_cons, e, ex]
        · have h1 : ¬ y.1 = x := fun z => ex (z.symm.trans e)
          simp only [List.map_cons, List.find?_cons, if_pos e, decide_eq_false h1, if_neg ex]
          rw [if_neg ex] at ih
          by_cases hm : k ∈ l.map (·.1)
          · exact ih hm
          · have : l.map (fun x => if x.1 = k then (x.1, v) else x) = l := by
              refine (List.map_congr_left fun z hz => ?_).trans (List.map_id _)
              have : z.1 ≠ k := fun q => hm (List.mem_map.mpr ⟨z, hz, q⟩)
              simp [this]
            rw [this]
      · have hm : k ∈ l.map (·.1) := by
          rw [List.map_cons] at hk
          exact (List.mem_cons.mp hk).resolve_left fun z => e z.symm
        by_cases h1 : y.1 = x
        · have ex : ¬ x = k := fun z => e (h1.trans z)
          simp [List.find?_cons, e, h1, ex]
        · simp only [List.map_cons, List.find?_cons, if_neg e, decide_eq_false h1]
          exact ih hm
  · rename_i h
    have hk : k ∉ l.map (·.1) := fun z => h (getA_some.mpr z)
    unfold getA
    rw [List.find?_append]
    by_cases ex : x = k
    · subst ex
      have := getA_none hk
      unfold getA at this
      rw [Option.map_eq_none_iff] at this
      rw [this]
      simp
    · rw [if_neg ex]
      cases e : l.find? (fun x_1 => decide (x_1.fst = x)) with
      | some y => simp
      | none =>
        have : ¬ k = x := fun z => ex z.symm
        simp [this]
theorem putA_fold (f : κ → β) : ∀ (ks : List κ) (l : List (κ × β)), (l.map (·.1) ++ ks).Nodup → ks.foldl (fun a k => putA a k (f k)) l = l ++ ks.map fun k => (k, f k)
  | [], l, _ => by simp
  | k :: ks, l, h => by
    have hk : k ∉ l.map (·.1) := by
      rw [List.nodup_append] at h
      exact fun z => h.2.2 k z k (.head _) rfl
    rw [List.foldl_cons, putA_new hk, putA_fold f ks _ (by simpa using h)]
    simp
end
/-- a loop that gathers -/
theorem forL_fold {σ : Type} {body : Slots → Store → OutS} {g : Tg} (P : σ → Slots → Store → Prop) (step : σ → D → σ) : ∀ (ds : List D) (a : σ) (ρ : Slots) (S : Store), P a ρ S →
    (∀ d ∈ ds, ∀ a ρ S, P a ρ S → ∃ ρ1, bindT g d ρ = some ρ1 ∧ ∃ ρ2 S2, body ρ1 S = .nx ρ2 S2 ∧ P (step a d) ρ2 S2) → ∃ ρ' S', forL body g ds ρ S = .nx ρ' S' ∧ P (ds.foldl step a) ρ' S'
  | [], a, ρ, S, h, _ => ⟨ρ, S, rfl, h⟩
  | d :: ds, a, ρ, S, h, k => by
    obtain ⟨ρ1, e1, ρ2, S2, e2, h2⟩ := k d (.head _) a ρ S h
    obtain ⟨ρ3, S3, e3, h3⟩ := forL_fold P step ds (step a d) ρ2 S2 h2 fun d' hd => k d' (.tail _ hd)
    refine ⟨ρ3, S3, ?_, h3⟩
    unfold forL
    simp only [e1, e2]
    exact e3
end Wt
set_option maxRecDepth 100000
set_option maxHeartbeats 1000000
namespace Wt
namespace K08
open PySem L2
theorem not_ok {F : Nat → List D → Store → Out D} {a : E} {ρ : Slots} {S S1 : Store} {b : Bool} (h : ev F a ρ S = .ok (.bl b) S1) : ev F (.not a) ρ S = .ok (.bl !b) S1 := by
  rw [ev, h]
  rfl
theorem evs_1 {F : Nat → List D → Store → Out D} {a : E} {ρ : Slots} {S S1 : Store} {x : D} (ha : ev F a ρ S = .ok x S1) : evs F [a] ρ S = .ok [x] S1 := by
  rw [evs, ha, Out.bind_ok, evs]
  rfl
theorem evs_2 {F : Nat → List D → Store → Out D} {a b : E} {ρ : Slots} {S S1 S2 : Store} {x y : D} (ha : ev F a ρ S = .ok x S1) (hb : ev F b ρ S1 = .ok y S2) : evs F [a, b] ρ S = .ok [x, y] S2 := by
  rw [evs, ha, Out.bind_ok, evs, hb, Out.bind_ok, evs]
  rfl
theorem call_ok {F : Nat → List D → Store → Out D} {f : Nat} {es : List E} {ρ : Slots} {S S1 : Store} {ds : List D} {o : Out D} (h : evs F es ρ S = .ok ds S1) (hF : F f ds S1 = o) : ev F (.call f es) ρ S = o := by
  rw [ev, h]
  exact hF
/-! ### programs, tanks -/
abbrev Pq := Nat × Bool × Bool
def prgD (q : Pq) : D := .tup [.int (q.1 : Int), .str (hourS q.2.1), .bl q.2.2]
def prgs : List Pq := [(0, true, false), (0, true, true), (0, false, false), (0, false, true), (1, true, false), (1, true, true), (1, false, false), (1, false, true), (2, true, false), (2, true, true), (2, false, false), (2, false, true), (3, true, false), (3, true, true), (3, false, false), (3, false, true)]
def wp (p : Pl) (q : Pq) : Pl := { p with level := (q.1 : Int), all := q.2.1, hand := q.2.2 }
def wt (p : Pl) (n : Nat) : Pl := { p with tank := (n : Int) }
theorem wp_ok {p : Pl} (h : p.Ok) {q : Pq} (hq : q ∈ prgs) : (wp p q).Ok := by
  have hl : q.1 ≤ 3 := by
    have : ∀ q ∈ prgs, q.1 ≤ 3 := by decide
    exact this q hq
  obtain ⟨t1, t2, a1, a2, c1, c2, l1, l2, m1, m2, b1, b2⟩ := h
  exact ⟨t1, t2, a1, a2, c1, c2, by show (0 : Int) ≤ (q.1 : Int); omega, by show (q.1 : Int) ≤ 3; omega, m1, m2, b1, b2⟩
theorem wt_ok {p : Pl} (h : p.Ok) {n : Nat} (h1 : 1 ≤ n) (h4 : n ≤ 4) : (wt p n).Ok := by
  obtain ⟨t1, t2, a1, a2, c1, c2, l1, l2, m1, m2, b1, b2⟩ := h
  exact ⟨by show (1 : Int) ≤ (n : Int); omega, by show (n : Int) ≤ 4; omega, a1, a2, c1, c2, l1, l2, m1, m2, b1, b2⟩
theorem ev_wp {Fn : Nat → List D → Store → Out D} {a b : E} {ρ : Slots} {S : Store} {p : Pl} {q : Pq} (ha : ev Fn a ρ S = .ok p.d S) (hb : ev Fn b ρ S = .ok (prgD q) S) :
    ev Fn (.op .Add (.sl a (.k .non) (.k (.int 3))) (.tup [b, .ix a (.k (.int 4))])) ρ S = .ok (wp p q).d S := by
  have e1 : slD p.d none (some 3) = some (.tup [.int p.tank, .int p.heat, .int p.cool]) := rfl
  have e2 : ixD p.d (.int 4) S = some (.tup [.int p.most, .int p.apart]) := rfl
  have e3 : opD .Add (.tup [.int p.tank, .int p.heat, .int p.cool]) (.tup [prgD q, .tup [.int p.most, .int p.apart]]) = some (wp p q).d := rfl
  simp [ev, evs, ha, hb, isNon, asI, Out.bind, e1, e2, e3]
theorem ev_wt {Fn : Nat → List D → Store → Out D} {a b : E} {ρ : Slots} {S : Store} {p : Pl} {n : Nat} (ha : ev Fn a ρ S = .ok p.d S) (hb : ev Fn b ρ S = .ok (.int (n : Int)) S) :
    ev Fn (.op .Add (.tup [b]) (.sl a (.k (.int 1)) (.k .non))) ρ S = .ok (wt p n).d S := by
  have e1 : slD p.d (some 1) none = some (.tup [.int p.heat, .int p.cool, p.prog, .tup [.int p.most, .int p.apart]]) := rfl
  have e3 : opD .Add (.tup [.int (n : Int)]) (.tup [.int p.heat, .int p.cool, p.prog, .tup [.int p.most, .int p.apart]]) = some (wt p n).d := rfl
  simp [ev, evs, ha, hb, isNon, asI, Out.bind, e1, e3]
/-! ### wishes -/
def hmS (b1 b2 b3 b4 : Bool) : List Str := (if b1 then [("cold" : Str)] else []) ++ (if b2 then [("dear" : Str)] else []) ++ (if b3 then [("empty" : Str)] else []) ++ (if b4 then [("lost" : Str)] else [])
def wsD (ws : List Str) : List D := ws.map D.str
/-- all that may be wished -/
structure Wish (ws : List Str) : Prop where
  sub : ∀ w ∈ ws, D.str w ∈ hl4
  len : ws.length ≤ 4
  srt : sortS (ws.foldl addT []) = ws
theorem wish_of (b1 b2 b3 b4 : Bool) (j : Nat) : Wish ((hmS b1 b2 b3 b4).take j) := by
  have all : ∀ b1 b2 b3 b4, ∀ j ∈ [0, 1, 2, 3, 4], (∀ w ∈ (hmS b1 b2 b3 b4).take j, w ∈ (["cold", "dear", "empty", "lost"] : List Str)) ∧ ((hmS b1 b2 b3 b4).take j).length ≤ 4 ∧ sortS (((hmS b1 b2 b3 b4).take j).foldl addT []) = (hmS b1 b2 b3 b4).take j := by decide +kernel
  have key : ∃ i ∈ [0, 1, 2, 3, 4], (hmS b1 b2 b3 b4).take j = (hmS b1 b2 b3 b4).take i := by
    by_cases h : j ≤ 4
    · exact ⟨j, by simp; omega, rfl⟩
    · refine ⟨4, by simp, ?_⟩
      have hl : (hmS b1 b2 b3 b4).length ≤ 4 := by cases b1 <;> cases b2 <;> cases b3 <;> cases b4 <;> decide
      rw [List.take_of_length_le (by omega), List.take_of_length_le hl]
  obtain ⟨i, hi, e⟩ := key
  rw [e]
  obtain ⟨h1, h2, h3⟩ := all b1 b2 b3 b4 i hi
  refine ⟨fun w hw => ?_, h2, h3⟩
  have := h1 w hw
  simp only [List.mem_cons, List.not_mem_nil, or_false] at this
  rcases this with rfl | rfl | rfl | rfl <;> simp [hl4]
theorem wish_flat {ws : List Str} (h : ∀ w ∈ ws, D.str w ∈ hl4) (n : Nat) : D.flatAll n (wsD ws) = true := by
  induction ws with
  | nil => cases n <;> rfl
  | cons w ws ih =>
    obtain ⟨w', e, hw, _⟩ := hl4_mem (h w (.head _))
    cases e
    have h2 : D.flatAll n (wsD ws) = true := ih fun x hx => h x (.tail _ hx)
    show (D.flat n (.str w) && D.flatAll n (wsD ws)) = true
    rw [h2, fl_str _ _ hw]
    rfl
theorem eqv_strs : ∀ ws : List Str, D.eqvAll (wsD ws) (wsD ws) = true
  | [] => rfl
  | w :: ws => by
    show (D.eqv (.str w) (.str w) && D.eqvAll (wsD ws) (wsD ws)) = true
    rw [eqv_strs ws]
    simp [D.eqv]
theorem strs_ws : ∀ ws : List Str, strsD (wsD ws) = some ws
  | [] => rfl
  | w :: ws => by
    show (strsD (wsD ws)).map (w :: ·) = _
    rw [strs_ws ws]
    rfl
theorem look_wishes_ok (k : Nat) {ws : List Str} (h : Wish ws) (S : Store) : callF tab (k + 2) n_look_at_wishes [.tup (wsD ws)] S = .ok .non S := by
  rw [u_look_at_wishes]
  have e1 : exS (callF tab (k + 1)) (.ite (.not (.isi [.tuple] (.var 0))) [.raise c_InvalidHarm] []) [some (.tup (wsD ws)), none] S = .nx [some (.tup (wsD ws)), none] S := ite_no (by
    have : tysD [.tuple] (.tup (wsD ws)) = some true := rfl
    simp [ev, this])
  obtain ⟨ρ', S', e2, y, rfl, hT⟩ := forL_inv (body := exL (callF tab (k + 1)) [.exp (.call n_look_at_harm [.var 1])]) (g := .nm 1) (fun ρ T => ∃ y : Option D, ρ = [some (.tup (wsD ws)), y] ∧ T = S) (wsD ws) [some (.tup (wsD ws)), none] S ⟨none, rfl, rfl⟩ (by
    rintro d hd ρ T ⟨y, rfl, rfl⟩
    obtain ⟨w, hw, rfl⟩ := List.mem_map.mp hd
    have e := look_harm_ok k (h.sub w hw) T
    refine ⟨[some (.tup (wsD ws)), some (.str w)], rfl, _, _, ?_, some (.str w), rfl, rfl⟩
    simp [exL_c, exL_n, exS, ev, evs, e, OutS.seq])
  rw [hT] at e2
  have e3 := ex_for (F := callF tab (k + 1)) (g := .nm 1) (it := .dat) (es := [.var 0]) (S := S) (ds := [.tup (wsD ws)]) (by simp [evs, ev]) rfl e2
  have e4 : ev (callF tab (k + 1)) (.cmp .NotEq (.prim .list [.var 0]) (.sset (.var 0))) [some (.tup (wsD ws)), y] S = .ok (.bl false) S := by
    have hl : ws.length < 60 := by have := h.len; omega
    have f : D.flat 60 (.lst (wsD ws)) = true := wish_flat h.sub 59
    have q : D.eqv (.lst (wsD ws)) (.lst (wsD ws)) = true := eqv_strs ws
    have c : cmpD .NotEq (.lst (wsD ws)) (.lst (wsD ws)) = some false := by simp [cmpD, f, q]
    have s : (sortS (ws.foldl addT [])).map D.str = wsD ws := by rw [h.srt]; rfl
    have pr : prD .list [.tup (wsD ws)] S = some (.lst (wsD ws)) := rfl
    simp [ev, evs, strs_ws, hl, s, c, pr]
  have e5 : exL (callF tab (k + 1)) ir_look_at_wishes.body [some (.tup (wsD ws)), none] S = .nx [some (.tup (wsD ws)), y] S := ex_step e1 (ex_step e3 (ex_step (ite_no e4) (exL_n _ _ _)))
  exact (congrArg (leave S.length) e5).trans (leave_nx _ _)
/-! ### good ones -/
def goodB (p : Pl) (ws : List Str) : Bool := !(ws.any fun w => tW (firstW p) (.str w))
theorem in_harm (W : Wd5) {w : Str} (h : D.str w ∈ hl4) : cmpD .In (.str w) (harmD W) = some (tW W (.str w)) := by
  unfold harmD hl4
  rw [List.map_id]
  have h0 : ∀ b1 b2 b3 b4, List.filter (tW W) [.str "cold", .str "dear", .str "empty", .str "lost"] = (if tW W (.str "cold") then [D.str "cold"] else []) ++ (if tW W (.str "dear") then [D.str "dear"] else []) ++ (if tW W (.str "empty") then [D.str "empty"] else []) ++ (if tW W (.str "lost") then [D.str "lost"] else []) ∨ b1 ∨ b2 ∨ b3 ∨ b4 := by
    intro b1 b2 b3 b4
    left
    cases h1 : tW W (.str "cold") <;> cases h2 : tW W (.str "dear") <;> cases h3 : tW W (.str "empty") <;> cases h4 : tW W (.str "lost") <;> simp [h1, h2, h3, h4]
  rw [(h0 False False False False).resolve_right (by simp)]
  unfold hl4 at h
  simp only [List.mem_cons, List.not_mem_nil, or_false] at h
  have key : ∀ b1 b2 b3 b4 : Bool, (cmpD .In (.str "cold") (.lst ((if b1 then [D.str "cold"] else []) ++ (if b2 then [D.str "dear"] else []) ++ (if b3 then [D.str "empty"] else []) ++ (if b4 then [D.str "lost"] else []))) = some b1) ∧
    (cmpD .In (.str "dear") (.lst ((if b1 then [D.str "cold"] else []) ++ (if b2 then [D.str "dear"] else []) ++ (if b3 then [D.str "empty"] else []) ++ (if b4 then [D.str "lost"] else []))) = some b2) ∧
    (cmpD .In (.str "empty") (.lst ((if b1 then [D.str "cold"] else []) ++ (if b2 then [D.str "dear"] else []) ++ (if b3 then [D.str "empty"] else []) ++ (if b4 then [D.str "lost"] else []))) = some b3) ∧
    (cmpD .In (.str "lost") (.lst ((if b1 then [D.str "cold"] else []) ++ (if b2 then [D.str "dear"] else []) ++ (if b3 then [D.str "empty"] else []) ++ (if b4 then [D.str "lost"] else []))) = some b4) := by decide +kernel
  have k := key (tW W (.str "cold")) (tW W (.str "dear")) (tW W (.str "empty")) (tW W (.str "lost"))
  rcases h with h | h | h | h <;> cases h
  · exact k.1
  · exact k.2.1
  · exact k.2.2.1
  · exact k.2.2.2
theorem bols_map (f : D → Bool) : ∀ ds : List D, bolsD (ds.map fun d => .bl (f d)) = some (ds.map f)
  | [] => rfl
  | d :: ds => by
    show (bolsD (ds.map fun d => .bl (f d))).map (f d :: ·) = _
    rw [bols_map f ds]
    rfl
theorem is_good_ok (k : Nat) {p : Pl} (hp : p.Ok) {ws : List Str} (h : Wish ws) {S : Store} (hS : LowS S) : callF tab (k + 6) n_is_good [p.d, .tup (wsD ws)] S = .ok (.bl (goodB p ws)) S := by
  rw [u_is_good]
  have e0 : callF tab (k + 5) n_harms_by [p.d] S = .ok (harmD (firstW p)) S := harms_by_ok k hp hS
  have e1 : lcL (ev (callF tab (k + 5)) (.k (.bl true))) (ev (callF tab (k + 5)) (.cmp .In (.var 3) (.var 2))) (.nm 3) (wipeE [some p.d, some (.tup (wsD ws)), some (harmD (firstW p)), none] [3]) (wsD ws) S = .ok (((wsD ws).filter fun _ => true).map fun d => .bl (tW (firstW p) d)) S := by
    refine lc_flt _ _ _ _ _ (fun _ => true) _ _ fun d hd => ?_
    obtain ⟨w, hw, rfl⟩ := List.mem_map.mp hd
    refine ⟨[some p.d, some (.tup (wsD ws)), some (harmD (firstW p)), some (.str w)], rfl, rfl, fun _ => ?_⟩
    simp [ev, in_harm (firstW p) (h.sub w hw)]
  have e2 : ev (callF tab (k + 5)) (.lc (.cmp .In (.var 3) (.var 2)) (.nm 3) .dat [.var 1] (.k (.bl true)) [3]) [some p.d, some (.tup (wsD ws)), some (harmD (firstW p)), none] S = .ok (.lst (((wsD ws).filter fun _ => true).map fun d => .bl (tW (firstW p) d))) S :=
    ev_lc (ds := [.tup (wsD ws)]) (items := wsD ws) (by simp [evs, ev]) rfl (by
      have := h.len
      simp only [roomy, decide_eq_true_eq, wsD, List.length_map]
      omega) e1
  have e3 : ((wsD ws).filter fun _ => true) = wsD ws := List.filter_eq_self.mpr fun _ _ => rfl
  rw [e3] at e2
  have e4 : prD .any [.lst ((wsD ws).map fun d => .bl (tW (firstW p) d))] S = some (.bl (ws.any fun w => tW (firstW p) (.str w))) := by
    show (bolsD _).map _ = _
    rw [bols_map]
    simp [wsD, List.any_map, Function.comp_def]
  have e5 : exL (callF tab (k + 5)) ir_is_good.body [some p.d, some (.tup (wsD ws)), none, none] S = .rt (.bl (goodB p ws)) S := by
    refine ex_step (ρ1 := [some p.d, some (.tup (wsD ws)), some (harmD (firstW p)), none]) (S1 := S) (by simp [exL_n, exL_c, seq_nx, seq_rt, seq_ex, seq_bk, seq_ct, fl_non, fl_bl, fl_int, fl_str, exS, ev, evs, ix_t, ix_l, ix_s, atI_0, atI_1, atI_2, atI_3, atI_4, atI_5, atI_6, cm_lt, cm_le, cm_gt, cm_ge, cm_eqi, cm_nei, cm_eqs, cm_in2, op_addi, op_subi, op_muli, op_addl, op_addt, op_bl, op_mul0, op_x1, op_x0, op_mod, op_div, pr_int, pr_intb, pr_max, pr_min, pr_abs, bT_n, bT_t, bTs_n, bTs_c, sP_n, sP_c, isNon, iteB, thB, bindB, lift_B, asB_B, setD, e0]) ?_
    have e6 : ev (callF tab (k + 5)) (.not (.prim .any [.lc (.cmp .In (.var 3) (.var 2)) (.nm 3) .dat [.var 1] (.k (.bl true)) [3]])) [some p.d, some (.tup (wsD ws)), some (harmD (firstW p)), none] S = .ok (.bl (goodB p ws)) S := by
      refine not_ok (b := ws.any fun w => tW (firstW p) (.str w)) ?_
      rw [ev, evs_1 e2, Out.bind_ok, e4]
      rfl
    simp only [exL_c, exS, e6, Out.thenS_ok, OutS.seq]
  exact (congrArg (leave S.length) e5).trans (leave_rt _ _)
/-- the program of a value -/
def prgOf : D → Pq
  | .tup [.int i, .str x, .bl h] => (i.toNat, decide (x = ("all" : Str)), h)
  | _ => (0, false, false)
theorem prgOf_D : ∀ q ∈ prgs, prgOf (prgD q) = q := by decide +kernel
def goodT (p : Pl) (ws : List Str) (d : D) : Bool := goodB (wp p (prgOf d)) ws
def goodsD (p : Pl) (ws : List Str) : D := .lst (((prgs.map prgD).filter (goodT p ws)).map id)
theorem good_programs_ok (k : Nat) {p : Pl} (hp : p.Ok) {ws : List Str} (h : Wish ws) {S : Store} (hS : LowS S) : callF tab (k + 7) n_good_programs [p.d, .tup (wsD ws)] S = .ok (goodsD p ws) S := by
  rw [u_good_programs]
  have e0 : callF tab (k + 6) n_look_at_plan [p.d] S = .ok .non S := look_at_plan_ok (k + 2) hp S
  have e1 : callF tab (k + 6) n_look_at_wishes [.tup (wsD ws)] S = .ok .non S := look_wishes_ok (k + 4) h S
  have e2 : callF tab (k + 6) n_programs_of [] S = .ok (.lst (prgs.map prgD)) S := by
    rw [u_programs_of]
    have e : exL (callF tab (k + 5)) ir_programs_of.body [none, none, none] S = .rt (.lst (prgs.map prgD)) S := rfl
    rw [e, leave_rt]
  have e3 : lcL (ev (callF tab (k + 6)) (.call n_is_good [.op .Add (.sl (.var 0) (.k .non) (.k (.int 3))) (.tup [.var 2, .ix (.var 0) (.k (.int 4))]), .var 1])) (ev (callF tab (k + 6)) (.var 2)) (.nm 2) (wipeE [some p.d, some (.tup (wsD ws)), none] [2]) (prgs.map prgD) S = .ok (((prgs.map prgD).filter (goodT p ws)).map id) S := by
    refine lc_flt _ _ _ _ _ _ _ _ fun d hd => ?_
    obtain ⟨q, hq, rfl⟩ := List.mem_map.mp hd
    refine ⟨[some p.d, some (.tup (wsD ws)), some (prgD q)], rfl, ?_, fun _ => by simp [ev]⟩
    have e := is_good_ok k (wp_ok hp hq) h hS
    unfold goodT
    rw [prgOf_D q hq]
    exact call_ok (evs_2 (ev_wp (by simp [ev]) (by simp [ev])) (by simp [ev])) e
  have e4 : ev (callF tab (k + 6)) (.lc (.var 2) (.nm 2) .dat [.call n_programs_of []] (.call n_is_good [.op .Add (.sl (.var 0) (.k .non) (.k (.int 3))) (.tup [.var 2, .ix (.var 0) (.k (.int 4))]), .var 1]) [2]) [some p.d, some (.tup (wsD ws)), none] S = .ok (goodsD p ws) S :=
    ev_lc (ds := [.lst (prgs.map prgD)]) (items := prgs.map prgD) (by simp [evs, ev, e2]) rfl rfl e3
  have e5 : exL (callF tab (k + 6)) ir_good_programs.body [some p.d, some (.tup (wsD ws)), none] S = .rt (goodsD p ws) S := by
    refine ex_step (ρ1 := [some p.d, some (.tup (wsD ws)), none]) (S1 := S) (by simp [exL_n, exL_c, seq_nx, seq_rt, seq_ex, seq_bk, seq_ct, fl_non, fl_bl, fl_int, fl_str, exS, ev, evs, ix_t, ix_l, ix_s, atI_0, atI_1, atI_2, atI_3, atI_4, atI_5, atI_6, cm_lt, cm_le, cm_gt, cm_ge, cm_eqi, cm_nei, cm_eqs, cm_in2, op_addi, op_subi, op_muli, op_addl, op_addt, op_bl, op_mul0, op_x1, op_x0, op_mod, op_div, pr_int, pr_intb, pr_max, pr_min, pr_abs, bT_n, bT_t, bTs_n, bTs_c, sP_n, sP_c, isNon, iteB, thB, bindB, lift_B, asB_B, setD, e0]) (ex_step (ρ1 := [some p.d, some (.tup (wsD ws)), none]) (S1 := S) (by simp [exL_n, exL_c, seq_nx, seq_rt, seq_ex, seq_bk, seq_ct, fl_non, fl_bl, fl_int, fl_str, exS, ev, evs, ix_t, ix_l, ix_s, atI_0, atI_1, atI_2, atI_3, atI_4, atI_5, atI_6, cm_lt, cm_le, cm_gt, cm_ge, cm_eqi, cm_nei, cm_eqs, cm_in2, op_addi, op_subi, op_muli, op_addl, op_addt, op_bl, op_mul0, op_x1, op_x0, op_mod, op_div, pr_int, pr_intb, pr_max, pr_min, pr_abs, bT_n, bT_t, bTs_n, bTs_c, sP_n, sP_c, isNon, iteB, thB, bindB, lift_B, asB_B, setD, e1]) ?_)
    simp only [exL_c, exS, e4, Out.thenS_ok, OutS.seq]
  exact (congrArg (leave S.length) e5).trans (leave_rt _ _)
/-- the least tank -/
def leastL (p : Pl) (ws : List Str) : List D := (([1, 2, 3, 4] : List Nat).filter fun n => goodB (wt p n) ws).map fun (n : Nat) => D.int (n : Int)
def leastV (p : Pl) (ws : List Str) : D := (leastL p ws ++ [D.non]).headD D.non
theorem least_ok (k : Nat) {p : Pl} (hp : p.Ok) {ws : List Str} (h : Wish ws) {S : Store} (hS : LowS S) : callF tab (k + 7) n_least_tank [p.d, .tup (wsD ws)] S = .ok (leastV p ws) S := by
  rw [u_least_tank]
  have e0 : callF tab (k + 6) n_look_at_plan [p.d] S = .ok .non S := look_at_plan_ok (k + 2) hp S
  have e1 : callF tab (k + 6) n_look_at_wishes [.tup (wsD ws)] S = .ok .non S := look_wishes_ok (k + 4) h S
  have turn : ∀ (n : Nat), 1 ≤ n → n ≤ 4 → ev (callF tab (k + 6)) (.call n_is_good [.op .Add (.tup [.var 2]) (.sl (.var 0) (.k (.int 1)) (.k .non)), .var 1]) [some p.d, some (.tup (wsD ws)), some (.int (n : Int))] S = .ok (.bl (goodB (wt p n) ws)) S := by
    intro n h1 h4
    exact call_ok (evs_2 (ev_wt (by simp [ev]) (by simp [ev])) (by simp [ev])) (is_good_ok k (wt_ok hp h1 h4) h hS)
  have e2 : forL (exL (callF tab (k + 6)) [.ite (.call n_is_good [.op .Add (.tup [.var 2]) (.sl (.var 0) (.k (.int 1)) (.k .non)), .var 1]) [.ret (.var 2)] []]) (.nm 2) (rngD 1 4) [some p.d, some (.tup (wsD ws)), none] S =
      (match leastL p ws with
        | [] => .nx [some p.d, some (.tup (wsD ws)), some (.int 4)] S
        | d :: _ => .rt d S) := by
    have t1 := turn 1 (by omega) (by omega)
    have t2 := turn 2 (by omega) (by omega)
    have t3 := turn 3 (by omega) (by omega)
    have t4 := turn 4 (by omega) (by omega)
    have er : rngD 1 4 = [.int (1 : Nat), .int (2 : Nat), .int (3 : Nat), .int (4 : Nat)] := rfl
    rw [er]
    unfold leastL
    cases g1 : goodB (wt p 1) ws <;> cases g2 : goodB (wt p 2) ws <;> cases g3 : goodB (wt p 3) ws <;> cases g4 : goodB (wt p 4) ws <;> rw [g1] at t1 <;> rw [g2] at t2 <;> rw [g3] at t3 <;> rw [g4] at t4 <;>
      simp only [forL, bT_n, List.set_cons_succ, List.set_cons_zero, exL_c, exL_n, exS, t1, t2, t3, t4, asB_B, Out.thenS_ok, Bool.false_eq_true, if_false, if_true, OutS.seq, List.filter_cons, List.filter_nil, g1, g2, g3, g4, List.map_cons, List.map_nil] <;> simp [ev]
  have e3 := ex_for (F := callF tab (k + 6)) (g := .nm 2) (it := .rng) (es := [.k (.int 1), .k (.int 5)]) (S := S) (ds := [.int 1, .int 5]) (by simp [evs, ev]) (show itD .rng [.int 1, .int 5] = some (rngD 1 4) from rfl) e2
  have e5 : exL (callF tab (k + 6)) ir_least_tank.body [some p.d, some (.tup (wsD ws)), none] S = .rt (leastV p ws) S := by
    refine ex_step (ρ1 := [some p.d, some (.tup (wsD ws)), none]) (S1 := S) (by simp [exL_n, exL_c, seq_nx, seq_rt, seq_ex, seq_bk, seq_ct, fl_non, fl_bl, fl_int, fl_str, exS, ev, evs, ix_t, ix_l, ix_s, atI_0, atI_1, atI_2, atI_3, atI_4, atI_5, atI_6, cm_lt, cm_le, cm_gt, cm_ge, cm_eqi, cm_nei, cm_eqs, cm_in2, op_addi, op_subi, op_muli, op_addl, op_addt, op_bl, op_mul0, op_x1, op_x0, op_mod, op_div, pr_int, pr_intb, pr_max, pr_min, pr_abs, bT_n, bT_t, bTs_n, bTs_c, sP_n, sP_c, isNon, iteB, thB, bindB, lift_B, asB_B, setD, e0]) (ex_step (ρ1 := [some p.d, some (.tup (wsD ws)), none]) (S1 := S) (by simp [exL_n, exL_c, seq_nx, seq_rt, seq_ex, seq_bk, seq_ct, fl_non, fl_bl, fl_int, fl_str, exS, ev, evs, ix_t, ix_l, ix_s, atI_0, atI_1, atI_2, atI_3, atI_4, atI_5, atI_6, cm_lt, cm_le, cm_gt, cm_ge, cm_eqi, cm_nei, cm_eqs, cm_in2, op_addi, op_subi, op_muli, op_addl, op_addt, op_bl, op_mul0, op_x1, op_x0, op_mod, op_div, pr_int, pr_intb, pr_max, pr_min, pr_abs, bT_n, bT_t, bTs_n, bTs_c, sP_n, sP_c, isNon, iteB, thB, bindB, lift_B, asB_B, setD, e1]) ?_)
    rw [exL_c, e3]
    unfold leastV
    cases leastL p ws with
    | nil => simp [OutS.seq, exL_c, exS, ev]
    | cons d l => rfl
  exact (congrArg (leave S.length) e5).trans (leave_rt _ _)
/-! ### the law -/
theorem mask_lc {T E : Slots → Store → Out D} {g : Tg} {ρ : Slots} (P : Store → Prop) : ∀ (ds : List D) (S : Store), P S →
    (∀ d ∈ ds, ∀ S, P S → ∃ ρ1, bindT g d ρ = some ρ1 ∧ ∃ b S', T ρ1 S = .ok (.bl b) S' ∧ P S' ∧ ∀ S2, E ρ1 S2 = .ok d S2) → ∃ (bs : List Bool) (S' : Store), lcL T E g ρ ds S = .ok (((bs.zip ds).filter (·.1)).map (·.2)) S' ∧ P S' ∧ bs.length = ds.length
  | [], S, h, _ => ⟨[], S, rfl, h, rfl⟩
  | d :: ds, S, h, k => by
    obtain ⟨ρ1, e1, b, S1, e2, h1, e3⟩ := k d (.head _) S h
    obtain ⟨bs, S2, e4, h2, hl⟩ := mask_lc P ds S1 h1 fun d' hd => k d' (.tail _ hd)
    refine ⟨b :: bs, S2, ?_, h2, by simp [hl]⟩
    unfold lcL
    cases b with
    | true => simp [e1, e2, e3, e4]
    | false => simp [e1, e2, e4]
def KP : KeyT Pq where
  d := prgD
  sm := fun _ => rfl
  inj := fun {a b} h => by
    have h : some (NestedKey.tup [.num (a.1 : Int), .text (hourS a.2.1), .num (if a.2.2 = true then 1 else 0)]) = some (NestedKey.tup [.num (b.1 : Int), .text (hourS b.2.1), .num (if b.2.2 = true then 1 else 0)]) := h
    simp only [Option.some.injEq, NestedKey.tup.injEq, List.cons.injEq, NestedKey.num.injEq, NestedKey.text.injEq, and_true] at h
    obtain ⟨h1, h2, h3⟩ := h
    obtain ⟨a1, a2, a3⟩ := a
    obtain ⟨b1, b2, b3⟩ := b
    simp only at h1 h2 h3
    have e1 : a1 = b1 := by omega
    have e2 : a2 = b2 := by
      revert h2
      cases a2 <;> cases b2 <;> decide
    have e3 : a3 = b3 := by cases a3 <;> cases b3 <;> simp at h3 ⊢
    rw [e1, e2, e3]
  t := true
  kt := fun _ => rfl
  as_ := fun _ => rfl
def KI : KeyT Nat where
  d := fun n => .int (n : Int)
  sm := fun _ => rfl
  inj := fun {a b} h => by
    have h : some (NestedKey.num (a : Int)) = some (NestedKey.num (b : Int)) := h
    simp only [Option.some.injEq, NestedKey.num.injEq] at h
    omega
  t := false
  kt := fun _ => rfl
  as_ := fun _ => rfl
def St3 (S1 : Store) (lp : List (Pq × Wd5)) (lt : List (Nat × Wd5)) : Store := S1 ++ [some (.dc (kvA KP harmD lp)), some (.dc (kvA KI harmD lt))]
theorem st3_p (S1 : Store) (lp : List (Pq × Wd5)) (lt : List (Nat × Wd5)) : (St3 S1 lp lt)[S1.length]? = some (some (.dc (kvA KP harmD lp))) := by simp [St3]
theorem st3_t (S1 : Store) (lp : List (Pq × Wd5)) (lt : List (Nat × Wd5)) : (St3 S1 lp lt)[S1.length + 1]? = some (some (.dc (kvA KI harmD lt))) := by simp [St3]
theorem st3_sp (S1 : Store) (lp lp' : List (Pq × Wd5)) (lt : List (Nat × Wd5)) : (St3 S1 lp lt).set S1.length (some (.dc (kvA KP harmD lp'))) = St3 S1 lp' lt := by simp [St3]
theorem st3_st (S1 : Store) (lp : List (Pq × Wd5)) (lt lt' : List (Nat × Wd5)) : (St3 S1 lp lt).set (S1.length + 1) (some (.dc (kvA KI harmD lt'))) = St3 S1 lp lt' := by
  simp only [St3]
  rw [List.set_append_right _ _ (by omega)]
  simp
theorem low_harm (W : Wd5) (n : Nat) : D.low n (harmD W) = true := fit_low n 1 _ (fit_harm W 0)
theorem st3_low {S1 : Store} (h : LowS S1) (lp : List (Pq × Wd5)) (lt : List (Nat × Wd5)) : LowS (St3 S1 lp lt) := fun n => by
  unfold St3
  rw [List.all_append, h n]
  simp only [List.all_cons, List.all_nil, Bool.true_and, Bool.and_true, Bool.and_eq_true, M.low]
  refine ⟨?_, ?_⟩ <;> rw [List.all_eq_true] <;> intro x hx <;> obtain ⟨y, _, rfl⟩ := List.mem_map.mp hx <;> simp only [low_harm, Bool.and_true] <;> rfl
theorem putA_le {κ β : Type} [DecidableEq κ] (l : List (κ × β)) (k : κ) (v : β) : (putA l k v).length ≤ l.length + 1 := by
  unfold putA
  split <;> simp
def prB : List Wt.S := [.set (.var 7) (.tup [.var 4, .var 9, .var 13]) (.call n__law_harms [.op .Add (.sl (.var 3) (.k .non) (.k (.int 3))) (.tup [.tup [.var 4, .var 9, .var 13], .ix (.var 3) (.k (.int 4))])])]
abbrev Hd8 (a0 a1 a2 : Option D) (p : Pl) (n : Nat) (x4 x5 x6 x9 x10 x11 x12 x13 x14 x15 : Option D) : Slots := [a0, a1, a2, some p.d, x4, x5, x6, some (.loc n), some (.loc (n + 1)), x9, x10, x11, x12, x13, x14, x15]
def stepP (p : Pl) (l : List (Pq × Wd5)) (q : Pq) : List (Pq × Wd5) := putA l q (firstW (wp p q))
theorem stepP_le (p : Pl) (l : List (Pq × Wd5)) (q : Pq) : (stepP p l q).length ≤ l.length + 1 := putA_le _ _ _
section
variable {S1 : Store} {p : Pl} (a0 a1 a2 x5 x6 x10 x11 x12 x14 x15 : Option D)
theorem pr_one (k : Nat) (hp : p.Ok) (hS : LowS S1) {l : List (Pq × Wd5)} (hl : l.length ≤ 1000) {q : Pq} (hq : q ∈ prgs) :
    exL (callF tab (k + 6)) prB (Hd8 a0 a1 a2 p S1.length (some (.int (q.1 : Int))) x5 x6 (some (.str (hourS q.2.1))) x10 x11 x12 (some (.bl q.2.2)) x14 x15) (St3 S1 l []) = .nx (Hd8 a0 a1 a2 p S1.length (some (.int (q.1 : Int))) x5 x6 (some (.str (hourS q.2.1))) x10 x11 x12 (some (.bl q.2.2)) x14 x15) (St3 S1 (stepP p l q) []) := by
  have e0 : callF tab (k + 6) n__law_harms [(wp p q).d] (St3 S1 l []) = .ok (harmD (firstW (wp p q))) (St3 S1 l []) := law_harms_ok (k + 1) (wp_ok hp hq) (st3_low hS l [])
  have e1 : ev (callF tab (k + 6)) (.tup [.var 4, .var 9, .var 13]) (Hd8 a0 a1 a2 p S1.length (some (.int (q.1 : Int))) x5 x6 (some (.str (hourS q.2.1))) x10 x11 x12 (some (.bl q.2.2)) x14 x15) (St3 S1 l []) = .ok (prgD q) (St3 S1 l []) := by
    simp [ev, evs, prgD]
  have e1a : ev (callF tab (k + 6)) (.var 3) (Hd8 a0 a1 a2 p S1.length (some (.int (q.1 : Int))) x5 x6 (some (.str (hourS q.2.1))) x10 x11 x12 (some (.bl q.2.2)) x14 x15) (St3 S1 l []) = .ok p.d (St3 S1 l []) := by simp [ev]
  have e1b : ev (callF tab (k + 6)) (.var 7) (Hd8 a0 a1 a2 p S1.length (some (.int (q.1 : Int))) x5 x6 (some (.str (hourS q.2.1))) x10 x11 x12 (some (.bl q.2.2)) x14 x15) (St3 S1 l []) = .ok (.loc S1.length) (St3 S1 l []) := by simp [ev]
  have e2 := dput_ok (F := callF tab (k + 6)) (a := .var 7) (S := St3 S1 l []) (n := S1.length) (call_ok (evs_1 (ev_wp (p := p) e1a e1)) e0) e1b e1 (st3_p S1 l []) (kvA_ok (K := KP) (k := q)) (by rw [kvA_len]; omega)
  have e3 : dPutD (kvA KP harmD l) (prgD q) (harmD (firstW (wp p q))) = kvA KP harmD (stepP p l q) := kvA_put (K := KP)
  rw [e3, st3_sp] at e2
  exact ex_step e2 (exL_n _ _ _)
theorem pr_two (k : Nat) (hp : p.Ok) (hS : LowS S1) {l : List (Pq × Wd5)} (hl : l.length ≤ 900) {n : Nat} {b : Bool} (hq : (n, b, false) ∈ prgs) (hq2 : (n, b, true) ∈ prgs) (x13 : Option D) :
    forL (exL (callF tab (k + 6)) prB) (.nm 13) [.bl false, .bl true] (Hd8 a0 a1 a2 p S1.length (some (.int (n : Int))) x5 x6 (some (.str (hourS b))) x10 x11 x12 x13 x14 x15) (St3 S1 l []) = .nx (Hd8 a0 a1 a2 p S1.length (some (.int (n : Int))) x5 x6 (some (.str (hourS b))) x10 x11 x12 (some (.bl true)) x14 x15) (St3 S1 (stepP p (stepP p l (n, b, false)) (n, b, true)) []) := by
  have e1 := pr_one a0 a1 a2 x5 x6 x10 x11 x12 x14 x15 k hp hS (l := l) (by omega) hq
  have e2 := pr_one a0 a1 a2 x5 x6 x10 x11 x12 x14 x15 k hp hS (l := stepP p l (n, b, false)) (by have := stepP_le p l (n, b, false); omega) hq2
  simp only [forL, bT_n, List.set_cons_succ, List.set_cons_zero, e1, e2]
def prB2 : List Wt.S := [.for_ (.nm 13) .dat [.lst [.k (.bl false), .k (.bl true)]] prB]
abbrev step4 (p : Pl) (l : List (Pq × Wd5)) (n : Nat) : List (Pq × Wd5) := [(n, true, false), (n, true, true), (n, false, false), (n, false, true)].foldl (stepP p) l
theorem pr_four (k : Nat) (hp : p.Ok) (hS : LowS S1) {l : List (Pq × Wd5)} (hl : l.length ≤ 800) {n : Nat} (hq : n < 4) (x9 x13 : Option D) :
    forL (exL (callF tab (k + 6)) prB2) (.nm 9) [.str s_all, .str s_cheap] (Hd8 a0 a1 a2 p S1.length (some (.int (n : Int))) x5 x6 x9 x10 x11 x12 x13 x14 x15) (St3 S1 l []) = .nx (Hd8 a0 a1 a2 p S1.length (some (.int (n : Int))) x5 x6 (some (.str s_cheap)) x10 x11 x12 (some (.bl true)) x14 x15) (St3 S1 (step4 p l n) []) := by
  have hm : ∀ b c, (n, b, c) ∈ prgs := by
    have : ∀ n < 4, ∀ b c, (n, b, c) ∈ prgs := by decide
    exact this n hq
  have e1 := pr_two a0 a1 a2 x5 x6 x10 x11 x12 x14 x15 k hp hS (l := l) (by omega) (hm true false) (hm true true) x13
  have l1 := stepP_le p l (n, true, false)
  have l2 := stepP_le p (stepP p l (n, true, false)) (n, true, true)
  have e2 := pr_two a0 a1 a2 x5 x6 x10 x11 x12 x14 x15 k hp hS (l := stepP p (stepP p l (n, true, false)) (n, true, true)) (by omega) (hm false false) (hm false true) (some (.bl true))
  have f1 := ex_for (F := callF tab (k + 6)) (g := .nm 13) (it := .dat) (es := [.lst [.k (.bl false), .k (.bl true)]]) (S := St3 S1 l []) (ds := [.lst [.bl false, .bl true]]) (by simp [evs, ev]) rfl e1
  have f2 := ex_for (F := callF tab (k + 6)) (g := .nm 13) (it := .dat) (es := [.lst [.k (.bl false), .k (.bl true)]]) (S := St3 S1 (stepP p (stepP p l (n, true, false)) (n, true, true)) []) (ds := [.lst [.bl false, .bl true]]) (by simp [evs, ev]) rfl e2
  have g1 : exL (callF tab (k + 6)) prB2 _ _ = .nx _ _ := ex_step f1 (exL_n _ _ _)
  have g2 : exL (callF tab (k + 6)) prB2 _ _ = .nx _ _ := ex_step f2 (exL_n _ _ _)
  have b1 : hourS true = s_all := rfl
  have b2 : hourS false = s_cheap := rfl
  rw [b1] at g1
  rw [b2] at g2
  simp only [forL, bT_n, List.set_cons_succ, List.set_cons_zero, g1, g2, List.foldl_cons, List.foldl_nil]
def prB3 : List Wt.S := [.for_ (.nm 9) .dat [.lst [.k (.str s_all), .k (.str s_cheap)]] prB2]
theorem step4_le (l : List (Pq × Wd5)) (n : Nat) : (step4 p l n).length ≤ l.length + 4 := by
  have l1 := stepP_le p l (n, true, false)
  have l2 := stepP_le p (stepP p l (n, true, false)) (n, true, true)
  have l3 := stepP_le p (stepP p (stepP p l (n, true, false)) (n, true, true)) (n, false, false)
  have l4 := stepP_le p (stepP p (stepP p (stepP p l (n, true, false)) (n, true, true)) (n, false, false)) (n, false, true)
  simp only [List.foldl_cons, List.foldl_nil]
  omega
def allP (p : Pl) : List (Pq × Wd5) := prgs.map fun q => (q, firstW (wp p q))
theorem pr_all (k : Nat) (hp : p.Ok) (hS : LowS S1) (x4 x9 x13 : Option D) :
    forL (exL (callF tab (k + 6)) prB3) (.nm 4) (rngD 0 4) (Hd8 a0 a1 a2 p S1.length x4 x5 x6 x9 x10 x11 x12 x13 x14 x15) (St3 S1 [] []) = .nx (Hd8 a0 a1 a2 p S1.length (some (.int 3)) x5 x6 (some (.str s_cheap)) x10 x11 x12 (some (.bl true)) x14 x15) (St3 S1 (allP p) []) := by
  have go : ∀ (n : Nat) (l : List (Pq × Wd5)) (y9 y13 : Option D), n < 4 → l.length ≤ 800 → exL (callF tab (k + 6)) prB3 (Hd8 a0 a1 a2 p S1.length (some (.int (n : Int))) x5 x6 y9 x10 x11 x12 y13 x14 x15) (St3 S1 l []) = .nx (Hd8 a0 a1 a2 p S1.length (some (.int (n : Int))) x5 x6 (some (.str s_cheap)) x10 x11 x12 (some (.bl true)) x14 x15) (St3 S1 (step4 p l n) []) := by
    intro n l y9 y13 hn hl
    have e := pr_four a0 a1 a2 x5 x6 x10 x11 x12 x14 x15 k hp hS hl hn y9 y13
    exact ex_step (ex_for (F := callF tab (k + 6)) (g := .nm 9) (it := .dat) (es := [.lst [.k (.str s_all), .k (.str s_cheap)]]) (S := St3 S1 l []) (ds := [.lst [.str s_all, .str s_cheap]]) (by simp [evs, ev]) rfl e) (exL_n _ _ _)
  have er : rngD 0 4 = [.int (0 : Nat), .int (1 : Nat), .int (2 : Nat), .int (3 : Nat)] := rfl
  have l0 := step4_le (p := p) [] 0
  have l1 := step4_le (p := p) (step4 p [] 0) 1
  have l2 := step4_le (p := p) (step4 p (step4 p [] 0) 1) 2
  simp only [List.length_nil] at l0
  have g0 := go 0 [] x9 x13 (by omega) (by simp)
  have g1 := go 1 (step4 p [] 0) (some (.str s_cheap)) (some (.bl true)) (by omega) (by omega)
  have g2 := go 2 (step4 p (step4 p [] 0) 1) (some (.str s_cheap)) (some (.bl true)) (by omega) (by omega)
  have g3 := go 3 (step4 p (step4 p (step4 p [] 0) 1) 2) (some (.str s_cheap)) (some (.bl true)) (by omega) (by omega)
  have ef : step4 p (step4 p (step4 p (step4 p [] 0) 1) 2) 3 = allP p := by
    have : step4 p (step4 p (step4 p (step4 p [] 0) 1) 2) 3 = prgs.foldl (fun a k => putA a k (firstW (wp p k))) [] := by simp only [step4, stepP, prgs, List.foldl_cons, List.foldl_nil]
    rw [this, putA_fold (fun k => firstW (wp p k)) prgs [] (by decide)]
    rfl
  rw [er]
  simp only [forL, bT_n, List.set_cons_succ, List.set_cons_zero, g0, g1, g2, g3, ef]
  rfl
def tkB : List Wt.S := [.set (.var 8) (.var 5) (.call n__law_harms [.op .Add (.tup [.var 5]) (.sl (.var 3) (.k (.int 1)) (.k .non))])]
def stepT (p : Pl) (l : List (Nat × Wd5)) (n : Nat) : List (Nat × Wd5) := putA l n (firstW (wt p n))
theorem stepT_le (p : Pl) (l : List (Nat × Wd5)) (q : Nat) : (stepT p l q).length ≤ l.length + 1 := putA_le _ _ _
def allT (p : Pl) : List (Nat × Wd5) := [1, 2, 3, 4].map fun n => (n, firstW (wt p n))
theorem tk_all (k : Nat) (hp : p.Ok) (hS : LowS S1) (lp : List (Pq × Wd5)) (x4 x9 x13 y5 : Option D) :
    forL (exL (callF tab (k + 6)) tkB) (.nm 5) (rngD 1 4) (Hd8 a0 a1 a2 p S1.length x4 y5 x6 x9 x10 x11 x12 x13 x14 x15) (St3 S1 lp []) = .nx (Hd8 a0 a1 a2 p S1.length x4 (some (.int 4)) x6 x9 x10 x11 x12 x13 x14 x15) (St3 S1 lp (allT p)) := by
  have go : ∀ (n : Nat) (l : List (Nat × Wd5)), 1 ≤ n → n ≤ 4 → l.length ≤ 1000 → exL (callF tab (k + 6)) tkB (Hd8 a0 a1 a2 p S1.length x4 (some (.int (n : Int))) x6 x9 x10 x11 x12 x13 x14 x15) (St3 S1 lp l) = .nx (Hd8 a0 a1 a2 p S1.length x4 (some (.int (n : Int))) x6 x9 x10 x11 x12 x13 x14 x15) (St3 S1 lp (stepT p l n)) := by
    intro n l h1 h4 hl
    have e0 : callF tab (k + 6) n__law_harms [(wt p n).d] (St3 S1 lp l) = .ok (harmD (firstW (wt p n))) (St3 S1 lp l) := law_harms_ok (k + 1) (wt_ok hp h1 h4) (st3_low hS lp l)
    have v3 : ev (callF tab (k + 6)) (.var 3) (Hd8 a0 a1 a2 p S1.length x4 (some (.int (n : Int))) x6 x9 x10 x11 x12 x13 x14 x15) (St3 S1 lp l) = .ok p.d (St3 S1 lp l) := by simp [ev]
    have v5 : ev (callF tab (k + 6)) (.var 5) (Hd8 a0 a1 a2 p S1.length x4 (some (.int (n : Int))) x6 x9 x10 x11 x12 x13 x14 x15) (St3 S1 lp l) = .ok (.int (n : Int)) (St3 S1 lp l) := by simp [ev]
    have v8 : ev (callF tab (k + 6)) (.var 8) (Hd8 a0 a1 a2 p S1.length x4 (some (.int (n : Int))) x6 x9 x10 x11 x12 x13 x14 x15) (St3 S1 lp l) = .ok (.loc (S1.length + 1)) (St3 S1 lp l) := by simp [ev]
    have e2 := dput_ok (F := callF tab (k + 6)) (a := .var 8) (S := St3 S1 lp l) (n := S1.length + 1) (call_ok (evs_1 (ev_wt (p := p) v3 v5)) e0) v8 v5 (st3_t S1 lp l) (kvA_ok (K := KI) (k := n)) (by rw [kvA_len]; omega)
    have e3 : dPutD (kvA KI harmD l) (.int (n : Int)) (harmD (firstW (wt p n))) = kvA KI harmD (stepT p l n) := kvA_put (K := KI)
    rw [e3, st3_st] at e2
    exact ex_step e2 (exL_n _ _ _)
  have er : rngD 1 4 = [.int (1 : Nat), .int (2 : Nat), .int (3 : Nat), .int (4 : Nat)] := rfl
  have l0 := stepT_le p [] 1
  have l1 := stepT_le p (stepT p [] 1) 2
  have l2 := stepT_le p (stepT p (stepT p [] 1) 2) 3
  simp only [List.length_nil] at l0
  have g0 := go 1 [] (by omega) (by omega) (by simp)
  have g1 := go 2 (stepT p [] 1) (by omega) (by omega) (by omega)
  have g2 := go 3 (stepT p (stepT p [] 1) 2) (by omega) (by omega) (by omega)
  have g3 := go 4 (stepT p (stepT p (stepT p [] 1) 2) 3) (by omega) (by omega) (by omega)
  have ef : stepT p (stepT p (stepT p (stepT p [] 1) 2) 3) 4 = allT p := by
    have : stepT p (stepT p (stepT p (stepT p [] 1) 2) 3) 4 = [1, 2, 3, 4].foldl (fun a k => putA a k (firstW (wt p k))) [] := by simp only [stepT, List.foldl_cons, List.foldl_nil]
    rw [this, putA_fold (fun k => firstW (wt p k)) [1, 2, 3, 4] [] (by decide)]
    rfl
  rw [er]
  simp only [forL, bT_n, List.set_cons_succ, List.set_cons_zero, g0, g1, g2, g3, ef]
  rfl
end
/-! ### the two turns -/
def frzA {κ : Type} (K : KeyT κ) (l : List (κ × Wd5)) : D := .dic ((kvA K harmD l).map (·.1)) ((kvA K harmD l).map (·.2))
theorem frz_zip {κ : Type} (K : KeyT κ) (l : List (κ × Wd5)) : ((kvA K harmD l).map (·.1)).zip ((kvA K harmD l).map (·.2)) = kvA K harmD l := by
  rw [List.zip_map']
  exact List.map_id _
theorem frz_ix {κ : Type} [DecidableEq κ] {K : KeyT κ} {l : List (κ × Wd5)} {k : κ} {W : Wd5} (h : getA l k = some W) (S : Store) : ixD (frzA K l) (K.d k) S = some (harmD W) := by
  refine ix_dicF ?_
  rw [frz_zip, kvA_look, h]
  rfl
theorem getP {p : Pl} {q : Pq} (h : q ∈ prgs) : getA (allP p) q = some (firstW (wp p q)) := getA_of (by
  unfold allP
  rw [List.map_map]
  exact (List.map_id _).symm ▸ (by decide : prgs.Nodup)) (List.mem_map.mpr ⟨q, h, rfl⟩)
theorem getT {p : Pl} {n : Nat} (h : n ∈ [1, 2, 3, 4]) : getA (allT p) n = some (firstW (wt p n)) := getA_of (by
  unfold allT
  rw [List.map_map]
  exact (List.map_id _).symm ▸ (by decide : [1, 2, 3, 4].Nodup)) (List.mem_map.mpr ⟨n, h, rfl⟩)
abbrev Hf8 (a0 a1 : Option D) (n : Nat) (p : Pl) (x4 x5 x6 x9 x10 x11 x12 x13 x14 x15 : Option D) : Slots := [a0, a1, some (.loc n), some p.d, x4, x5, x6, some (frzA KP (allP p)), some (frzA KI (allT p)), x9, x10, x11, x12, x13, x14, x15]
theorem wish_ok (k : Nat) {n : Nat} {S : Store} (h : Spr2 n S) {p : Pl} (a0 a1 x4 x5 x9 x10 x11 x12 x13 x14 x15 : Option D) {i : Nat} (hi : i ≤ 1) : ∃ (ws : List Str) (S' : Store), Wish ws ∧ Spr2 n S' ∧
    exS (callF tab (k + 1)) (.asg (.nm 10) (.sl (.lc (.var 15) (.nm 15) .dat [.lst [.k (.str s_cold), .k (.str s_dear), .k (.str s_empty), .k (.str s_lost)]] (.cmp .Eq (.call n__law_pick [.var 2, .k (.int 2)]) (.k (.int 0))) [15]) (.k .non) (.op .Sub (.k (.int 2)) (.var 6)))) (Hf8 a0 a1 n p x4 x5 (some (.int (i : Int))) x9 x10 x11 x12 x13 x14 x15) S = .nx (Hf8 a0 a1 n p x4 x5 (some (.int (i : Int))) x9 (some (.lst (wsD ws))) x11 x12 x13 x14 x15) S' := by
  obtain ⟨bs, S', e1, h', hl⟩ := mask_lc (T := ev (callF tab (k + 1)) (.cmp .Eq (.call n__law_pick [.var 2, .k (.int 2)]) (.k (.int 0)))) (E := ev (callF tab (k + 1)) (.var 15)) (g := .nm 15) (ρ := wipeE (Hf8 a0 a1 n p x4 x5 (some (.int (i : Int))) x9 x10 x11 x12 x13 x14 x15) [15]) (Spr2 n) hl4 S h (by
    intro d hd T hT
    obtain ⟨j, T', e, j0, j1, hT', g⟩ := pick2_ok k hT 2 (by omega) (by omega)
    refine ⟨Hf8 a0 a1 n p x4 x5 (some (.int (i : Int))) x9 x10 x11 x12 x13 x14 (some d), rfl, decide (j = 0), T', ?_, hT', fun S2 => by simp [ev]⟩
    have e' : callF tab (k + 1) n__law_pick [.loc n, .int 2] T = .ok (.int j) T' := e
    simp [ev, evs, e', cm_eqi])
  have e2 := ev_lc (F := callF tab (k + 1)) (elt := .var 15) (g := .nm 15) (it := .dat) (es := [.lst [.k (.str s_cold), .k (.str s_dear), .k (.str s_empty), .k (.str s_lost)]]) (c := .cmp .Eq (.call n__law_pick [.var 2, .k (.int 2)]) (.k (.int 0))) (own := [15]) (ρ := Hf8 a0 a1 n p x4 x5 (some (.int (i : Int))) x9 x10 x11 x12 x13 x14 x15) (S := S) (ds := [.lst hl4]) (items := hl4) (by simp [evs, ev, hl4]) rfl rfl e1
  match bs, hl with
  | [b1, b2, b3, b4], _ =>
    have e3 : (([b1, b2, b3, b4].zip hl4).filter (·.1)).map (·.2) = wsD (hmS b1 b2 b3 b4) := by cases b1 <;> cases b2 <;> cases b3 <;> cases b4 <;> rfl
    rw [e3] at e2
    have e4 : slD (.lst (wsD (hmS b1 b2 b3 b4))) none (some ((2 : Int) - (i : Int))) = some (.lst (wsD ((hmS b1 b2 b3 b4).take (2 - i)))) := by
      have : i = 0 ∨ i = 1 := by omega
      rcases this with rfl | rfl <;> cases b1 <;> cases b2 <;> cases b3 <;> cases b4 <;> rfl
    refine ⟨(hmS b1 b2 b3 b4).take (2 - i), S', wish_of _ _ _ _ _, h', ?_⟩
    have e5 : ev (callF tab (k + 1)) (.sl (.lc (.var 15) (.nm 15) .dat [.lst [.k (.str s_cold), .k (.str s_dear), .k (.str s_empty), .k (.str s_lost)]] (.cmp .Eq (.call n__law_pick [.var 2, .k (.int 2)]) (.k (.int 0))) [15]) (.k .non) (.op .Sub (.k (.int 2)) (.var 6))) (Hf8 a0 a1 n p x4 x5 (some (.int (i : Int))) x9 x10 x11 x12 x13 x14 x15) S = .ok (.lst (wsD ((hmS b1 b2 b3 b4).take (2 - i)))) S' := by
      rw [ev, e2, Out.bind_ok]
      have e6 : ev (callF tab (k + 1)) (.op .Sub (.k (.int 2)) (.var 6)) (Hf8 a0 a1 n p x4 x5 (some (.int (i : Int))) x9 x10 x11 x12 x13 x14 x15) S' = .ok (.int ((2 : Int) - (i : Int))) S' := by simp [ev, op_subi]
      simp only [isNon, if_true, Bool.false_eq_true, if_false, Out.bind_ok, e6, asI_int, e4, lift_some]
    exact asg_ok e5
theorem eq_nil (xs : List D) (h : D.flatAll 59 xs = true) : cmpD .Eq (.lst xs) (.lst []) = some xs.isEmpty := by
  have f1 : D.flat 60 (.lst xs) = true := h
  have f2 : D.flat 60 (.lst []) = true := rfl
  simp only [cmpD, f1, f2, Bool.and_self, if_true]
  cases xs <;> rfl
theorem flat_filter (t : D → Bool) : ∀ {xs : List D}, D.flatAll 59 xs = true → D.flatAll 59 (xs.filter t) = true
  | [], h => h
  | x :: xs, h => by
    have h : (D.flat 59 x && D.flatAll 59 xs) = true := h
    rw [Bool.and_eq_true] at h
    rw [List.filter_cons]
    split
    · show (D.flat 59 x && D.flatAll 59 (xs.filter t)) = true
      rw [h.1, flat_filter t h.2]
      rfl
    · exact flat_filter t h.2
/-- [harm for harm in wishes if harm in d[one]] == [] -/
theorem bar_ev (Fn : Nat → List D → Store → Out D) {ws : List Str} (hw : Wish ws) {W : Wd5} {S : Store} {vd : Nat} {ρ : Slots} (h10 : ρ[10]? = some (some (.lst (wsD ws)))) (hl : ρ.length = 16) (hvd : vd = 7 ∨ vd = 8) {dd k : D} (h7 : ρ[vd]? = some (some dd)) (h14 : ρ[14]? = some (some k)) (hx : ∀ S, ixD dd k S = some (harmD W)) :
    ev Fn (.cmp .Eq (.lc (.var 15) (.nm 15) .dat [.var 10] (.cmp .In (.var 15) (.ix (.var vd) (.var 14))) [15]) (.lst [])) ρ S = .ok (.bl (!(ws.any fun w => tW W (.str w)))) S := by
  have e1 : lcL (ev Fn (.cmp .In (.var 15) (.ix (.var vd) (.var 14)))) (ev Fn (.var 15)) (.nm 15) (wipeE ρ [15]) (wsD ws) S = .ok (((wsD ws).filter (tW W)).map id) S := by
    refine lc_flt _ _ _ _ _ _ _ _ fun d hd => ?_
    obtain ⟨w, hw2, rfl⟩ := List.mem_map.mp hd
    have r15 : (wipeE ρ [15]).set 15 (some (.str w)) = ρ.set 15 (some (.str w)) := by simp [wipeE]
    refine ⟨ρ.set 15 (some (.str w)), by simp only [bindT, r15], ?_, fun _ => ?_⟩
    · have g7 : (ρ.set 15 (some (.str w)))[vd]? = some (some dd) := by rw [List.getElem?_set_ne (by omega)]; exact h7
      have g14 : (ρ.set 15 (some (.str w)))[14]? = some (some k) := by rw [List.getElem?_set_ne (by omega)]; exact h14
      have g15 : (ρ.set 15 (some (.str w)))[15]? = some (some (.str w)) := List.getElem?_set_self (by omega)
      simp only [ev, g7, g14, g15, Out.bind_ok, hx, lift_some, in_harm W (hw.sub w hw2), Option.map_some]
    · have g15 : (ρ.set 15 (some (.str w)))[15]? = some (some (.str w)) := List.getElem?_set_self (by omega)
      simp only [ev, g15, id]
  have e2 : ev Fn (.lc (.var 15) (.nm 15) .dat [.var 10] (.cmp .In (.var 15) (.ix (.var vd) (.var 14))) [15]) ρ S = .ok (.lst (((wsD ws).filter (tW W)).map id)) S :=
    ev_lc (ds := [.lst (wsD ws)]) (items := wsD ws) (evs_1 (by simp only [ev, h10])) rfl (by
      have := hw.len
      simp only [roomy, decide_eq_true_eq, wsD, List.length_map]
      omega) e1
  have e3 : ev Fn (.lst []) ρ S = .ok (.lst []) S := rfl
  rw [ev, e2, Out.bind_ok, e3, Out.bind_ok, List.map_id, eq_nil _ (flat_filter _ (wish_flat hw.sub 59))]
  have e4 : ∀ l : List Str, ((wsD l).filter (tW W)).isEmpty = !(l.any fun w => tW W (.str w)) := by
    intro l
    induction l with
    | nil => rfl
    | cons w l ih =>
      show (((D.str w) :: wsD l).filter (tW W)).isEmpty = _
      rw [List.filter_cons, List.any_cons]
      cases h : tW W (.str w) with
      | true => rfl
      | false => simpa using ih
  rw [e4]
  rfl
/-! ### good, least -/
def tnkOf : D → Nat
  | .int i => i.toNat
  | _ => 0
theorem goods_ev (Fn : Nat → List D → Store → Out D) {ws : List Str} (hw : Wish ws) {p : Pl} {S : Store} (a0 a1 x4 x5 x6 x9 x11 x12 x13 x14 x15 : Option D) (n : Nat) :
    ev Fn (.lc (.var 14) (.nm 14) .dat [.var 7] (.cmp .Eq (.lc (.var 15) (.nm 15) .dat [.var 10] (.cmp .In (.var 15) (.ix (.var 7) (.var 14))) [15]) (.lst [])) [14]) (Hf8 a0 a1 n p x4 x5 x6 x9 (some (.lst (wsD ws))) x11 x12 x13 x14 x15) S = .ok (goodsD p ws) S := by
  have hk : itD .dat [frzA KP (allP p)] = some (prgs.map prgD) := rfl
  refine ev_lc (S1 := S) (ds := [frzA KP (allP p)]) (items := prgs.map prgD) (evs_1 (by simp [ev])) hk rfl ?_
  refine lc_flt _ _ _ _ _ _ _ _ fun d hd => ?_
  obtain ⟨q, hq, rfl⟩ := List.mem_map.mp hd
  refine ⟨Hf8 a0 a1 n p x4 x5 x6 x9 (some (.lst (wsD ws))) x11 x12 x13 (some (prgD q)) x15, rfl, ?_, fun _ => by simp [ev]⟩
  have e := bar_ev Fn hw (W := firstW (wp p q)) (S := S) (vd := 7) (ρ := Hf8 a0 a1 n p x4 x5 x6 x9 (some (.lst (wsD ws))) x11 x12 x13 (some (prgD q)) x15) (k := prgD q) rfl rfl (.inl rfl) rfl rfl (frz_ix (K := KP) (getP hq))
  rw [e]
  unfold goodT goodB
  rw [prgOf_D q hq]
theorem leasts_ev (Fn : Nat → List D → Store → Out D) {ws : List Str} (hw : Wish ws) {p : Pl} {S : Store} (a0 a1 x4 x5 x6 x9 x11 x12 x13 x14 x15 : Option D) (n : Nat) :
    ev Fn (.op .Add (.lc (.var 14) (.nm 14) .dat [.var 8] (.cmp .Eq (.lc (.var 15) (.nm 15) .dat [.var 10] (.cmp .In (.var 15) (.ix (.var 8) (.var 14))) [15]) (.lst [])) [14]) (.lst [.k .non])) (Hf8 a0 a1 n p x4 x5 x6 x9 (some (.lst (wsD ws))) x11 x12 x13 x14 x15) S = .ok (.lst (leastL p ws ++ [.non])) S := by
  have hk : itD .dat [frzA KI (allT p)] = some (([1, 2, 3, 4] : List Nat).map fun (n : Nat) => D.int (n : Int)) := rfl
  have e1 : lcL (ev Fn (.cmp .Eq (.lc (.var 15) (.nm 15) .dat [.var 10] (.cmp .In (.var 15) (.ix (.var 8) (.var 14))) [15]) (.lst []))) (ev Fn (.var 14)) (.nm 14) (wipeE (Hf8 a0 a1 n p x4 x5 x6 x9 (some (.lst (wsD ws))) x11 x12 x13 x14 x15) [14]) (([1, 2, 3, 4] : List Nat).map fun (n : Nat) => D.int (n : Int)) S = .ok (((([1, 2, 3, 4] : List Nat).map fun (n : Nat) => D.int (n : Int)).filter fun d => goodB (wt p (tnkOf d)) ws).map id) S := by
    refine lc_flt _ _ _ _ _ _ _ _ fun d hd => ?_
    obtain ⟨q, hq, rfl⟩ := List.mem_map.mp hd
    refine ⟨Hf8 a0 a1 n p x4 x5 x6 x9 (some (.lst (wsD ws))) x11 x12 x13 (some (.int (q : Int))) x15, rfl, ?_, fun _ => by simp [ev]⟩
    exact bar_ev Fn hw (W := firstW (wt p q)) (S := S) (vd := 8) (ρ := Hf8 a0 a1 n p x4 x5 x6 x9 (some (.lst (wsD ws))) x11 x12 x13 (some (.int (q : Int))) x15) (k := .int (q : Int)) rfl rfl (.inr rfl) rfl rfl (frz_ix (K := KI) (getT hq))
  rw [List.map_id, List.filter_map] at e1
  have e2 := ev_lc (S := S) (S1 := S) (own := [14]) (es := [.var 8]) (it := .dat) (ρ := Hf8 a0 a1 n p x4 x5 x6 x9 (some (.lst (wsD ws))) x11 x12 x13 x14 x15) (ds := [frzA KI (allT p)]) (items := ([1, 2, 3, 4] : List Nat).map fun (n : Nat) => D.int (n : Int)) (evs_1 (by simp [ev])) hk rfl e1
  have e3 : ev Fn (.lst [.k .non]) (Hf8 a0 a1 n p x4 x5 x6 x9 (some (.lst (wsD ws))) x11 x12 x13 x14 x15) S = .ok (.lst [.non]) S := rfl
  have hlen : (leastL p ws).length ≤ 4 := by
    unfold leastL
    rw [List.length_map]
    exact List.length_filter_le _ _
  refine op_ok e2 e3 ?_
  show opD .Add (.lst (leastL p ws)) (.lst [.non]) = _
  rw [op_addl _ _ (by simp; omega)]
def turnB : List Wt.S := [
   .asg (.nm 10) (.sl (.lc (.var 15) (.nm 15) .dat [.lst [.k (.str s_cold), .k (.str s_dear), .k (.str s_empty), .k (.str s_lost)]] (.cmp .Eq (.call n__law_pick [.var 2, .k (.int 2)]) (.k (.int 0))) [15]) (.k .non) (.op .Sub (.k (.int 2)) (.var 6))),
   .asg (.nm 11) (.lc (.var 14) (.nm 14) .dat [.var 7] (.cmp .Eq (.lc (.var 15) (.nm 15) .dat [.var 10] (.cmp .In (.var 15) (.ix (.var 7) (.var 14))) [15]) (.lst [])) [14]),
   .asg (.nm 12) (.op .Add (.lc (.var 14) (.nm 14) .dat [.var 8] (.cmp .Eq (.lc (.var 15) (.nm 15) .dat [.var 10] (.cmp .In (.var 15) (.ix (.var 8) (.var 14))) [15]) (.lst [])) [14]) (.lst [.k .non])),
   .ite (.not (.call n__law_twins [.call n_good_programs [.var 3, .prim .tuple [.var 10]], .var 11])) [
    .ret (.k (.bl false))] [],
   .ite (.not (.call n__law_twins [.call n_least_tank [.var 3, .prim .tuple [.var 10]], .ix (.var 12) (.k (.int 0))])) [
    .ret (.k (.bl false))] []]
theorem fit_goods (p : Pl) (ws : List Str) : D.fit 3 (goodsD p ws) = true := by
  unfold goodsD
  rw [List.map_id]
  refine fit_lst ?_ fun d hd => ?_
  · have := List.length_filter_le (goodT p ws) (prgs.map prgD)
    have e : (prgs.map prgD).length = 16 := rfl
    omega
  · obtain ⟨q, hq, rfl⟩ := List.mem_map.mp (List.mem_filter.mp hd).1
    have : ∀ q ∈ prgs, D.fit 2 (prgD q) = true := by decide +kernel
    exact this q hq
theorem fit_least (p : Pl) (ws : List Str) (n : Nat) : D.fit n (leastV p ws) = true := by
  unfold leastV leastL
  cases ([1, 2, 3, 4] : List Nat).filter fun n => goodB (wt p n) ws with
  | nil => cases n <;> rfl
  | cons x l => cases n <;> rfl
theorem turn_ok (k : Nat) {n : Nat} {S : Store} (h : Spr2 n S) {p : Pl} (hp : p.Ok) (a0 a1 x4 x5 x9 x10 x11 x12 x13 x14 x15 : Option D) {i : Nat} (hi : i ≤ 1) : ∃ (S' : Store) (y10 y11 y12 : Option D), Spr2 n S' ∧
    exL (callF tab (k + 9)) turnB (Hf8 a0 a1 n p x4 x5 (some (.int (i : Int))) x9 x10 x11 x12 x13 x14 x15) S = .nx (Hf8 a0 a1 n p x4 x5 (some (.int (i : Int))) x9 y10 y11 y12 x13 x14 x15) S' := by
  obtain ⟨ws, S', hw, h', e1⟩ := wish_ok (k + 8) h (p := p) a0 a1 x4 x5 x9 x10 x11 x12 x13 x14 x15 hi
  have e2 := asg_ok (i := 11) (goods_ev (callF tab (k + 9)) hw (p := p) (S := S') a0 a1 x4 x5 (some (.int (i : Int))) x9 x11 x12 x13 x14 x15 n)
  have e3 := asg_ok (i := 12) (leasts_ev (callF tab (k + 9)) hw (p := p) (S := S') a0 a1 x4 x5 (some (.int (i : Int))) x9 (some (goodsD p ws)) x12 x13 x14 x15 n)
  have g1 : callF tab (k + 9) n_good_programs [p.d, .tup (wsD ws)] S' = .ok (goodsD p ws) S' := good_programs_ok (k + 2) hp hw h'.2
  have g2 : callF tab (k + 9) n_least_tank [p.d, .tup (wsD ws)] S' = .ok (leastV p ws) S' := least_ok (k + 2) hp hw h'.2
  have f1 := fit_goods p ws
  have f2 := fit_least p ws 3
  have t1 : callF tab (k + 9) n__law_twins [goodsD p ws, goodsD p ws] S' = _ := twins_ok 3 (by omega) (k + 4) _ _ f1 f1 S'
  rw [twins_refl 3 _ f1] at t1
  have t2 : callF tab (k + 9) n__law_twins [leastV p ws, leastV p ws] S' = _ := twins_ok 3 (by omega) (k + 4) _ _ f2 f2 S'
  rw [twins_refl 3 _ f2] at t2
  have pt : prD .tuple [.lst (wsD ws)] S' = some (.tup (wsD ws)) := rfl
  have ix : ixD (.lst (leastL p ws ++ [.non])) (.int 0) S' = some (leastV p ws) := by
    show atI _ 0 = _
    rw [atI_0]
    unfold leastV
    cases leastL p ws <;> rfl
  have e4 : exS (callF tab (k + 9)) (.ite (.not (.call n__law_twins [.call n_good_programs [.var 3, .prim .tuple [.var 10]], .var 11])) [.ret (.k (.bl false))] []) (Hf8 a0 a1 n p x4 x5 (some (.int (i : Int))) x9 (some (.lst (wsD ws))) (some (goodsD p ws)) (some (.lst (leastL p ws ++ [.non]))) x13 x14 x15) S' = .nx _ S' :=
    ite_no (not_ok (b := true) (call_ok (S1 := S') (evs_2 (S1 := S') (S2 := S') (call_ok (S1 := S') (evs_2 (S1 := S') (S2 := S') (x := p.d) (y := .tup (wsD ws)) (by simp [ev]) (by simp [ev, evs, pt])) g1) (by simp [ev])) t1))
  have e5 : exS (callF tab (k + 9)) (.ite (.not (.call n__law_twins [.call n_least_tank [.var 3, .prim .tuple [.var 10]], .ix (.var 12) (.k (.int 0))])) [.ret (.k (.bl false))] []) (Hf8 a0 a1 n p x4 x5 (some (.int (i : Int))) x9 (some (.lst (wsD ws))) (some (goodsD p ws)) (some (.lst (leastL p ws ++ [.non]))) x13 x14 x15) S' = .nx _ S' :=
    ite_no (not_ok (b := true) (call_ok (S1 := S') (evs_2 (S1 := S') (S2 := S') (call_ok (S1 := S') (evs_2 (S1 := S') (S2 := S') (x := p.d) (y := .tup (wsD ws)) (by simp [ev]) (by simp [ev, evs, pt])) g2) (by simp [ev, ix])) t2))
  exact ⟨S', _, _, _, h', ex_step e1 (ex_step e2 (ex_step e3 (ex_step e4 (ex_step e5 (exL_n _ _ _)))))⟩
def body : List Wt.S := [
  .asg (.nm 2) (.call n__law_spring [.var 0, .var 1]),
  .asg (.nm 3) (.call n__law_small [.var 2]),
  .asg (.tup [(.nm 7), (.nm 8)]) (.tup [.dic0, .dic0]),
  .for_ (.nm 4) .rng [.k (.int 4)] prB3,
  .for_ (.nm 5) .rng [.k (.int 1), .k (.int 5)] tkB,
  .fzs 7,
  .fzs 8,
  .for_ (.nm 6) .rng [.k (.int 2)] turnB]
theorem one_turn (k : Nat) {ns : List Int} (i : Nat) {S : Store} (hS : LowS S) :
    ∃ (S' : Store) (w2 w3 w4 w5 w6 w7 w8 w9 w10 w11 w12 w13 w14 w15 : Option D), exL (callF tab (k + 10)) body [some (.scr ns), some (.int (i : Int)), none, none, none, none, none, none, none, none, none, none, none, none, none, none] S = .nx [some (.scr ns), some (.int (i : Int)), w2, w3, w4, w5, w6, w7, w8, w9, w10, w11, w12, w13, w14, w15] S' := by
  obtain ⟨a, b, e1, ha, hb⟩ := spring_ok (k + 9) ns i S
  have h1 : Spr2 S.length (S ++ [some (.ls [.int a, .int b])]) := ⟨⟨a, b, ha, hb, by simp⟩, hS.app a b⟩
  obtain ⟨p, S1, hp, _, e2, h2, g2⟩ := small_ok (k + 6) h1
  have e1' : callF tab (k + 10) n__law_spring [.scr ns, .int (i : Int)] S = .ok (.loc S.length) (S ++ [some (.ls [.int a, .int b])]) := e1
  have e2' : callF tab (k + 10) n__law_small [.loc S.length] (S ++ [some (.ls [.int a, .int b])]) = .ok p.d S1 := e2
  have s1 : exS (callF tab (k + 10)) (.asg (.nm 2) (.call n__law_spring [.var 0, .var 1])) [some (.scr ns), some (.int (i : Int)), none, none, none, none, none, none, none, none, none, none, none, none, none, none] S = .nx [some (.scr ns), some (.int (i : Int)), some (.loc S.length), none, none, none, none, none, none, none, none, none, none, none, none, none] (S ++ [some (.ls [.int a, .int b])]) := by simp [exL_n, exL_c, seq_nx, seq_rt, seq_ex, seq_bk, seq_ct, fl_non, fl_bl, fl_int, fl_str, exS, ev, evs, ix_t, ix_l, ix_s, atI_0, atI_1, atI_2, atI_3, atI_4, atI_5, atI_6, cm_lt, cm_le, cm_gt, cm_ge, cm_eqi, cm_nei, cm_eqs, cm_in2, op_addi, op_subi, op_muli, op_addl, op_addt, op_bl, op_mul0, op_x1, op_x0, op_mod, op_div, pr_int, pr_intb, pr_max, pr_min, pr_abs, bT_n, bT_t, bTs_n, bTs_c, sP_n, sP_c, isNon, iteB, thB, bindB, lift_B, asB_B, setD, e1']
  have s2 : exS (callF tab (k + 10)) (.asg (.nm 3) (.call n__law_small [.var 2])) [some (.scr ns), some (.int (i : Int)), some (.loc S.length), none, none, none, none, none, none, none, none, none, none, none, none, none] (S ++ [some (.ls [.int a, .int b])]) = .nx [some (.scr ns), some (.int (i : Int)), some (.loc S.length), some p.d, none, none, none, none, none, none, none, none, none, none, none, none] S1 := by simp [exL_n, exL_c, seq_nx, seq_rt, seq_ex, seq_bk, seq_ct, fl_non, fl_bl, fl_int, fl_str, exS, ev, evs, ix_t, ix_l, ix_s, atI_0, atI_1, atI_2, atI_3, atI_4, atI_5, atI_6, cm_lt, cm_le, cm_gt, cm_ge, cm_eqi, cm_nei, cm_eqs, cm_in2, op_addi, op_subi, op_muli, op_addl, op_addt, op_bl, op_mul0, op_x1, op_x0, op_mod, op_div, pr_int, pr_intb, pr_max, pr_min, pr_abs, bT_n, bT_t, bTs_n, bTs_c, sP_n, sP_c, isNon, iteB, thB, bindB, lift_B, asB_B, setD, e2']
  have s3 : exS (callF tab (k + 10)) (.asg (.tup [(.nm 7), (.nm 8)]) (.tup [.dic0, .dic0])) [some (.scr ns), some (.int (i : Int)), some (.loc S.length), some p.d, none, none, none, none, none, none, none, none, none, none, none, none] S1 = .nx (Hd8 (some (.scr ns)) (some (.int (i : Int))) (some (.loc S.length)) p S1.length none none none none none none none none none none) (St3 S1 [] []) := by
    simp [exL_n, exL_c, seq_nx, seq_rt, seq_ex, seq_bk, seq_ct, fl_non, fl_bl, fl_int, fl_str, exS, ev, evs, ix_t, ix_l, ix_s, atI_0, atI_1, atI_2, atI_3, atI_4, atI_5, atI_6, cm_lt, cm_le, cm_gt, cm_ge, cm_eqi, cm_nei, cm_eqs, cm_in2, op_addi, op_subi, op_muli, op_addl, op_addt, op_bl, op_mul0, op_x1, op_x0, op_mod, op_div, pr_int, pr_intb, pr_max, pr_min, pr_abs, bT_n, bT_t, bTs_n, bTs_c, sP_n, sP_c, isNon, iteB, thB, bindB, lift_B, asB_B, setD, St3, kvA]
  have l4 := pr_all (S1 := S1) (p := p) (some (.scr ns)) (some (.int (i : Int))) (some (.loc S.length)) none none none none none none none (k + 4) hp h2.2 none none none
  have s4 := ex_for (F := callF tab (k + 10)) (g := .nm 4) (it := .rng) (es := [.k (.int 4)]) (S := St3 S1 [] []) (ds := [.int 4]) (by simp [evs, ev]) (show itD .rng [.int 4] = some (rngD 0 4) from rfl) l4
  have l5 := tk_all (S1 := S1) (p := p) (some (.scr ns)) (some (.int (i : Int))) (some (.loc S.length)) none none none none none none (k + 4) hp h2.2 (allP p) (some (.int 3)) (some (.str s_cheap)) (some (.bl true)) none
  have s5 := ex_for (F := callF tab (k + 10)) (g := .nm 5) (it := .rng) (es := [.k (.int 1), .k (.int 5)]) (S := St3 S1 (allP p) []) (ds := [.int 1, .int 5]) (by simp [evs, ev]) (show itD .rng [.int 1, .int 5] = some (rngD 1 4) from rfl) l5
  have q1 : (St3 S1 (allP p) (allT p)).set S1.length none = S1 ++ [none, some (.dc (kvA KI harmD (allT p)))] := by simp [St3]
  have q2 : (S1 ++ [none, some (.dc (kvA KI harmD (allT p)))])[S1.length + 1]? = some (some (.dc (kvA KI harmD (allT p)))) := by simp
  have q3 : (S1 ++ [none, some (M.dc (kvA KI harmD (allT p)))]).set (S1.length + 1) none = S1 ++ [none, none] := by
    rw [List.set_append_right _ _ (by omega)]
    simp
  have s6 : exS (callF tab (k + 10)) (.fzs 7) (Hd8 (some (.scr ns)) (some (.int (i : Int))) (some (.loc S.length)) p S1.length (some (.int 3)) (some (.int 4)) none (some (.str s_cheap)) none none none (some (.bl true)) none none) (St3 S1 (allP p) (allT p)) = .nx [some (.scr ns), some (.int (i : Int)), some (.loc S.length), some p.d, some (.int 3), some (.int 4), none, some (frzA KP (allP p)), some (.loc (S1.length + 1)), some (.str s_cheap), none, none, none, some (.bl true), none, none] (S1 ++ [none, some (.dc (kvA KI harmD (allT p)))]) := by
    have := st3_p S1 (allP p) (allT p)
    simp only [exS, List.getElem?_cons_succ, List.getElem?_cons_zero, this, q1, frD, List.set_cons_succ, List.set_cons_zero]
    rfl
  have s7 : exS (callF tab (k + 10)) (.fzs 8) [some (.scr ns), some (.int (i : Int)), some (.loc S.length), some p.d, some (.int 3), some (.int 4), none, some (frzA KP (allP p)), some (.loc (S1.length + 1)), some (.str s_cheap), none, none, none, some (.bl true), none, none] (S1 ++ [none, some (.dc (kvA KI harmD (allT p)))]) = .nx (Hf8 (some (.scr ns)) (some (.int (i : Int))) S.length p (some (.int 3)) (some (.int 4)) none (some (.str s_cheap)) none none none (some (.bl true)) none none) (S1 ++ [none, none]) := by
    simp only [exS, List.getElem?_cons_succ, List.getElem?_cons_zero, q2, q3, frD, List.set_cons_succ, List.set_cons_zero]
    rfl
  have h3 : Spr2 S.length (S1 ++ [none, none]) := by
    obtain ⟨⟨a, b, ha, hb, hx⟩, hlow⟩ := h2
    refine ⟨⟨a, b, ha, hb, ?_⟩, fun n => ?_⟩
    · rw [List.getElem?_append_left (List.getElem?_eq_some_iff.mp hx).1]
      exact hx
    · rw [List.all_append, hlow n]
      rfl
  obtain ⟨ρ', S8, e8, y6, y10, y11, y12, rfl, h8⟩ := forL_inv (body := exL (callF tab (k + 10)) turnB) (g := .nm 6) (fun ρ T => ∃ y6 y10 y11 y12 : Option D, ρ = Hf8 (some (.scr ns)) (some (.int (i : Int))) S.length p (some (.int 3)) (some (.int 4)) y6 (some (.str s_cheap)) y10 y11 y12 (some (.bl true)) none none ∧ Spr2 S.length T) (rngD 0 2) _ _ ⟨none, none, none, none, rfl, h3⟩ (by
    rintro d hd ρ T ⟨y6, y10, y11, y12, rfl, hT⟩
    have : ∃ j : Nat, j ≤ 1 ∧ d = .int (j : Int) := by
      have er : rngD 0 2 = [.int (0 : Nat), .int (1 : Nat)] := rfl
      rw [er] at hd
      simp only [List.mem_cons, List.not_mem_nil, or_false] at hd
      rcases hd with rfl | rfl
      · exact ⟨0, by omega, rfl⟩
      · exact ⟨1, by omega, rfl⟩
    obtain ⟨j, hj, rfl⟩ := this
    obtain ⟨T', z10, z11, z12, hT', e⟩ := turn_ok (k + 1) hT hp (some (.scr ns)) (some (.int (i : Int))) (some (.int 3)) (some (.int 4)) (some (.str s_cheap)) y10 y11 y12 (some (.bl true)) none none hj
    exact ⟨_, rfl, _, _, e, some (.int (j : Int)), z10, z11, z12, rfl, hT'⟩)
  have s8 := ex_for (F := callF tab (k + 10)) (g := .nm 6) (it := .rng) (es := [.k (.int 2)]) (S := S1 ++ [none, none]) (ds := [.int 2]) (by simp [evs, ev]) (show itD .rng [.int 2] = some (rngD 0 2) from rfl) e8
  exact ⟨S8, _, _, _, _, _, _, _, _, _, _, _, _, _, _, ex_step s1 (ex_step s2 (ex_step s3 (ex_step s4 (ex_step s5 (ex_step s6 (ex_step s7 (ex_step s8 (exL_n _ _ _)))))))) ⟩
theorem pure : ∀ ns : List Int, ns.length ≤ 63 → ∃ S, callF tab (60 + 1) n_law_k08 [.scr ns] [] = .ok (.bl true) S := by
  intro ns hn
  rw [u_law_k08]
  obtain ⟨S', w2, w3, w4, w5, w6, w7, w8, w9, w10, w11, w12, w13, w14, w15, e⟩ := one_turn 50 (ns := ns) 0 LowS.nil
  have e6 : forL (exL (callF tab 60) body) (.nm 1) (rngD 0 1) [some (.scr ns), none, none, none, none, none, none, none, none, none, none, none, none, none, none, none] [] = .nx [some (.scr ns), some (.int ((0 : Nat) : Int)), w2, w3, w4, w5, w6, w7, w8, w9, w10, w11, w12, w13, w14, w15] S' := by
    have er : rngD 0 1 = [.int ((0 : Nat) : Int)] := rfl
    rw [er]
    have e' : exL (callF tab 60) body [some (.scr ns), some (.int ((0 : Nat) : Int)), none, none, none, none, none, none, none, none, none, none, none, none, none, none] [] = _ := e
    simp only [forL, bT_n, List.set_cons_succ, List.set_cons_zero, e']
  have e7 := ex_for (F := callF tab 60) (g := .nm 1) (it := .rng) (es := [.k (.int 1)]) (S := []) (ds := [.int 1]) (S1 := []) (by simp [evs, ev]) (show itD .rng [.int 1] = some (rngD 0 1) from rfl) e6
  have e8 : exL (callF tab 60) ir_law_k08.body [some (.scr ns), none, none, none, none, none, none, none, none, none, none, none, none, none, none, none] [] = .rt (.bl true) S' := by
    refine ex_step e7 ?_
    simp [exL_c, exS, ev, OutS.seq]
  obtain ⟨T, hT⟩ := leave_any 0 (.bl true) S'
  exact ⟨T, (congrArg (leave 0) e8).trans hT⟩
end K08
end Wt
set_option maxRecDepth 100000
set_option maxHeartbeats 4000000
open PySem PySem.W PyProof.Rows
set_option maxRecDepth 100000 in
set_option maxHeartbeats 0 in
theorem PySem.Challenge.cw_warmtank_k08_whole_good_programs_and_tan_holds : PySem.Challenge.rw_warmtank_k08_whole_good_programs_and_tan.Holds := by
  w_on; o_law; k_head; (case hw => w_witness2)
  k_fill
  refine Wt.law_end (l := PySem.Challenge.rw_warmtank_k08_whole_good_programs_and_tan) (T := Wt.tab) (G := Wt.K08.gc) (k := 60) (m := Wt.n_law_k08) (x := "script") rfl rfl ⟨rfl, by decide, by decide⟩ (fun w h Y => PySem.W.kIn_of Y) ?F Wt.K08.pure
  case F =>
    intro _ w mg h KX G
    have f0 : Wt.FX KX mg "is_within" (Wt.K08.top 8) := by
      refine' Wt.fe_mk KX G ?a ?l ?c ?k
      (case a => k_is); (case l => k_is); (case c => k_is); (case k => k_is)
    have f1 : Wt.FX KX mg "is_row" (Wt.K08.top 9) := by
      refine' Wt.fe_mk KX G ?a ?l ?c ?k
      (case a => k_is); (case l => k_is); (case c => k_is); (case k => k_is)
    have f2 : Wt.FX KX mg "is_program" (Wt.K08.top 10) := by
      refine' Wt.fe_mk KX G ?a ?l ?c ?k
      (case a => k_is); (case l => k_is); (case c => k_is); (case k => k_is)
    have f3 : Wt.FX KX mg "is_plan" (Wt.K08.top 11) := by
      refine' Wt.fe_mk KX G ?a ?l ?c ?k
      (case a => k_is); (case l => k_is); (case c => k_is); (case k => k_is)
    have f4 : Wt.FX KX mg "programs_of" (Wt.K08.top 12) := by
      refine' Wt.fe_mk KX G ?a ?l ?c ?k
      (case a => k_is); (case l => k_is); (case c => k_is); (case k => k_is)
    have f5 : Wt.FX KX mg "look_at_plan" (Wt.K08.top 13) := by
      refine' Wt.fe_mk KX G ?a ?l ?c ?k
      (case a => k_is); (case l => k_is); (case c => k_is); (case k => k_is)
    have f6 : Wt.FX KX mg "look_at_harm" (Wt.K08.top 14) := by
      refine' Wt.fe_mk KX G ?a ?l ?c ?k
      (case a => k_is); (case l => k_is); (case c => k_is); (case k => k_is)
    have f7 : Wt.FX KX mg "look_at_wishes" (Wt.K08.top 15) := by
      refine' Wt.fe_mk KX G ?a ?l ?c ?k
      (case a => k_is); (case l => k_is); (case c => k_is); (case k => k_is)
    have f8 : Wt.FX KX mg "begin_of" (Wt.K08.top 16) := by
      refine' Wt.fe_mk KX G ?a ?l ?c ?k
      (case a => k_is); (case l => k_is); (case c => k_is); (case k => k_is)
    have f9 : Wt.FX KX mg "drawn" (Wt.K08.top 18) := by
      refine' Wt.fe_mk KX G ?a ?l ?c ?k
      (case a => k_is); (case l => k_is); (case c => k_is); (case k => k_is)
    have f10 : Wt.FX KX mg "passed" (Wt.K08.top 19) := by
      refine' Wt.fe_mk KX G ?a ?l ?c ?k
      (case a => k_is); (case l => k_is); (case c => k_is); (case k => k_is)
    have f11 : Wt.FX KX mg "choices_of" (Wt.K08.top 20) := by
      refine' Wt.fe_mk KX G ?a ?l ?c ?k
      (case a => k_is); (case l => k_is); (case c => k_is); (case k => k_is)
    have f12 : Wt.FX KX mg "net_of" (Wt.K08.top 22) := by
      refine' Wt.fe_mk KX G ?a ?l ?c ?k
      (case a => k_is); (case l => k_is); (case c => k_is); (case k => k_is)
    have f13 : Wt.FX KX mg "firsts_by" (Wt.K08.top 23) := by
      refine' Wt.fe_mk KX G ?a ?l ?c ?k
      (case a => k_is); (case l => k_is); (case c => k_is); (case k => k_is)
    have f14 : Wt.FX KX mg "harms_by" (Wt.K08.top 24) := by
      refine' Wt.fe_mk KX G ?a ?l ?c ?k
      (case a => k_is); (case l => k_is); (case c => k_is); (case k => k_is)
    have f15 : Wt.FX KX mg "is_good" (Wt.K08.top 26) := by
      refine' Wt.fe_mk KX G ?a ?l ?c ?k
      (case a => k_is); (case l => k_is); (case c => k_is); (case k => k_is)
    have f16 : Wt.FX KX mg "good_programs" (Wt.K08.top 27) := by
      refine' Wt.fe_mk KX G ?a ?l ?c ?k
      (case a => k_is); (case l => k_is); (case c => k_is); (case k => k_is)
    have f17 : Wt.FX KX mg "least_tank" (Wt.K08.top 28) := by
      refine' Wt.fe_mk KX G ?a ?l ?c ?k
      (case a => k_is); (case l => k_is); (case c => k_is); (case k => k_is)
    have f18 : Wt.FX KX mg "_law_spring" (Wt.K08.top 30) := by
      refine' Wt.fe_mk KX G ?a ?l ?c ?k
      (case a => k_is); (case l => k_is); (case c => k_is); (case k => k_is)
    have f19 : Wt.FX KX mg "_law_pick" (Wt.K08.top 31) := by
      refine' Wt.fe_mk KX G ?a ?l ?c ?k
      (case a => k_is); (case l => k_is); (case c => k_is); (case k => k_is)
    have f20 : Wt.FX KX mg "_law_kind" (Wt.K08.top 32) := by
      refine' Wt.fe_mk KX G ?a ?l ?c ?k
      (case a => k_is); (case l => k_is); (case c => k_is); (case k => k_is)
    have f21 : Wt.FX KX mg "_law_twins" (Wt.K08.top 33) := by
      refine' Wt.fe_mk KX G ?a ?l ?c ?k
      (case a => k_is); (case l => k_is); (case c => k_is); (case k => k_is)
    have f22 : Wt.FX KX mg "_law_program" (Wt.K08.top 34) := by
      refine' Wt.fe_mk KX G ?a ?l ?c ?k
      (case a => k_is); (case l => k_is); (case c => k_is); (case k => k_is)
    have f23 : Wt.FX KX mg "_law_plan" (Wt.K08.top 35) := by
      refine' Wt.fe_mk KX G ?a ?l ?c ?k
      (case a => k_is); (case l => k_is); (case c => k_is); (case k => k_is)
    have f24 : Wt.FX KX mg "_law_small" (Wt.K08.top 36) := by
      refine' Wt.fe_mk KX G ?a ?l ?c ?k
      (case a => k_is); (case l => k_is); (case c => k_is); (case k => k_is)
    have f25 : Wt.FX KX mg "_law_begin" (Wt.K08.top 37) := by
      refine' Wt.fe_mk KX G ?a ?l ?c ?k
      (case a => k_is); (case l => k_is); (case c => k_is); (case k => k_is)
    have f26 : Wt.FX KX mg "_law_tick" (Wt.K08.top 38) := by
      refine' Wt.fe_mk KX G ?a ?l ?c ?k
      (case a => k_is); (case l => k_is); (case c => k_is); (case k => k_is)
    have f27 : Wt.FX KX mg "_law_choices" (Wt.K08.top 39) := by
      refine' Wt.fe_mk KX G ?a ?l ?c ?k
      (case a => k_is); (case l => k_is); (case c => k_is); (case k => k_is)
    have f28 : Wt.FX KX mg "_law_ways" (Wt.K08.top 41) := by
      refine' Wt.fe_mk KX G ?a ?l ?c ?k
      (case a => k_is); (case l => k_is); (case c => k_is); (case k => k_is)
    have f29 : Wt.FX KX mg "_law_firsts" (Wt.K08.top 42) := by
      refine' Wt.fe_mk KX G ?a ?l ?c ?k
      (case a => k_is); (case l => k_is); (case c => k_is); (case k => k_is)
    have f30 : Wt.FX KX mg "_law_harms" (Wt.K08.top 43) := by
      refine' Wt.fe_mk KX G ?a ?l ?c ?k
      (case a => k_is); (case l => k_is); (case c => k_is); (case k => k_is)
    have fl : Wt.FX KX mg "law" (Wt.K08.top 44) := by
      refine' Wt.fe_mk KX G ?a ?l ?c ?k
      (case a => k_is); (case l => k_is); (case c => k_is); (case k => k_is)
    have g0 : Wt.GX KX mg "HOURS" Wt.K08.gv_HOURS := by
      refine' Wt.gl_tup (xs := Wt.K08.gs_HOURS) KX G ?a ?l ?z ?e
      (case a => k_is); (case l => k_is); (case z => rfl); (case e => decide +kernel)
    have g1 : Wt.GX KX mg "HARMS" Wt.K08.gv_HARMS := by
      refine' Wt.gl_tup (xs := Wt.K08.gs_HARMS) KX G ?a ?l ?z ?e
      (case a => k_is); (case l => k_is); (case z => rfl); (case e => decide +kernel)
    have g2 : Wt.GX KX mg "DAY" Wt.K08.gv_DAY := by
      refine' Wt.gl_int KX G ?a
      (case a => k_is)
    have x0 : Wt.XX KX mg "InvalidPlan" := by
      refine' Wt.xe_mk KX G ?xa ?xq ?xk ?xb ?xt
      (case xa => k_is); (case xq => k_exc); (case xk => k_is); (case xb => k_is); (case xt => k_is)
    have x1 : Wt.XX KX mg "InvalidHarm" := by
      refine' Wt.xe_mk KX G ?xa ?xq ?xk ?xb ?xt
      (case xa => k_is); (case xq => k_exc); (case xk => k_is); (case xb => k_is); (case xt => k_is)
    have b0 : mg "len" = none := PySem.W.mg_none_of KX G (by k_is)
    have b1 : mg "int" = none := PySem.W.mg_none_of KX G (by k_is)
    have b2 : mg "max" = none := PySem.W.mg_none_of KX G (by k_is)
    have b3 : mg "min" = none := PySem.W.mg_none_of KX G (by k_is)
    have b4 : mg "sorted" = none := PySem.W.mg_none_of KX G (by k_is)
    have b5 : mg "sum" = none := PySem.W.mg_none_of KX G (by k_is)
    have b6 : mg "list" = none := PySem.W.mg_none_of KX G (by k_is)
    have b7 : mg "tuple" = none := PySem.W.mg_none_of KX G (by k_is)
    have b8 : mg "abs" = none := PySem.W.mg_none_of KX G (by k_is)
    have b9 : mg "isinstance" = none := PySem.W.mg_none_of KX G (by k_is)
    have b10 : mg "bool" = none := PySem.W.mg_none_of KX G (by k_is)
    have b11 : mg "str" = none := PySem.W.mg_none_of KX G (by k_is)
    have b12 : mg "range" = none := PySem.W.mg_none_of KX G (by k_is)
    have b13 : mg "zip" = none := PySem.W.mg_none_of KX G (by k_is)
    have b14 : mg "any" = none := PySem.W.mg_none_of KX G (by k_is)
    have b15 : mg "set" = none := PySem.W.mg_none_of KX G (by k_is)
    have b16 : mg "dict" = none := PySem.W.mg_none_of KX G (by k_is)
    have tb : ∀ x ∈ Wt.blNames, mg x = none := List.forall_mem_cons.mpr ⟨b0, List.forall_mem_cons.mpr ⟨b1, List.forall_mem_cons.mpr ⟨b2, List.forall_mem_cons.mpr ⟨b3, List.forall_mem_cons.mpr ⟨b4, List.forall_mem_cons.mpr ⟨b5, List.forall_mem_cons.mpr ⟨b6, List.forall_mem_cons.mpr ⟨b7, List.forall_mem_cons.mpr ⟨b8, List.forall_mem_cons.mpr ⟨b9, List.forall_mem_cons.mpr ⟨b10, List.forall_mem_cons.mpr ⟨b11, List.forall_mem_cons.mpr ⟨b12, List.forall_mem_cons.mpr ⟨b13, List.forall_mem_cons.mpr ⟨b14, List.forall_mem_cons.mpr ⟨b15, List.forall_mem_cons.mpr ⟨b16, (fun _ z => nomatch z)⟩⟩⟩⟩⟩⟩⟩⟩⟩⟩⟩⟩⟩⟩⟩⟩⟩
    exact ⟨_, Wt.tab_ok (⟨Wt.fnE f0 Wt.K08.ck_is_within rfl Wt.K08.bd_is_within, ⟨Wt.fnE f1 Wt.K08.ck_is_row rfl Wt.K08.bd_is_row, ⟨Wt.fnE f2 Wt.K08.ck_is_program rfl Wt.K08.bd_is_program, ⟨Wt.fnE f3 Wt.K08.ck_is_plan rfl Wt.K08.bd_is_plan, ⟨Wt.fnE f4 Wt.K08.ck_programs_of rfl Wt.K08.bd_programs_of, ⟨Wt.fnE f5 Wt.K08.ck_look_at_plan rfl Wt.K08.bd_look_at_plan, ⟨Wt.fnE f6 Wt.K08.ck_look_at_harm rfl Wt.K08.bd_look_at_harm, ⟨Wt.fnE f7 Wt.K08.ck_look_at_wishes rfl Wt.K08.bd_look_at_wishes, ⟨Wt.fnE f8 Wt.K08.ck_begin_of rfl Wt.K08.bd_begin_of, ⟨Wt.fnE f9 Wt.K08.ck_drawn rfl Wt.K08.bd_drawn, ⟨Wt.fnE f10 Wt.K08.ck_passed rfl Wt.K08.bd_passed, ⟨Wt.fnE f11 Wt.K08.ck_choices_of rfl Wt.K08.bd_choices_of, ⟨Wt.fnE f12 Wt.K08.ck_net_of rfl Wt.K08.bd_net_of, ⟨Wt.fnE f13 Wt.K08.ck_firsts_by rfl Wt.K08.bd_firsts_by, ⟨Wt.fnE f14 Wt.K08.ck_harms_by rfl Wt.K08.bd_harms_by, ⟨Wt.fnE f15 Wt.K08.ck_is_good rfl Wt.K08.bd_is_good, ⟨Wt.fnE f16 Wt.K08.ck_good_programs rfl Wt.K08.bd_good_programs, ⟨Wt.fnE f17 Wt.K08.ck_least_tank rfl Wt.K08.bd_least_tank, ⟨Wt.fnE f18 Wt.K08.ck__law_spring rfl Wt.K08.bd__law_spring, ⟨Wt.fnE f19 Wt.K08.ck__law_pick rfl Wt.K08.bd__law_pick, ⟨Wt.fnE f20 Wt.K08.ck__law_kind rfl Wt.K08.bd__law_kind, ⟨Wt.fnE f21 Wt.K08.ck__law_twins rfl Wt.K08.bd__law_twins, ⟨Wt.fnE f22 Wt.K08.ck__law_program rfl Wt.K08.bd__law_program, ⟨Wt.fnE f23 Wt.K08.ck__law_plan rfl Wt.K08.bd__law_plan, ⟨Wt.fnE f24 Wt.K08.ck__law_small rfl Wt.K08.bd__law_small, ⟨Wt.fnE f25 Wt.K08.ck__law_begin rfl Wt.K08.bd__law_begin, ⟨Wt.fnE f26 Wt.K08.ck__law_tick rfl Wt.K08.bd__law_tick, ⟨Wt.fnE f27 Wt.K08.ck__law_choices rfl Wt.K08.bd__law_choices, ⟨Wt.fnE f28 Wt.K08.ck__law_ways rfl Wt.K08.bd__law_ways, ⟨Wt.fnE f29 Wt.K08.ck__law_firsts rfl Wt.K08.bd__law_firsts, ⟨Wt.fnE f30 Wt.K08.ck__law_harms rfl Wt.K08.bd__law_harms, trivial⟩⟩⟩⟩⟩⟩⟩⟩⟩⟩⟩⟩⟩⟩⟩⟩⟩⟩⟩⟩⟩⟩⟩⟩⟩⟩⟩⟩⟩⟩⟩) (⟨g0, ⟨g1, ⟨g2, trivial⟩⟩⟩) tb (⟨x0, ⟨x1, trivial⟩⟩) rfl, Wt.law_ok fl Wt.K08.ck_law rfl Wt.K08.bd_law⟩
