import PyProof.Rows.All
import Wide.All
import OpenK.AllK
import Wide.FinOn
import HandS.ForMost
import HandS.SetKeys
import HandS.Style
import HandS.TupAny
import HandS.TupMul
import HandS.IsInst
import KE.KDictKeyed
import HandS.ReCall
import HandS.TupSets
import KE.GoesEnum
import KE.KDictZip
import HandS.GenList
import KE.KDictItemsList
import KE.KDictCopyH
import KE.KDictPairs
import HandS.Conv
import HandS.DictTup
import HandS.DictComp
import HandS.SetBool
import HandS.Strs
import HandS.SetFor
import HandS.Zip
import HandS.Walk
import HandS.Codes
import HandS.WordsDict
import PySem.Challenge.RW_onesilent_k44_whole_tables_found_and_jud
set_option Elab.async false
set_option linter.all false
set_option maxRecDepth 100000
set_option maxHeartbeats 4000000
/-! K1: data made of ints, None, texts and tuples, over the abstract heap; frames; dicts whose keys are such tuples -/
namespace S1
open PySem L2 PyProof.Rows

theorem upd_ap (H : Hp) (a : Addr) (o : HO) (b : Addr) : upd H a o b = if b = a then some o else H b := rfl

/-! ### data -/
mutual
/-- the value v is the data k -/
def NK (H : Hp) : NestedKey → V → Prop
  | .none, v => v = .non
  | .num i, v => v = .int i
  | .text x, v => v = .str x
  | .tup ks, v => ∃ a vs, v = .ref a ∧ H a = some (.tup vs) ∧ NKs H ks vs
def NKs (H : Hp) : List NestedKey → List V → Prop
  | [], vs => vs = []
  | k :: ks, vs => ∃ v r, vs = v :: r ∧ NK H k v ∧ NKs H ks r
end
/-- tuples stay -/
def KeepT (H H' : Hp) : Prop := ∀ b xs, H b = some (.tup xs) → H' b = some (.tup xs)
theorem KeepT.refl (H : Hp) : KeepT H H := fun _ _ h => h
theorem KeepT.trans {H H1 H2 : Hp} (a : KeepT H H1) (b : KeepT H1 H2) : KeepT H H2 := fun c xs h => b c xs (a c xs h)
theorem KeepT.of_same {H H' : Hp} (s : Same H H') : KeepT H H' := fun b xs h => s b _ h
mutual
theorem NK.mono {H H' : Hp} (t : KeepT H H') : ∀ (k : NestedKey) (v : V), NK H k v → NK H' k v
  | .none, v, h => h
  | .num _, v, h => h
  | .text _, v, h => h
  | .tup ks, v, h => by
    obtain ⟨a, vs, e, ha, hk⟩ := h
    exact ⟨a, vs, e, t a vs ha, NKs.mono t ks vs hk⟩
theorem NKs.mono {H H' : Hp} (t : KeepT H H') : ∀ (ks : List NestedKey) (vs : List V), NKs H ks vs → NKs H' ks vs
  | [], vs, h => h
  | k :: ks, vs, h => by
    obtain ⟨v, r, e, hv, hr⟩ := h
    exact ⟨v, r, e, NK.mono t k v hv, NKs.mono t ks r hr⟩
end
theorem NKs.len {H : Hp} : ∀ {ks : List NestedKey} {vs : List V}, NKs H ks vs → vs.length = ks.length
  | [], vs, h => by cases h; rfl
  | k :: ks, vs, h => by
    obtain ⟨v, r, rfl, hv, hr⟩ := h
    simp [NKs.len hr]
theorem NKs.at {H : Hp} : ∀ {ks : List NestedKey} {vs : List V} {i : Nat} {v : V}, NKs H ks vs → vs[i]? = some v → ∃ k, ks[i]? = some k ∧ NK H k v
  | [], vs, i, v, h, e => by cases h; simp at e
  | k :: ks, vs, 0, v, h, e => by
    obtain ⟨x, r, rfl, hv, hr⟩ := h
    simp at e; subst e
    exact ⟨k, rfl, hv⟩
  | k :: ks, vs, i + 1, v, h, e => by
    obtain ⟨x, r, rfl, hv, hr⟩ := h
    obtain ⟨k', e', hk⟩ := NKs.at (i := i) hr (by simpa using e)
    exact ⟨k', by simpa using e', hk⟩
theorem NKs.at' {H : Hp} : ∀ {ks : List NestedKey} {vs : List V} {i : Nat} {k : NestedKey}, NKs H ks vs → ks[i]? = some k → ∃ v, vs[i]? = some v ∧ NK H k v
  | [], vs, i, k, h, e => by simp at e
  | k' :: ks, vs, 0, k, h, e => by
    obtain ⟨x, r, rfl, hv, hr⟩ := h
    simp at e; subst e
    exact ⟨x, rfl, hv⟩
  | k' :: ks, vs, i + 1, k, h, e => by
    obtain ⟨x, r, rfl, hv, hr⟩ := h
    obtain ⟨v, e', hk⟩ := NKs.at' (i := i) hr (by simpa using e)
    exact ⟨v, by simpa using e', hk⟩
theorem NKs.snoc {H : Hp} : ∀ {ks : List NestedKey} {vs : List V} {k : NestedKey} {v : V}, NKs H ks vs → NK H k v → NKs H (ks ++ [k]) (vs ++ [v])
  | [], vs, k, v, h, hv => by cases h; exact ⟨v, [], rfl, hv, rfl⟩
  | k' :: ks, vs, k, v, h, hv => by
    obtain ⟨x, r, rfl, hx, hr⟩ := h
    exact ⟨x, r ++ [v], rfl, hx, NKs.snoc hr hv⟩
theorem NKs.app {H : Hp} : ∀ {ks : List NestedKey} {vs : List V} {ls : List NestedKey} {ws : List V}, NKs H ks vs → NKs H ls ws → NKs H (ks ++ ls) (vs ++ ws)
  | [], vs, ls, ws, h, hw => by cases h; exact hw
  | k :: ks, vs, ls, ws, h, hw => by
    obtain ⟨x, r, rfl, hx, hr⟩ := h
    exact ⟨x, r ++ ws, rfl, hx, NKs.app hr hw⟩
theorem NKs.take {H : Hp} : ∀ {ks : List NestedKey} {vs : List V} (n : Nat), NKs H ks vs → NKs H (ks.take n) (vs.take n)
  | _, _, 0, _ => rfl
  | [], vs, n + 1, h => by cases h; rfl
  | k :: ks, vs, n + 1, h => by
    obtain ⟨x, r, rfl, hx, hr⟩ := h
    exact ⟨x, r.take n, rfl, hx, NKs.take n hr⟩
theorem NKs.drop {H : Hp} : ∀ {ks : List NestedKey} {vs : List V} (n : Nat), NKs H ks vs → NKs H (ks.drop n) (vs.drop n)
  | _, _, 0, h => h
  | [], vs, n + 1, h => by cases h; rfl
  | k :: ks, vs, n + 1, h => by
    obtain ⟨x, r, rfl, hx, hr⟩ := h
    exact NKs.drop n hr
/-- a row of ints -/
def rowK (r : List Int) : NestedKey := .tup (r.map .num)
theorem NKs.ints {H : Hp} : ∀ {ns : List Int} {vs : List V}, NKs H (ns.map .num) vs ↔ vs = ns.map V.int
  | [], vs => Iff.rfl
  | n :: ns, vs => by
    constructor
    · rintro ⟨v, r, rfl, hv, hr⟩
      cases hv
      rw [NKs.ints.mp hr]; rfl
    · rintro rfl
      exact ⟨.int n, ns.map V.int, rfl, rfl, NKs.ints.mpr rfl⟩
theorem NK.row {H : Hp} {r : List Int} {v : V} : NK H (rowK r) v ↔ ∃ a, v = .ref a ∧ H a = some (.tup (r.map V.int)) := by
  constructor
  · rintro ⟨a, vs, rfl, ha, hk⟩
    exact ⟨a, rfl, by rw [NKs.ints.mp hk] at ha; exact ha⟩
  · rintro ⟨a, rfl, ha⟩
    exact ⟨a, _, rfl, ha, NKs.ints.mpr rfl⟩
theorem NK.tupI {H : Hp} {ks : List NestedKey} {v : V} (h : NK H (.tup ks) v) : ∃ a vs, v = .ref a ∧ H a = some (.tup vs) ∧ NKs H ks vs := h
mutual
theorem NK.inj {H : Hp} : ∀ (k l : NestedKey) (v : V), NK H k v → NK H l v → k = l
  | .none, l, v, h, h' => by
    cases h
    cases l with
    | none => rfl
    | num i => cases h'
    | text x => cases h'
    | tup ks => obtain ⟨a, vs, e, _⟩ := h'; cases e
  | .num i, l, v, h, h' => by
    cases h
    cases l with
    | none => cases h'
    | num i => cases h'; rfl
    | text x => cases h'
    | tup ks => obtain ⟨a, vs, e, _⟩ := h'; cases e
  | .text x, l, v, h, h' => by
    cases h
    cases l with
    | none => cases h'
    | num i => cases h'
    | text x => cases h'; rfl
    | tup ks => obtain ⟨a, vs, e, _⟩ := h'; cases e
  | .tup ks, l, v, h, h' => by
    obtain ⟨a, vs, rfl, ha, hk⟩ := h
    cases l with
    | none => cases h'
    | num i => cases h'
    | text x => cases h'
    | tup ls =>
      obtain ⟨b, ws, e, hb, hl⟩ := h'
      cases e
      rw [ha] at hb; cases hb
      rw [NKs.inj ks ls vs hk hl]
theorem NKs.inj {H : Hp} : ∀ (ks ls : List NestedKey) (vs : List V), NKs H ks vs → NKs H ls vs → ks = ls
  | [], ls, vs, h, h' => by
    cases h
    cases ls with
    | nil => rfl
    | cons l ls => obtain ⟨v, r, e, _⟩ := h'; cases e
  | k :: ks, ls, vs, h, h' => by
    obtain ⟨v, r, rfl, hv, hr⟩ := h
    cases ls with
    | nil => cases h'
    | cons l ls =>
      obtain ⟨v', r', e, hv', hr'⟩ := h'
      cases e
      rw [NK.inj k l v hv hv', NKs.inj ks ls r hr hr']
end

section
variable {P : Program} {w : World} {H : Hp} {h : Heap}
mutual
/-- .. and so it is in the heap -/
theorem NK.is (ok : HOk P w H h) : ∀ (k : NestedKey) (v : V) (u : Value), NK H k v → RelV v u → NestedIs h k u
  | .none, v, u, hk, r => by cases hk; cases r; exact .none
  | .num i, v, u, hk, r => by cases hk; obtain ⟨t, rfl⟩ := r; exact .int i t
  | .text x, v, u, hk, r => by cases hk; obtain ⟨t, rfl⟩ := r; exact .text x t
  | .tup ks, v, u, hk, r => by
    obtain ⟨a, vs, rfl, ha, hs⟩ := hk
    cases r
    obtain ⟨_, its, rv, o, h1, h2, n, h3⟩ := (show ObjOk P w H h a (.tup vs) from ok a _ ha)
    exact .tup h1 h2 h3 (by simpa using NKs.is ok ks vs its hs rv)
theorem NKs.is (ok : HOk P w H h) : ∀ (ks : List NestedKey) (vs : List V) (us : List Value), NKs H ks vs → Vals vs us → NestedAll h ks us
  | [], vs, us, hk, r => by cases hk; cases r; exact .nil
  | k :: ks, vs, us, hk, r => by
    obtain ⟨v, t, rfl, hv, ht⟩ := hk
    cases r with
    | cons r1 r2 => exact .cons (NK.is ok k v _ hv r1) (NKs.is ok ks t _ ht r2)
end
end

/-! ### frames -/
/-- what stood at places outside m stands as it was -/
def Keep (m : List Addr) (H H' : Hp) : Prop := ∀ b o, H b = some o → b ∉ m → H' b = some o
theorem Keep.refl (m : List Addr) (H : Hp) : Keep m H H := fun _ _ h _ => h
theorem Keep.trans {m : List Addr} {H H1 H2 : Hp} (a : Keep m H H1) (b : Keep m H1 H2) : Keep m H H2 := fun c o h n => b c o (a c o h n) n
theorem Keep.of_same {m : List Addr} {H H' : Hp} (s : Same H H') : Keep m H H' := fun b o h _ => s b o h
theorem Keep.same {H H' : Hp} (s : Keep [] H H') : Same H H' := fun b o h => s b o h (by simp)
theorem Keep.mono {m n : List Addr} {H H' : Hp} (s : Keep m H H') (k : ∀ x ∈ m, x ∈ n) : Keep n H H' := fun b o h q => s b o h fun z => q (k b z)
/-- the places of m bear no tuple -/
def NoTup (m : List Addr) (H : Hp) : Prop := ∀ b ∈ m, ∀ xs, H b ≠ some (.tup xs)
theorem Keep.keepT {m : List Addr} {H H' : Hp} (s : Keep m H H') (n : NoTup m H) : KeepT H H' := fun b xs h => s b _ h fun z => n b z xs h

/-! ### a dict whose keys are nested tuples: its entries with the places of the keys -/
abbrev NEnt := NestedKey × Addr × V
def NRel : List NEnt → List (NestedKey × Addr × Value) → Prop := Paired fun p q => p.1 = q.1 ∧ p.2.1 = q.2.1 ∧ RelV p.2.2 q.2.2
def NDF (P : Program) (w : World) (d : Addr) (xs : List NEnt) (h : Heap) : Prop :=
  xs.length ≤ sizeLine ∧ (d == sysModules) = false ∧ ∃ us, NRel xs us ∧ ∃ o es ep, h.get? d = some o ∧ o.ExactDict ∧ o.data = .dict es ep ∧ es.toList = us.map (entryOfKey (nestedKind P w)) ∧ (us.map (·.1)).Nodup
def NDO (P : Program) (w : World) (d : Addr) (xs : List NEnt) : HO := .ext (NDF P w d xs)
/-- its keys and values -/
def kvOf (xs : List NEnt) : List (NestedKey × V) := xs.map fun x => (x.1, x.2.2)
/-- the keys stand -/
def NKeys (H : Hp) (xs : List NEnt) : Prop := ∀ x ∈ xs, NK H x.1 (.ref x.2.1) ∧ x.1.depth ≤ 8
/-- at d a dict with these keys and values, to be read -/
def NDr (P : Program) (w : World) (H : Hp) (d : Addr) (kvs : List (NestedKey × V)) : Prop := ∃ xs, Rd H d (NDO P w d xs) ∧ kvOf xs = kvs ∧ NKeys H xs
/-- .. and written -/
def ND (P : Program) (w : World) (H : Hp) (d : Addr) (kvs : List (NestedKey × V)) : Prop := ∃ xs, H d = some (NDO P w d xs) ∧ kvOf xs = kvs ∧ NKeys H xs
section
variable {P : Program} {w : World} {H H' : Hp} {h h' : Heap} {d a : Addr} {xs : List NEnt} {us : List (NestedKey × Addr × Value)} {kvs : List (NestedKey × V)} {k : NestedKey} {v : V} {u : Value}
theorem ND.rd (x : ND P w H d kvs) : NDr P w H d kvs := let ⟨xs, h, r⟩ := x; ⟨xs, .inl h, r⟩
theorem NKeys.mono (t : KeepT H H') (n : NKeys H xs) : NKeys H' xs := fun x hx => ⟨NK.mono t _ _ (n x hx).1, (n x hx).2⟩
theorem ND.mono (x : ND P w H d kvs) (t : KeepT H H') (e : ∀ o, H d = some o → H' d = some o) : ND P w H' d kvs := let ⟨xs, h, r, n⟩ := x; ⟨xs, e _ h, r, n.mono t⟩
theorem NDr.mono (x : NDr P w H d kvs) (t : KeepT H H') (e : ∀ o, H d = some o → H' d = some o) : NDr P w H' d kvs := by
  obtain ⟨xs, h | ⟨o, h⟩, r, n⟩ := x
  · exact ⟨xs, .inl (e _ h), r, n.mono t⟩
  · exact ⟨xs, .inr ⟨o, e _ h⟩, r, n.mono t⟩
theorem NDF.ok (x : NDF P w d xs h) : ObjOk P w H h d (NDO P w d xs) := by
  obtain ⟨z, hd, us, r, o, es, ep, ho, q⟩ := id x
  refine ⟨x, ⟨o, ho⟩, fun h1 h2 p kk => ?_⟩
  obtain ⟨z, hd, us, r, o, es, ep, ho, q⟩ := p
  exact ⟨z, hd, us, r, o, es, ep, kk o ho, q⟩
theorem NRel.len (r : NRel xs us) : xs.length = us.length := Paired.length r
theorem NRel.keys (r : NRel xs us) : xs.map (·.1) = us.map (·.1) := by
  unfold NRel at r
  induction r with
  | nil => rfl
  | cons h t ih => simp only [List.map_cons, ih, h.1]
theorem NRel.val (r : NRel xs us) (k : NestedKey) : RelO (valV (kvOf xs) k) ((atKey us k).map (·.2)) := by
  unfold NRel at r
  induction r with
  | nil => exact True.intro
  | @cons p q ps qs h t ih =>
    obtain ⟨h1, _, h2⟩ := h
    have ek : kvOf (p :: ps) = (p.1, p.2.2) :: kvOf ps := rfl
    rw [ek]
    by_cases e : p.1 = k
    · have e' : q.1 = k := h1.symm.trans e
      have b : atKey (q :: qs) k = some q.2 := by simp [atKey, List.find?_cons, e']
      rw [valV_pos (p := (p.1, p.2.2)) e, b]; exact h2
    · have e' : ¬ q.1 = k := fun z => e (h1.trans z)
      have b : atKey (q :: qs) k = atKey qs k := by simp [atKey, List.find?_cons, e']
      rw [valV_neg (p := (p.1, p.2.2)) e, b]; exact ih
/-- the entry at k gets v; a new one stands at a -/
def putN (xs : List NEnt) (k : NestedKey) (a : Addr) (v : V) : List NEnt :=
  if xs.any (fun x => decide (x.1 = k)) then xs.map (fun x => if x.1 = k then (x.1, x.2.1, v) else x) else xs ++ [(k, a, v)]
theorem kvOf_any (k : NestedKey) : ∀ xs : List NEnt, ((kvOf xs).any fun kv => decide (kv.1 = k)) = xs.any fun x => decide (x.1 = k) := fun xs => by
  unfold kvOf
  rw [List.any_map]; rfl
theorem kvOf_put (xs : List NEnt) (k : NestedKey) (a : Addr) (v : V) : kvOf (putN xs k a v) = putK (kvOf xs) k v := by
  unfold putN putK
  rw [kvOf_any]
  split
  · unfold kvOf
    rw [List.map_map, List.map_map]
    refine List.map_congr_left fun x _ => ?_
    by_cases e : x.1 = k <;> simp [e]
  · simp [kvOf]
theorem NRel.put (r : NRel xs us) (k : NestedKey) (a : Addr) (ru : RelV v u) : NRel (putN xs k a v) (storedH us k a u) := by
  have e : (xs.any fun x => decide (x.1 = k)) = (atKey us k).isSome := by
    rw [← kvOf_any, valV_any, (r.val k).isSome_eq, Option.isSome_map]
  unfold putN storedH
  rw [e]
  split
  · rename_i hx
    clear e hx
    unfold NRel at r ⊢
    induction r with
    | nil => exact .nil
    | @cons p q ps qs h t ih =>
      rw [List.map_cons, List.map_cons]
      refine .cons ?_ ih
      obtain ⟨h1, h2, h3⟩ := h
      unfold putAt
      by_cases c : p.1 = k
      · rw [if_pos c, if_pos (h1.symm.trans c)]; exact ⟨h1, h2, ru⟩
      · rw [if_neg c, if_neg (fun z => c (h1.trans z))]; exact ⟨h1, h2, h3⟩
  · exact Paired.snoc r ⟨rfl, rfl, ru⟩
theorem NRel.drop (r : NRel xs us) (k : NestedKey) : NRel (xs.filter fun x => decide (x.1 ≠ k)) (withoutH us k) := by
  unfold NRel at r ⊢
  induction r with
  | nil => exact .nil
  | @cons p q ps qs h t ih =>
    obtain ⟨h1, h2, h3⟩ := h
    unfold withoutH at ih ⊢
    by_cases c : p.1 = k
    · have c' : q.1 = k := h1.symm.trans c
      rw [List.filter_cons, List.filter_cons, if_neg (by simp [c]), if_neg (by simp [c'])]
      exact ih
    · have c' : ¬ q.1 = k := fun z => c (h1.trans z)
      rw [List.filter_cons, List.filter_cons, if_pos (by simp [c]), if_pos (by simp [c'])]
      exact .cons ⟨h1, h2, h3⟩ ih
theorem kvOf_drop (xs : List NEnt) (k : NestedKey) : kvOf (xs.filter fun x => decide (x.1 ≠ k)) = dropK (kvOf xs) k := by
  unfold kvOf dropK
  rw [List.filter_map]; rfl
theorem putN_mem {x : NEnt} (h : x ∈ putN xs k a v) : (x.1 = k ∧ x.2.1 = a) ∨ ∃ y ∈ xs, y.1 = x.1 ∧ y.2.1 = x.2.1 := by
  unfold putN at h
  split at h
  · obtain ⟨y, hy, e⟩ := List.mem_map.mp h
    refine .inr ⟨y, hy, ?_⟩
    split at e <;> (subst e; exact ⟨rfl, rfl⟩)
  · rcases List.mem_append.mp h with h | h
    · exact .inr ⟨x, h, rfl, rfl⟩
    · rw [List.mem_singleton.mp h]; exact .inl ⟨rfl, rfl⟩
theorem NKeys.put (n : NKeys H xs) (hk : NK H k (.ref a)) (hd : k.depth ≤ 8) : NKeys H (putN xs k a v) := fun x hx => by
  rcases putN_mem hx with ⟨e1, e2⟩ | ⟨y, hy, e1, e2⟩
  · rw [e1, e2]; exact ⟨hk, hd⟩
  · rw [← e1, ← e2]; exact n y hy
theorem NKeys.drop (n : NKeys H xs) (p : NEnt → Bool) : NKeys H (xs.filter p) := fun x hx => n x (List.mem_filter.mp hx).1
theorem putN_len (xs : List NEnt) (k : NestedKey) (a : Addr) (v : V) : (putN xs k a v).length ≤ xs.length + 1 := by
  unfold putN
  split
  · rw [List.length_map]; omega
  · rw [List.length_append]; simp
/-- a key in the heap -/
theorem NK.key (ok : HOk P w H h) (hk : NK H k (.ref a)) (hd : k.depth ≤ 8) : (nestedKind P w).is h k a := ⟨NK.is ok k _ _ hk rfl, hd⟩
/-- the library's fact of the dict -/
theorem nd_of (ok : HOk P w H h) (e : Rd H d (NDO P w d xs)) (n : NKeys H xs) : xs.length ≤ sizeLine ∧ (d == sysModules) = false ∧ ∃ us, NRel xs us ∧ h.DictOfH (nestedKind P w) d us := by
  obtain ⟨⟨z, hd, us, r, o, es, ep, ho, hx, hdat, hes, hnd⟩, _, _⟩ := (show ObjOk P w H h d (NDO P w d xs) from e.ok ok)
  refine ⟨z, hd, us, r, o, es, ep, ho, hx, hdat, hes, fun x hx => ?_, hnd⟩
  have all : ∀ {l : List NEnt} {m : List (NestedKey × Addr × Value)}, NRel l m → NKeys H l → ∀ x ∈ m, (nestedKind P w).is h x.1 x.2.1 := by
    intro l m q
    unfold NRel at q
    induction q with
    | nil => intro _ x hx; cases hx
    | @cons p q ps qs hq t ih =>
      intro nk x hx
      rcases List.mem_cons.mp hx with e | hx
      · subst e
        have := nk p (by simp)
        rw [hq.1, hq.2.1] at this
        exact NK.key ok this.1 this.2
      · exact ih (fun y hy => nk y (by simp [hy])) x hx
  exact all r n x hx
theorem ND.nodup (ok : HOk P w H h) (x : NDr P w H d kvs) : (kvs.map (·.1)).Nodup := by
  obtain ⟨xs, e, rfl, n⟩ := x
  obtain ⟨_, _, us, r, o, es, ep, ho, hx, hdat, hes, _, hnd⟩ := nd_of ok e n
  have q : (kvOf xs).map (·.1) = xs.map (·.1) := by unfold kvOf; rw [List.map_map]; rfl
  rw [q, r.keys]; exact hnd
end

/-! ### the operations -/
section
variable {X : Cx} {pins : List (Addr × Obj)} {σ : L2.St} {H : Hp} {s : Shared} {d a : Addr} {kvs : List (NestedKey × V)} {k : NestedKey} {v x : V} {u r : Value} {A : Around} {E : Value → Shared → Prop}
theorem n_in {Q : Value → Shared → Prop} (hu : A.units + 9 < cLine) (I : Inv X pins σ H s) (g : NDr X.prog X.w H d kvs) (hk : NK H k (.ref a)) (hd : k.depth ≤ 8) (h : ∀ s', Inv X pins σ H s' → Q (.bool (valV kvs k).isSome) s') :
    wpAny (model X.prog X.w) A (compareOp .In (.ref a) (.ref d)) Q E s := by
  obtain ⟨xs, e, rfl, n⟩ := g
  obtain ⟨z, hs, us, rel, dd⟩ := nd_of I.hok e n
  refine wpAny_in_heap (knd := nestedKind X.prog X.w) (by show A.units + 1 + 8 < cLine; omega) (NK.key I.hok hk hd) hs dd ?_
  have q := (rel.val k).isSome_eq
  rw [Option.isSome_map] at q
  rw [← q]
  exact h _ (I.tok _)
theorem n_notIn {Q : Value → Shared → Prop} (hu : A.units + 9 < cLine) (I : Inv X pins σ H s) (g : NDr X.prog X.w H d kvs) (hk : NK H k (.ref a)) (hd : k.depth ≤ 8) (h : ∀ s', Inv X pins σ H s' → Q (.bool (!(valV kvs k).isSome)) s') :
    wpAny (model X.prog X.w) A (compareOp .NotIn (.ref a) (.ref d)) Q E s := by
  obtain ⟨xs, e, rfl, n⟩ := g
  obtain ⟨z, hs, us, rel, dd⟩ := nd_of I.hok e n
  refine wpAny_notIn_heap (knd := nestedKind X.prog X.w) (by show A.units + 1 + 8 < cLine; omega) (NK.key I.hok hk hd) hs dd ?_
  have q := (rel.val k).isSome_eq
  rw [Option.isSome_map] at q
  rw [← q]
  exact h _ (I.tok _)
theorem n_getItem {Q : Value → Shared → Prop} (hu : A.units + 9 < cLine) (I : Inv X pins σ H s) (g : NDr X.prog X.w H d kvs) (hk : NK H k (.ref a)) (hd : k.depth ≤ 8) (hv : valV kvs k = some v) (h : ∀ w' s', Inv X pins σ H s' → RelV v w' → Q w' s') :
    wpAny (model X.prog X.w) A (getItem (.ref d) (.ref a)) Q E s := by
  obtain ⟨xs, e, rfl, n⟩ := g
  obtain ⟨z, hs, us, rel, dd⟩ := nd_of I.hok e n
  obtain ⟨w', hw, rw'⟩ := RelO.some_of (v := v) (o := (atKey us k).map (·.2)) (by rw [← hv]; exact rel.val k)
  obtain ⟨p, hp, hp2⟩ := Option.map_eq_some_iff.mp hw
  refine wpAny_getItem_heap (knd := nestedKind X.prog X.w) (by show A.units + 1 + 8 < cLine; omega) (NK.key I.hok hk hd) dd hp ?_
  rw [hp2]
  exact h w' _ (I.tok _) rw'
theorem n_get2 {Q : Value → Shared → Prop} (hu : A.units + 9 < cLine) (I : Inv X pins σ H s) (g : NDr X.prog X.w H d kvs) (hk : NK H k (.ref a)) (hd : k.depth ≤ 8) (rx : RelV x r) (h : ∀ w' s', Inv X pins σ H s' → RelV ((valV kvs k).getD x) w' → Q w' s') :
    wpAny (model X.prog X.w) A (call (.builtin "dict.get") [.ref d, .ref a, r]) Q E s := by
  obtain ⟨xs, e, rfl, n⟩ := g
  obtain ⟨z, hs, us, rel, dd⟩ := nd_of I.hok e n
  refine getOr_keyed (knd := nestedKind X.prog X.w) (kvs := pairsH us) (by show A.units + 1 + 8 < cLine; omega) (NK.key I.hok hk hd) hs ⟨us, dd, rfl⟩ ?_
  refine h _ _ (I.tok _) ?_
  rw [valueAt_pairsH]
  exact RelO.getD (rel.val k) rx
/-- the dict's object is replaced -/
theorem n_write {P : Program} {w : World} {h' : Heap} {xs' : List NEnt} {us' : List (NestedKey × Addr × Value)} (hl : xs'.length ≤ sizeLine) (hs : (d == sysModules) = false) (rel : NRel xs' us') (dd : h'.DictOfH (nestedKind P w) d us') : NDF P w d xs' h' := by
  obtain ⟨o, es, ep, h1, h2, h3, h4, h5, h6⟩ := dd
  exact ⟨hl, hs, us', rel, o, es, ep, h1, h2, h3, h4, h6⟩
theorem n_step {h' : Heap} {t' : Nat} {xs' : List NEnt} {us' : List (NestedKey × Addr × Value)} (I : Inv X pins σ H s) (mu : Mut (H d)) (hl : xs'.length ≤ sizeLine) (hs : (d == sysModules) = false) (rel : NRel xs' us') (dd : h'.DictOfH (nestedKind X.prog X.w) d us') (sb : Heap.SameBut d s.heap h') :
    Inv X pins σ (upd H d (NDO X.prog X.w d xs')) { s with heap := h', toks := t' } := by
  have he : ∃ q, h'.get? d = some q := let ⟨q, _, _, hq, _⟩ := dd; ⟨q, hq⟩
  exact d_write I mu sb he (NDF.ok (n_write hl hs rel dd))
/-- behind a store -/
def NPut (X : Cx) (H : Hp) (d a : Addr) (k : NestedKey) (kvs : List (NestedKey × V)) (v : V) (H' : Hp) : Prop := ∃ xs, H d = some (NDO X.prog X.w d xs) ∧ kvOf xs = kvs ∧ NKeys H xs ∧ H' = upd H d (NDO X.prog X.w d (putN xs k a v))
theorem keepT_upd {H : Hp} {d : Addr} {o : HO} (h : ∀ xs, H d ≠ some (.tup xs)) : KeepT H (upd H d o) := fun b xs e => by
  rw [upd_ne (fun z => h xs (by rw [← z]; exact e))]; exact e
theorem NDO.noTup {P : Program} {w : World} {xs : List NEnt} (e : H d = some (NDO P w d xs)) : ∀ ys, H d ≠ some (.tup ys) := fun ys z => by rw [e] at z; cases z
theorem nd_put {P : Program} {w : World} {xs : List NEnt} (e : H d = some (NDO P w d xs)) (n : NKeys H xs) (hk : NK H k (.ref a)) (hd : k.depth ≤ 8) : ND P w (upd H d (NDO P w d (putN xs k a v))) d (putK (kvOf xs) k v) :=
  ⟨_, upd_same, kvOf_put xs k a v, (n.put hk hd).mono (keepT_upd (NDO.noTup e))⟩
theorem n_setItem {H' : Hp} {Q : Unit → Shared → Prop} (hu : A.units + 9 < cLine) (I : Inv X pins σ H s) (g : NPut X H d a k kvs v H') (hz : kvs.length < sizeLine) (hk : NK H k (.ref a)) (hd : k.depth ≤ 8) (rv : RelV v r)
    (h : ∀ s', Inv X pins σ H' s' → Q () s') : wpAny (model X.prog X.w) A (setItem (.ref d) (.ref a) r) Q E s := by
  obtain ⟨xs, e, rfl, n, rfl⟩ := g
  obtain ⟨z, hs, us, rel, dd⟩ := nd_of I.hok (.inl e) n
  refine wpAny_setItem_heap (knd := nestedKind X.prog X.w) (hsz := by rw [← rel.len]; exact z) (by show A.units + 1 + 8 < cLine; omega) (NK.key I.hok hk hd) dd fun h' dd' sb => h _ ?_
  have hl : xs.length < sizeLine := by simpa [kvOf] using hz
  refine n_step I (by rw [e]; exact True.intro) ?_ hs (rel.put k a rv) dd' sb
  have := putN_len xs k a v; omega
theorem n_setdefault {Q : Value → Shared → Prop} (hu : A.units + 9 < cLine) (I : Inv X pins σ H s) {xs : List NEnt} (e : H d = some (NDO X.prog X.w d xs)) (n : NKeys H xs) (hz : xs.length < sizeLine) (hk : NK H k (.ref a)) (hd : k.depth ≤ 8) (rx : RelV x r)
    (h1 : ∀ v u s', valV (kvOf xs) k = some v → Inv X pins σ H s' → RelV v u → Q u s') (h2 : valV (kvOf xs) k = none → ∀ s', Inv X pins σ (upd H d (NDO X.prog X.w d (putN xs k a x))) s' → Q r s') :
    wpAny (model X.prog X.w) A (call (.builtin "dict.setdefault") [.ref d, .ref a, r]) Q E s := by
  obtain ⟨z, hs, us, rel, dd⟩ := nd_of I.hok (.inl e) n
  refine call_setdefault_heap (knd := nestedKind X.prog X.w) (hsz := by rw [← rel.len]; exact z) (by show A.units + 1 + 8 < cLine; omega) (NK.key I.hok hk hd) hs dd (fun p hp => ?_) fun hn h' dd' sb => ?_
  · have q := rel.val k
    rw [hp] at q
    cases e : valV (kvOf xs) k with
    | none => rw [e] at q; exact False.elim q
    | some v => rw [e] at q; exact h1 v _ _ e (I.tok _) q
  · have q := rel.val k
    rw [hn] at q
    refine h2 (by cases e : valV (kvOf xs) k with | none => rfl | some v => rw [e] at q; exact False.elim q) _ ?_
    refine n_step I (by rw [e]; exact True.intro) ?_ hs (rel.put k a rx) dd' sb
    have := putN_len xs k a x; omega
theorem n_pop {Q : Value → Shared → Prop} (hu : A.units + 9 < cLine) (I : Inv X pins σ H s) {xs : List NEnt} (e : H d = some (NDO X.prog X.w d xs)) (n : NKeys H xs) (hk : NK H k (.ref a)) (hd : k.depth ≤ 8) (hv : valV (kvOf xs) k = some v)
    (h : ∀ u s', Inv X pins σ (upd H d (NDO X.prog X.w d (xs.filter fun y => decide (y.1 ≠ k)))) s' → RelV v u → Q u s') :
    wpAny (model X.prog X.w) A (call (.builtin "dict.pop") [.ref d, .ref a]) Q E s := by
  obtain ⟨z, hs, us, rel, dd⟩ := nd_of I.hok (.inl e) n
  obtain ⟨w', hw, rw'⟩ := RelO.some_of (v := v) (o := (atKey us k).map (·.2)) (by rw [← hv]; exact rel.val k)
  obtain ⟨p, hp, hp2⟩ := Option.map_eq_some_iff.mp hw
  refine call_pop_heap (knd := nestedKind X.prog X.w) (more := []) (hsz := by rw [← rel.len]; exact z) (.inl rfl) (F.args_dict_pop_2 _ _) (by show A.units + 1 + 8 < cLine; omega) (NK.key I.hok hk hd) hs dd hp fun h' dd' sb => ?_
  rw [hp2]
  refine h w' _ (n_step I (by rw [e]; exact True.intro) ?_ hs (rel.drop k) dd' sb) rw'
  have := List.length_filter_le (fun y : NEnt => decide (y.1 ≠ k)) xs; omega
theorem n_len {Q : Value → Shared → Prop} (I : Inv X pins σ H s) (g : NDr X.prog X.w H d kvs) (h : ∀ t s', Inv X pins σ H s' → Q (.int kvs.length t) s') : wpAny (model X.prog X.w) A (call (.builtin "len") [.ref d]) Q E s := by
  obtain ⟨xs, e, rfl, n⟩ := g
  obtain ⟨z, hs, us, rel, dd⟩ := nd_of I.hok e n
  have el : (kvOf xs).length = us.length := by unfold kvOf; rw [List.length_map]; exact rel.len
  refine PyProof.Rows.call_len_slot (n := us.length) dd.typeIs F.slot_dict_len (fun Q' hq => len_keyed (knd := nestedKind X.prog X.w) (kvs := pairsH us) hs ⟨us, dd, rfl⟩ (by rw [pairsH_length]; exact hq)) (by omega) (by rw [sizeLine_eq] at z; have := rel.len; omega) ?_
  rw [← el]
  exact h _ _ ((I.tok _).tok _)
end
end S1

/-! K2: rules for dicts with nested keys; enumerate of tuples, and to one name; calls by bundles -/
namespace S1
open PySem L2 PyProof.Rows

/-! ### bundles of facts of a def -/
/-- a def of the module that may be called -/
def Fn (P : Program) (w : World) (K : PySem.W.Frag) (mg : Str → Option Value) (base : Heap) (k : Nat) (x : Str) (ps : List Str) (sp : Sp) : Prop :=
  ∃ f fd, FnOk P w K mg base CX0 k f fd ps sp ∧ mg x = some (.ref f) ∧ PySem.W.keepIn K (.ref f) = true ∧ Binds K fd ps []
/-- a method of the class at C -/
def Me (P : Program) (w : World) (K : PySem.W.Frag) (mg : Str → Option Value) (base : Heap) (k : Nat) (C : Addr) (m : Str) (ps : List Str) (sp : Sp) : Prop :=
  ∃ f fd, FnOk P w K mg base CX0 k f fd ps sp ∧ Meth K C m f ∧ Binds K fd ps []
/-- a class that is made -/
def Mk1 (P : Program) (w : World) (K : PySem.W.Frag) (mg : Str → Option Value) (base : Heap) (k : Nat) (x : Str) (C : Addr) (ps : List Str) (sp : Sp) : Prop :=
  ∃ f fd, FnOk P w K mg base CX0 k f fd ps sp ∧ Mk K C f ∧ mg x = some (.ref C) ∧ Binds K fd ps []
section
variable {X : Cx} {k : Nat} {C : Addr} {ps : List Str} {sp : Sp} {x m : Str} {p pos apos : Pos} {e o : Expr} {es : List Expr} {ta : TE} {t : TA}
theorem pe_fn (G : Fn X.prog X.w X.K X.mg X.base k x ps sp) (hr : Room k X.A) (hg : Gl X x) (ha : PA X (e :: es) t) (hdb : (x == ("__debug__" : Str)) = false := by decide)
    (he : starEach (e :: es) X.env = (false, eval e X.env) :: starEach es X.env := by rfl) (hpl : (backTo pos (starEach es X.env)).any (·.1) = false := by rfl) :
    PE X (.Call (.Name x p) (e :: es) [] pos) (tCall sp [] E0 t) := by
  obtain ⟨f, fd, F, hm, hk, hb⟩ := G
  exact pe_call F hr hg hm hk hb .nil pass0 ha hdb he hpl
theorem pe_me {pl : Sem Bool} (G : Me X.prog X.w X.K X.mg X.base k C m ps sp) (c : Cls X.K C) (hr : Room k X.A) (he : PE X o ta) (ha : PA X (e :: es) t)
    (hst : starEach (e :: es) X.env = (false, eval e X.env) :: starEach es X.env := by rfl) (hpl : (backTo pos (starEach es X.env)).any (·.1) = false := by rfl)
    (ht : eval (.Call (.Attribute o m apos) (e :: es) [] pos) X.env = (do
      let ov ← eval o X.env
      standAt apos.atName
      let (f, first) ← holding [ov] (getMethod ov m pl)
      callWith pos f first (backTo pos (starEach (e :: es) X.env)) (backToKw pos (keywordEach [] X.env))) := by rfl) :
    PE X (.Call (.Attribute o m apos) (e :: es) [] pos) (tMeth C m sp [] E0 ta t) := by
  obtain ⟨f, fd, F, hm, hb⟩ := G
  exact pe_meth he c hm F hr hb .nil pass0 ha hst hpl ht
theorem pe_me0 {pl : Sem Bool} (G : Me X.prog X.w X.K X.mg X.base k C m ps sp) (c : Cls X.K C) (hr : Room k X.A) (he : PE X o ta)
    (ht : eval (.Call (.Attribute o m apos) [] [] pos) X.env = (do
      let ov ← eval o X.env
      standAt apos.atName
      let (f, first) ← holding [ov] (getMethod ov m pl)
      callWith pos f first (backTo pos (starEach [] X.env)) (backToKw pos (keywordEach [] X.env))) := by rfl) :
    PE X (.Call (.Attribute o m apos) [] [] pos) (tMeth C m sp [] E0 ta tNil) := by
  obtain ⟨f, fd, F, hm, hb⟩ := G
  exact pe_meth0 he c hm F hr hb .nil pass0 ht
theorem pe_mk1 (G : Mk1 X.prog X.w X.K X.mg X.base k x C ps sp) (hr : Room (k + 1) X.A) (hg : Gl X x) (ha : PA X (e :: es) t) (hdb : (x == ("__debug__" : Str)) = false := by decide)
    (he : starEach (e :: es) X.env = (false, eval e X.env) :: starEach es X.env := by rfl) (hpl : (backTo pos (starEach es X.env)).any (·.1) = false := by rfl) :
    PE X (.Call (.Name x p) (e :: es) [] pos) (tMake C sp [] E0 t) := by
  obtain ⟨f, fd, F, M, hm, hb⟩ := G
  exact pe_make M F hr hg hm hb .nil pass0 ha hdb he hpl
end
/-- a promise kept, as a bundle -/
theorem Fn.of {P : Program} {w : World} {K : PySem.W.Frag} {mg : Str → Option Value} {base : Heap} {k : Nat} {x : Str} {ps : List Str} {sp : Sp} {f : Addr} {fd : FuncData}
    (F : FnOk P w K mg base CX0 k f fd ps sp) (hm : mg x = some (.ref f)) (hk : PySem.W.keepIn K (.ref f) = true) (hb : Binds K fd ps []) : Fn P w K mg base k x ps sp := ⟨f, fd, F, hm, hk, hb⟩
theorem hu9 {A : Around} {k : Nat} (hr : Room k A) : A.units + 9 < cLine := by have := hr.un; omega
theorem hu65 {A : Around} {k : Nat} (hr : Room k A) : A.units + 65 < cLine := by have := hr.un; omega

/-! ### small facts of heaps -/
theorem same_upd {H : Hp} {p : Addr} (o : HO) (h : H p = none) : Same H (upd H p o) := fun b u q => by rw [upd_ne (ne_of_none q h)]; exact q
theorem keep_upd {H : Hp} {p : Addr} {o : HO} : Keep [p] H (upd H p o) := fun b u q n => by rw [upd_ne (fun z => n (by simp [z]))]; exact q
theorem ND.keepT {P : Program} {w : World} {H H' : Hp} {d : Addr} {kvs : List (NestedKey × V)} (x : ND P w H d kvs) (s : Keep [d] H H') : KeepT H H' := by
  obtain ⟨xs, h, _⟩ := x
  refine s.keepT fun b hb ys z => ?_
  rw [List.mem_singleton.mp hb, h] at z; cases z
theorem ND.at {P : Program} {w : World} {H : Hp} {d : Addr} {kvs : List (NestedKey × V)} (x : ND P w H d kvs) : ∃ f, H d = some (.ext f) := let ⟨xs, h, _⟩ := x; ⟨_, h⟩

/-! ### dicts with nested keys, as rules -/
section
variable {X : Cx}
def rNIn (P : Program) (w : World) (neg : Bool) : R2 := fun x y H Q => ∃ d kvs a k, x = .ref a ∧ y = .ref d ∧ NDr P w H d kvs ∧ NK H k (.ref a) ∧ k.depth ≤ 8 ∧ Q (.bl (if neg then !(valV kvs k).isSome else (valV kvs k).isSome)) H
theorem or_nin (hu : X.A.units + 9 < cLine) : OpR X (compareOp .In) (rNIn X.prog X.w false) := by
  intro pins s σ H x y v u Q I rx ry h
  obtain ⟨d, kvs, a, k, rfl, rfl, g, hk, hd, q⟩ := h
  cases rx
  cases ry
  exact n_in hu I g hk hd fun s' I' => ⟨.bl _, H, I', rfl, q⟩
theorem or_nnotin (hu : X.A.units + 9 < cLine) : OpR X (compareOp .NotIn) (rNIn X.prog X.w true) := by
  intro pins s σ H x y v u Q I rx ry h
  obtain ⟨d, kvs, a, k, rfl, rfl, g, hk, hd, q⟩ := h
  cases rx
  cases ry
  exact n_notIn hu I g hk hd fun s' I' => ⟨.bl _, H, I', rfl, q⟩
def rNIx (P : Program) (w : World) : R2 := fun x y H Q => ∃ d kvs a k v, x = .ref d ∧ y = .ref a ∧ NDr P w H d kvs ∧ NK H k (.ref a) ∧ k.depth ≤ 8 ∧ valV kvs k = some v ∧ Q v H
theorem nd_type {pins : List (Addr × Obj)} {σ : L2.St} {H : Hp} {s : Shared} {d : Addr} {kvs : List (NestedKey × V)} (I : Inv X pins σ H s) (g : NDr X.prog X.w H d kvs) : s.TypeIs (.ref d) "dict" ∧ ∃ ob, s.heap.get? d = some ob ∧ ob.dict = none := by
  obtain ⟨xs, e, _, n⟩ := g
  obtain ⟨_, _, us, _, dd⟩ := nd_of I.hok e n
  refine ⟨dd.typeIs, ?_⟩
  obtain ⟨o, _, _, h1, h2, _⟩ := dd
  exact ⟨o, h1, h2.2.1⟩
theorem pe_nget {a b : Expr} {ta tb : TE} {pos : Pos} (hu : X.A.units + 9 < cLine) (ha : PE X a ta) (hb : PE X b tb) (hs : NoSl b) : PE X (.Subscript a b pos) (tOp (rNIx X.prog X.w) ta tb) := by
  refine ⟨fun pins s σ H Q I h => ?_⟩
  refine subD_of PySem.F.slot_dict_getitem.lookup hs (thn (ha.run pins s σ H _ I h) fun u s1 ⟨x, H1, I1, rx, q1⟩ => thn (hb.run pins s1 σ H1 _ I1 q1) fun iv s2 ⟨y, H2, I2, ry, d, kvs, c, k, v, e1, e2, g, hk, hd, hv, q2⟩ => ?_)
  subst e1 e2
  cases rx
  cases ry
  exact ⟨(nd_type I2 g).1, n_getItem hu I2 g hk hd hv fun w' s3 I3 rw' => ⟨v, H2, I3, rw', q2⟩⟩
def rNSet (P : Program) (w : World) : V → V → V → Hp → (Hp → Prop) → Prop := fun o i v H Q => ∃ d a k kvs, o = .ref d ∧ i = .ref a ∧ ND P w H d kvs ∧ NK H k (.ref a) ∧ k.depth ≤ 8 ∧ kvs.length < sizeLine ∧
  ∀ H', Keep [d] H H' → ND P w H' d (putK kvs k v) → Q H'
theorem set_nd (hu : X.A.units + 9 < cLine) : PSet X (rNSet X.prog X.w) := by
  intro pins s σ H o i v ov iv u Q I r1 r2 r3 h
  obtain ⟨d, a, k, kvs, rfl, rfl, ⟨xs, e, rfl, n⟩, hk, hd, hz, q⟩ := h
  cases r1
  cases r2
  exact n_setItem (H' := upd H d (NDO X.prog X.w d (putN xs k a v))) hu I ⟨xs, e, rfl, n, rfl⟩ hz hk hd r3 fun s' I' => ⟨_, I', q _ keep_upd (nd_put e n hk hd)⟩
def tyN (P : Program) (w : World) (x : V) (H : Hp) : Prop := ∃ d kvs, x = .ref d ∧ NDr P w H d kvs
theorem ty_nd : TyOk X "dict" (tyN X.prog X.w) := by
  intro pins σ H s x v I r ty
  obtain ⟨d, kvs, rfl, g⟩ := ty
  cases r
  obtain ⟨h1, h2⟩ := nd_type I g
  exact ⟨h1, fun b e => by cases e; exact h2⟩
def rNGet2 (P : Program) (w : World) : V → List V → Hp → VK → Prop := fun x xs H Q => ∃ d a k kvs z, x = .ref d ∧ xs = [.ref a, z] ∧ NDr P w H d kvs ∧ NK H k (.ref a) ∧ k.depth ≤ 8 ∧ Q ((valV kvs k).getD z) H
theorem mt_nget2 (hu : X.A.units + 9 < cLine) : MtR X "dict.get" (rNGet2 X.prog X.w) := by
  intro pins s σ H x xs v us Q I rx rs h
  obtain ⟨d, a, k, kvs, z, rfl, rfl, g, hk, hd, q⟩ := h
  cases rx
  obtain ⟨u1, u2, rfl, ra, rz⟩ := vals2 rs
  cases ra
  exact n_get2 hu I g hk hd rz fun w' s' I' r => ⟨_, H, I', r, q⟩
def rNSetd (P : Program) (w : World) : V → List V → Hp → VK → Prop := fun x xs H Q => ∃ d a k kvs z, x = .ref d ∧ xs = [.ref a, z] ∧ ND P w H d kvs ∧ NK H k (.ref a) ∧ k.depth ≤ 8 ∧ kvs.length < sizeLine ∧
  (∀ v, valV kvs k = some v → Q v H) ∧ (valV kvs k = none → ∀ H', Keep [d] H H' → ND P w H' d (putK kvs k z) → Q z H')
theorem mt_nsetd (hu : X.A.units + 9 < cLine) : MtR X "dict.setdefault" (rNSetd X.prog X.w) := by
  intro pins s σ H x xs v us Q I rx rs h
  obtain ⟨d, a, k, kvs, z, rfl, rfl, ⟨ws, e, rfl, n⟩, hk, hd, hz, q1, q2⟩ := h
  cases rx
  obtain ⟨u1, u2, rfl, ra, rz⟩ := vals2 rs
  cases ra
  have hz' : ws.length < sizeLine := by simpa [kvOf] using hz
  refine n_setdefault hu I e n hz' hk hd rz (fun v u s' hv I' r => ⟨v, H, I', r, q1 v hv⟩) fun hn s' I' => ⟨z, _, I', rz, q2 hn _ keep_upd (nd_put e n hk hd)⟩
def rNPop (P : Program) (w : World) : V → List V → Hp → VK → Prop := fun x xs H Q => ∃ d a k kvs v, x = .ref d ∧ xs = [.ref a] ∧ ND P w H d kvs ∧ NK H k (.ref a) ∧ k.depth ≤ 8 ∧ valV kvs k = some v ∧
  ∀ H', Keep [d] H H' → ND P w H' d (dropK kvs k) → Q v H'
theorem mt_npop (hu : X.A.units + 9 < cLine) : MtR X "dict.pop" (rNPop X.prog X.w) := by
  intro pins s σ H x xs v us Q I rx rs h
  obtain ⟨d, a, k, kvs, z, rfl, rfl, ⟨ws, e, rfl, n⟩, hk, hd, hv, q⟩ := h
  cases rx
  obtain ⟨u1, rfl, ra⟩ := vals1 rs
  cases ra
  exact n_pop hu I e n hk hd hv fun u s' I' r => ⟨z, _, I', r, q _ keep_upd ⟨_, upd_same, kvOf_drop ws k, (n.drop _).mono (keepT_upd (NDO.noTup e))⟩⟩
theorem call_lenN : CallR X (.builtin "len") (fun xs H Q => ∃ d kvs, xs = [.ref d] ∧ NDr X.prog X.w H d kvs ∧ Q (.int kvs.length) H) := by
  intro pins s σ H xs us Q I r h
  obtain ⟨d, kvs, rfl, g, q⟩ := h
  obtain ⟨u, rfl, ru⟩ := vals1 r
  cases ru
  exact n_len I g fun t s' I' => ⟨.int kvs.length, H, I', ⟨t, rfl⟩, q⟩
theorem nd_new {P : Program} {w : World} {h : Heap} (hb : sysModules < h.objs.size) : NDF P w h.objs.size [] (h.push { cls := .type "dict", data := .dict #[] }) :=
  ⟨Nat.zero_le _, beq_eq_false_iff_ne.mpr (Ne.symm (Nat.ne_of_lt hb)), [], .nil, _, #[], 0, Heap.get?_push_size _ rfl, ⟨rfl, rfl, rfl⟩, rfl, rfl, List.nodup_nil⟩
def tDNewN (P : Program) (w : World) : TE := fun _ H Q => ∀ p H', H p = none → Same H H' → ND P w H' p [] → Q (.ref p) H'
theorem pe_dnewN {pos : Pos} : PE X (.Dict [] [] pos) (tDNewN X.prog X.w) := ⟨fun pins s σ H Q I h => by
  have hn : H s.heap.objs.size = none := I.hok.fresh (Nat.le_refl _)
  refine wpAny_Dict_empty ⟨.ref s.heap.objs.size, upd H s.heap.objs.size (NDO X.prog X.w s.heap.objs.size []), I.laid (t' := s.toks) (fun _ _ q => Heap.get?_push_of_some _ q) (Nat.le_refl _) (NDF.ok (nd_new I.big)), rfl, ?_⟩
  exact h _ _ hn (same_upd _ hn) ⟨[], upd_same, rfl, fun x hx => nomatch hx⟩⟩
end

/-! ### enumerate(tuple), to several names -/
set_option maxHeartbeats 4000000 in
theorem meets_enumB {v : Value} {o : Obj} {Hv : Heap → Prop} (B : Begins v o Hv) : Meets (Builtin.«enumerate.__new__» ⟨[.type "enumerate", v], []⟩) (fun _ R s => Hv s.heap ∧
    R (.ok (.ret (.ref (s.heap.push o).objs.size))) { s with heap := (s.heap.push o).push { cls := .type "enumerate", data := .fields #[.none, .bool false, .ref s.heap.objs.size, rawInt 0, .none, .none] } }) :=
  .of_wp fun prog w A R s h => by
    obtain ⟨hp, g, d, tk, os⟩ := s
    obtain ⟨h1, h⟩ := h
    have sub := sub_enumerate
    have walk : ∀ {A' : Around} {E : Value → Shared → Prop} {Q : Value → Shared → Prop}, Q (.ref hp.objs.size) ⟨hp.push o, g, d, tk, os⟩ → wpAny (model prog w) A' (pyIter v) Q E ⟨hp, g, d, tk, os⟩ :=
      fun q => B.iter prog w _ _ ⟨hp, g, d, tk, os⟩ _ h1 q
    wp_walk using walk
    refine wpAny_stack_any fun st => wpAny_pure ?_
    split
    · rename_i c _ _ _ _ _
      cases (c == Value.type "enumerate") <;> (wp_walk using walk; exact ⟨_, rfl, h⟩)
    · wp_walk using walk
      exact ⟨_, rfl, h⟩
theorem call_enumerate_tup {prog : Program} {w : World} {A : Around} {E : Value → Shared → Prop} {s : Shared} {l : Addr} {items : Array Value} {Q : Value → Shared → Prop} (hL : s.heap.IsTuple l items)
    (h : ∀ h', IsEnum h' (s.heap.objs.size + 1) s.heap.objs.size 0 .none → h'.IsTupleIter s.heap.objs.size l 0 → h'.objs.size = s.heap.objs.size + 2 →
      (∀ b o, s.heap.get? b = some o → h'.get? b = some o) → Q (.ref (s.heap.objs.size + 1)) { s with heap := h' }) :
    wpAny (model prog w) A (call (.type "enumerate") [.ref l]) Q E s := by
  refine callType_new F.called_enumerate (by decide) (F.typeCall_enumerate_1 _) (F.newCall_enumerate_1 _) (fun obj => F.args_object_init_2 obj _) F.entry_enumerate_new
    (meets_enumB (begins_tuple l items)) ⟨hL, ?_⟩
  have hz : (s.heap.push { cls := .type "tuple_iterator", data := .fields #[.ref l, .int 0 0] }).objs.size = s.heap.objs.size + 1 := Heap.size_push ..
  show _ ∧ _
  rw [hz]
  have he : IsEnum ((s.heap.push { cls := .type "tuple_iterator", data := .fields #[.ref l, .int 0 0] }).push
      { cls := .type "enumerate", data := .fields #[.none, .bool false, .ref s.heap.objs.size, rawInt 0, .none, .none] }) (s.heap.objs.size + 1) s.heap.objs.size 0 .none := by
    have q := Heap.get?_push_size (s.heap.push { cls := .type "tuple_iterator", data := .fields #[.ref l, .int 0 0] })
      (o := { cls := .type "enumerate", data := .fields #[.none, .bool false, .ref s.heap.objs.size, rawInt 0, .none, .none] }) rfl
    rw [hz] at q; exact q
  refine ⟨⟨_, he, rfl⟩, h _ he ⟨_, Heap.get?_push_of_some _ (Heap.get?_push_size _ rfl), rfl, rfl⟩ (by rw [Heap.size_push, hz]) fun b o x => Heap.get?_push_of_some _ (Heap.get?_push_of_some _ x)⟩
/-- the tuple at a, each item in a new pair -/
def Iet (K : PySem.W.Frag) (a : Addr) : It :=
  ⟨fun i H => ∃ (xs : List V) (x : V), SqT K H a xs ∧ xs[i]? = some x, fun i H v H' => ∃ T x, v = .ref T ∧ H T = none ∧ H' = upd H T (.tup [.int (i : Nat), x]) ∧ ∀ xs, SqT K H a xs → xs[i]? = some x, fun i H => ∃ xs : List V, SqT K H a xs ∧ xs.length = i⟩
theorem turn_enumT {P : Program} {w : World} {K : PySem.W.Frag} {elts : List Expr} {kk : Nat} {tpos : Pos} (a e it : Addr) :
    Turn P w K (.Tuple elts kk tpos) (Iet K a) [e, it] e (fun i h => (∃ old, IsEnum h e it ((i : Nat) : Int) old) ∧ h.IsTupleIter it a i ∧ e ≠ it ∧ a ≠ it ∧ a ≠ e) where
  mem := by simp
  obj := fun i h st b hb => by
    obtain ⟨⟨old, he⟩, ⟨o, ho, hc, hd⟩, _⟩ := st
    have e' : b = e ∨ b = it := by simpa using hb
    rcases e' with z | z
    · rw [z]; exact ⟨_, he, fun v q => nomatch q⟩
    · rw [z]; exact ⟨o, ho, fun v q => by rw [hd] at q; cases q⟩
  keep := fun i h h' st k => let ⟨⟨old, he⟩, hi, hne⟩ := st; ⟨⟨old, k e (by simp) _ he⟩, hi.at fun o q => k it (by simp) o q, hne⟩
  item := by
    intro X hP hw hK hc i pins s σ H E I hf st hg
    subst hP hw hK
    obtain ⟨⟨old, he⟩, hit, hne, nai, nae⟩ := st
    obtain ⟨xs, x, hq, hx⟩ := hg
    obtain ⟨its, rv, p, hz⟩ := I.tuple hq
    obtain ⟨u, hu, ru⟩ := rv.get hx
    have p' : s.heap.IsTuple a its.toArray := p
    have hil : i < its.toArray.size := by simpa using (List.getElem?_eq_some_iff.mp hu).1
    have hel : e < s.heap.objs.size := Heap.lt_size he
    have hitl : it < s.heap.objs.size := by obtain ⟨_, q, _⟩ := hit; exact Heap.lt_size q
    refine wpAny_pyNext_enum_itemD (Draws.tuple (A := X.A.in1) (I.ok.hd hc) it a nai its.toArray) he ⟨hit, p'⟩ hil hne (by simp [hne, Ne.symm nae]) fun x' h' tk hx' ho hst hT hsz hk => ?_
    have ex : x' = u := by
      have hx'' : its.toArray[i]? = some x' := hx'
      rw [show its.toArray[i]? = some u by simpa using hu] at hx''
      exact (Option.some.inj hx'').symm
    subst ex
    refine ⟨_, rfl, wpAny_letOwnedTupleGo_enum (s := { s with heap := h', toks := tk + 1 }) ho fun h'' he' sb => ?_⟩
    have hT2 : h''.get? s.heap.objs.size = some { cls := .type "tuple", data := .seq #[.int i tk, x'] } := (sb.2 _ (Nat.ne_of_gt hel)).trans hT
    have new : ObjOk X.prog X.w (upd H s.heap.objs.size (.tup [.int (i : Nat), x])) h'' s.heap.objs.size (.tup [.int (i : Nat), x]) :=
      ⟨by show 2 ≤ sizeLine; decide, [.int i tk, x'], .cons ⟨_, rfl⟩ (.cons ru .nil), ⟨_, hT2, rfl, _, rfl⟩⟩
    have I1 : Inv X pins σ (upd H s.heap.objs.size (.tup [.int (i : Nat), x])) { s with heap := h'', toks := tk + 1 } :=
      I.turnedNew (ch := [e, it]) (fun b ob hb q => (sb.2 b (fun z => hb (by simp [z]))).trans (hk b ob (fun z => hb (by simp [z])) (fun z => hb (by simp [z])) q)) hf (Nat.le_refl _) new
    refine ⟨.ref s.heap.objs.size, _, I1, rfl, ⟨_, x, rfl, I.hok.fresh (Nat.le_refl _), rfl, fun ys hy => by rw [I.tuple_inj hy hq]; exact hx⟩, ⟨⟨x', ?_⟩, hst.1.at fun o q => (sb.2 it (Ne.symm hne)).trans q, hne, nai, nae⟩, fun b hb => ?_⟩
    · have e1 : ((i + 1 : Nat) : Int) = (i : Int) + 1 := by omega
      rw [e1]; exact he'
    · have hb' : b < s.heap.objs.size := by
        have e' : b = e ∨ b = it := by simpa using hb
        rcases e' with z | z
        · rw [z]; exact hel
        · rw [z]; exact hitl
      rw [upd_ne (Nat.ne_of_lt hb')]
      exact (hf b hb).1
  done := by
    intro X hP hw hK hc i pins s σ H E I hf st hg
    subst hP hw hK
    obtain ⟨⟨old, he⟩, hit, hne, nai, nae⟩ := st
    obtain ⟨xs, hq, hx⟩ := hg
    obtain ⟨its, rv, p, hz⟩ := I.tuple hq
    have p' : s.heap.IsTuple a its.toArray := p
    obtain ⟨f0, f1, f2, f3, f4, f5⟩ := hf it (by simp)
    have hl := rv.length
    have hn : its.toArray.size = i := by simp; omega
    have hit' : s.heap.IsTupleIter it a its.toArray.size := by rw [hn]; exact hit
    exact wpAny_pyNext_enum_endD (Draws.tuple (A := X.A.in1) (I.ok.hd hc) it a nai its.toArray) he ⟨hit', p'⟩ fun h' eb => ⟨rfl, I.turned (t' := s.toks) (fun b o hb q => eb b o hb q) f0 f1 f3 f4 f5⟩
  self := fun A i s Q E st h => let ⟨⟨_, he⟩, _⟩ := st; wpAny_pyIter_enum he h
def iEnumT (K : PySem.W.Frag) (ta : TA) : TI := fun σ H R => ta σ H fun vs H1 => ∃ a xs, vs = [.ref a] ∧ SqT K H1 a xs ∧ R (Iet K a) H1
theorem pi_enumT {X : Cx} {e : Expr} {ta : TA} {p pos tpos : Pos} {elts : List Expr} {kk : Nat} (hg : Gl X "enumerate") (hm : X.mg "enumerate" = none) (ha : PA X [e] ta) (hs : starEach [e] X.env = [(false, eval e X.env)] := by rfl) :
    PI X (.Tuple elts kk tpos) (.Call (.Name "enumerate" p) [e] [] pos) (iEnumT X.K ta) := by
  refine ⟨fun pins s σ H R I h => ?_⟩
  refine Call_ (ld_blt I hg hm boot_enumerate (PyProof.Rows.callWith_type1 (thn (ha.run pos pins s σ H _ I h) fun us s1 ⟨vs, H1, I1, r1, q1⟩ => ?_) hs rfl))
  obtain ⟨a, xs, ex, hq, q⟩ := q1
  subst ex
  rw [Vals.ref1 r1]
  obtain ⟨its, rv, p', hz⟩ := I1.tuple hq
  have p2 : s1.heap.IsTuple a its.toArray := p'
  refine call_enumerate_tup p2 fun h' he hit hsz hk => wpAny_pyIter_enum he ?_
  have I2 : Inv X pins σ H1 { s1 with heap := h' } := I1.kept (t' := s1.toks) hk
  have hal : a < s1.heap.objs.size := let ⟨_, ho, _⟩ := p'; Heap.lt_size ho
  refine ⟨s1.heap.objs.size + 1, [s1.heap.objs.size + 1, s1.heap.objs.size], _, _, H1, rfl, I2, turn_enumT a (s1.heap.objs.size + 1) s1.heap.objs.size, ⟨⟨.none, he⟩, hit, Nat.succ_ne_self _, Nat.ne_of_lt hal, Nat.ne_of_lt (Nat.lt_succ_of_lt hal)⟩, fun b hb => ?_, q⟩
  have e' : b = s1.heap.objs.size + 1 ∨ b = s1.heap.objs.size := by simpa using hb
  have hle : s1.heap.objs.size ≤ b := by rcases e' with z | z <;> (rw [z]; first | exact Nat.le_add_right _ _ | exact Nat.le_refl _)
  exact I1.fpOk hle (I1.hok.fresh hle)
end S1

/-! K3: for p in enumerate(list): the pair is kept by its name -/
namespace S1
open PySem L2 PyProof.Rows

/-- for x in enumerate(xs) with one name; N: what a turn is to reach (the pair stands there still) -/
def tForE (K : PySem.W.Frag) (ta : TA) (g : TG) (tb : TS) : TS := fun D σ H => ta σ H fun vs H1 => ∃ a, vs = [.ref a] ∧ (∃ xs, SqL K H1 a xs) ∧ ∃ W : Nat → Nat → L2.St → Hp → Prop, (∃ m, W 0 m σ H1) ∧ ∀ i m σ H, W i m σ H →
  (∃ xs, SqL K H a xs ∧ xs.length ≤ i ∧ D.nx σ H) ∨ ∃ xs x, SqL K H a xs ∧ xs[i]? = some x ∧ ∃ N : L2.St → Hp → Prop, (∀ σ' H', N σ' H' → ∃ m', m' < m ∧ W (i + 1) m' σ' H') ∧
    ∀ T, H T = none → g (.ref T) σ (upd H T (.tup [.int (i : Nat), x])) fun σ2 H2 => tb { D with nx := fun σ' H' => N σ' H' ∧ KeepT (upd H T (.tup [.int (i : Nat), x])) H', ct := fun σ' H' => N σ' H' ∧ KeepT (upd H T (.tup [.int (i : Nat), x])) H', bk := D.nx } σ2 H2
section
variable {X : Cx}
/-- how the pair-maker stands ahead of turn i -/
def EnS (a e it : Addr) (i : Nat) (h : Heap) (H : Hp) : Prop := h.IsListIter it a i ∧ e ≠ it ∧ ((∃ old, IsEnum h e it ((i : Nat) : Int) old) ∨ ∃ T old f ys, IsEnumHeld h e it ((i : Nat) : Int) old T f ∧ H T = some (.tup ys))
theorem EnS.obj {a e it : Addr} {i : Nat} {h : Heap} {H : Hp} (S : EnS a e it i h H) : ∀ b ∈ [e, it], ∃ o, h.get? b = some o ∧ ∀ v, o.data ≠ .cell v := fun b hb => by
  obtain ⟨⟨o, ho, hc, hd⟩, _, hE⟩ := S
  have e' : b = e ∨ b = it := by simpa using hb
  rcases e' with z | z
  · rw [z]
    rcases hE with ⟨old, q⟩ | ⟨T, old, f, o', q, _⟩
    · exact ⟨_, q, fun v c => nomatch c⟩
    · exact ⟨_, q, fun v c => nomatch c⟩
  · rw [z]; exact ⟨o, ho, fun v c => by rw [hd] at c; cases c⟩
theorem ps_forE {x : Str} {p0 p pos pos' : Pos} {e : Expr} {body : List Stmt} {ta : TA} {g : TG} {tb : TS} (hp : PassesOwn (model X.prog X.w) X.A X.env X.xe) (hc : X.calm = true) (hg0 : Gl X "enumerate") (hm : X.mg "enumerate" = none) (ha : PA X [e] ta)
    (hg : PG X (.Name x p0) g) (hb : PSs X body tb) (hs : starEach [e] X.env = [(false, eval e X.env)] := by rfl) : PS X (.For (.Name x p0) (.Call (.Name "enumerate" p) [e] [] pos') body [] pos) (tForE X.K ta g tb) := by
  refine ⟨fun pins s σ H D I h => ?_⟩
  refine wpAny_For (Call_ (ld_blt I hg0 hm boot_enumerate (PyProof.Rows.callWith_type1 (thn (ha.run pos' pins s σ H _ I h) fun us s1 ⟨vs, H1, I1, r1, q1⟩ => ?_) hs rfl))) (by intro _; rfl)
  obtain ⟨a, ex, ⟨xs0, hq0⟩, W, ⟨m0, w0⟩, turn⟩ := q1
  subst ex
  rw [Vals.ref1 r1]
  obtain ⟨its0, rv0, p0', hz0⟩ := I1.list hq0
  refine call_enumerate_list p0'.isList fun h' he hit hsz hk => wpAny_pyIter_enum he ?_
  generalize hI : s1.heap.objs.size = it at he hit hsz
  have I2 : Inv X pins σ H1 { s1 with heap := h' } := I1.kept (t' := s1.toks) hk
  have f2 : ∀ b ∈ [it + 1, it], FpOk X pins H1 b := fun b hb => by
    have e' : b = it + 1 ∨ b = it := by simpa using hb
    have hle : s1.heap.objs.size ≤ b := by rw [hI]; rcases e' with z | z <;> (rw [z]; first | exact Nat.le_add_right _ _ | exact Nat.le_refl _)
    exact I1.fpOk hle (I1.hok.fresh hle)
  have stat : ∀ {H' : Hp}, (∀ b ∈ [it + 1, it], H' b = none) → ∀ b ∈ [it + 1, it], FpOk X pins H' b := fun hn b hb => ⟨hn b hb, (f2 b hb).2⟩
  refine codeAny_forLoop_any (fun n s' => ∃ i σ' H', Inv X pins σ' H' s' ∧ EnS a (it + 1) it i s'.heap H' ∧ (∀ b ∈ [it + 1, it], H' b = none) ∧ W i n σ' H') ?_ m0 ⟨0, σ, H1, I2, ⟨hit, Nat.succ_ne_self _, .inl ⟨_, he⟩⟩, fun b hb => (f2 b hb).1, w0⟩
  rintro n s3 ⟨i, σ3, H3, I3, st3, fr3, w3⟩
  obtain ⟨hit3, hne, hE⟩ := id st3
  rcases turn i n σ3 H3 w3 with ⟨xs, hq, hlen, qn⟩ | ⟨xs, y, hq, hy, N, hN, step⟩
  · obtain ⟨its, rv, pl, hz⟩ := I3.list hq
    have hl := rv.length
    have hend : its.toArray[i]? = none := by simp; omega
    obtain ⟨f0, f1, f3, f4, f5, f6⟩ := stat fr3 it (by simp)
    have fin : ∀ h', (∀ b o, b ≠ it → s3.heap.get? b = some o → h'.get? b = some o) → wpAny (model X.prog X.w) X.A (execs [] X.env) (fun f s' => SP X pins D f s') (notedBy (model X.prog X.w) X.A X.env fun e s' => cameBackBy (model X.prog X.w) X.A X.env X.xe e s') { s3 with heap := h' } := fun h' eb =>
      wpAny_execs_nil ⟨σ3, H3, I3.turned (t' := s3.toks) eb f0 f1 f4 f5 f6, qn⟩
    refine wpAny_passesOwn hp ?_
    rcases hE with ⟨old, hE⟩ | ⟨T, old, f, o, hE, hT⟩
    · exact wpAny_pyNext_enum_end (I3.ok.hd hc) hE hit3 pl.isList hend fun h' eb => fin h' fun b o hb q => eb b o hb q
    · exact wpAny_pyNext_enum_end_held (I3.ok.hd hc) hE hit3 pl.isList hend fun h' eb => fin h' fun b o hb q => eb b o hb q
  · obtain ⟨its, rv, pl, hz⟩ := I3.list hq
    obtain ⟨u, hu, ru⟩ := rv.get hy
    have hu' : its.toArray[i]? = some u := by simpa using hu
    have hT0 : H3 s3.heap.objs.size = none := I3.hok.fresh (Nat.le_refl _)
    have hel : it + 1 < s3.heap.objs.size := by obtain ⟨o, q, _⟩ := st3.obj (it + 1) (by simp); exact Heap.lt_size q
    have hil : it < s3.heap.objs.size := by omega
    have go : ∀ h' (f : Bool), IsEnumHeld h' (it + 1) it ((i : Int) + 1) u s3.heap.objs.size false ∨ (∃ T old ys, IsEnumHeld h' (it + 1) it ((i : Int) + 1) old T true ∧ H3 T = some (.tup ys)) → h'.IsListIter it a (i + 1) →
        h'.get? s3.heap.objs.size = some { cls := .type "tuple", data := .seq #[.int i s3.toks, u] } → (∀ b o, b ≠ it + 1 → b ≠ it → s3.heap.get? b = some o → h'.get? b = some o) →
        wpAny (model X.prog X.w) X.A (letOwnedTupleGo (.Name x p0) (.ref (it + 1)) (.ref s3.heap.objs.size)) (fun _ s₁' =>
          wpAny (model X.prog X.w) X.A (assign (.Name x p0) X.env (.ref s3.heap.objs.size)) (fun _ s₂ => wpAny (model X.prog X.w) X.A (execs body X.env) (fun f s₃ => match f with
            | .next | .cont => ∃ m, m < n ∧ ∃ i σ' H', Inv X pins σ' H' s₃ ∧ EnS a (it + 1) it i s₃.heap H' ∧ (∀ b ∈ [it + 1, it], H' b = none) ∧ W i m σ' H'
            | .brk => SP X pins D .next s₃
            | .ret v => SP X pins D (.ret v) s₃) X.xe s₂) X.xe s₁') X.xe { s3 with heap := h', toks := s3.toks + 1 } := by
      intro h' f hE' hit' hT hk'
      have new : ObjOk X.prog X.w (upd H3 s3.heap.objs.size (.tup [.int (i : Nat), y])) h' s3.heap.objs.size (.tup [.int (i : Nat), y]) :=
        ⟨by show 2 ≤ sizeLine; decide, [.int i s3.toks, u], .cons ⟨_, rfl⟩ (.cons ru .nil), ⟨_, hT, rfl, _, rfl⟩⟩
      have I5 : Inv X pins σ3 (upd H3 s3.heap.objs.size (.tup [.int (i : Nat), y])) { s3 with heap := h', toks := s3.toks + 1 } :=
        I3.turnedNew (ch := [it + 1, it]) (fun b ob hb q => hk' b ob (fun z => hb (by simp [z])) (fun z => hb (by simp [z])) q) (stat fr3) (Nat.le_refl _) new
      have fr5 : ∀ b ∈ [it + 1, it], upd H3 s3.heap.objs.size (.tup [.int (i : Nat), y]) b = none := fun b hb => by
        have e' : b = it + 1 ∨ b = it := by simpa using hb
        rw [upd_ne (by rcases e' with z | z <;> (rw [z]; first | exact Nat.ne_of_lt hel | exact Nat.ne_of_lt hil))]
        exact fr3 b hb
      have obj5 : ∀ b ∈ [it + 1, it], ∃ o, h'.get? b = some o ∧ ∀ v, o.data ≠ .cell v := fun b hb => by
        have e' : b = it + 1 ∨ b = it := by simpa using hb
        rcases e' with z | z
        · rw [z]
          rcases hE' with q | ⟨T, old, o, q, _⟩
          · exact ⟨_, q, fun v c => nomatch c⟩
          · exact ⟨_, q, fun v c => nomatch c⟩
        · rw [z]
          obtain ⟨o, ho, hcc, hd⟩ := hit'
          exact ⟨o, ho, fun v c => by rw [hd] at c; cases c⟩
      refine wpAny_pure ?_
      have I5' := I5.pinned (stat fr5) obj5
      refine thn (hg.run _ _ σ3 _ (.ref s3.heap.objs.size) _ _ I5' rfl (step _ hT0)) fun _ s6 ⟨σ6, H6, I6, q6⟩ => ?_
      refine thn (hb.run _ s6 σ6 H6 _ I6 q6) fun f s7 q7 => ?_
      have again : ∀ {σ7 : L2.St} {H7 : Hp}, Inv X (pins ++ pinsAt [it + 1, it] h') σ7 H7 s7 → N σ7 H7 → KeepT (upd H3 s3.heap.objs.size (.tup [.int (i : Nat), y])) H7 →
          ∃ m, m < n ∧ ∃ i σ' H', Inv X pins σ' H' s7 ∧ EnS a (it + 1) it i s7.heap H' ∧ (∀ b ∈ [it + 1, it], H' b = none) ∧ W i m σ' H' := fun {σ7 H7} I7 n7 t7 => by
        obtain ⟨m', hm, w7⟩ := hN σ7 H7 n7
        have pin : ∀ b ∈ [it + 1, it], ∀ o, h'.get? b = some o → s7.heap.get? b = some o ∧ H7 b = none := fun b hb o q => by
          have := I7.pin (b, o) (List.mem_append_right _ (List.mem_append_right _ (mem_pinsAt hb q)))
          exact ⟨this.1, this.2.1⟩
        have e1 : ((i + 1 : Nat) : Int) = (i : Int) + 1 := by omega
        refine ⟨m', hm, i + 1, σ7, H7, I7.unpinned, ⟨hit'.at fun o q => (pin it (by simp) o q).1, hne, ?_⟩, fun b hb => ?_, w7⟩
        · rw [e1]
          rcases hE' with q | ⟨T, old, o, q, hTo⟩
          · exact .inr ⟨_, _, _, _, (pin (it + 1) (by simp) _ q).1, t7 _ _ upd_same⟩
          · exact .inr ⟨_, _, _, _, (pin (it + 1) (by simp) _ q).1, t7 _ _ (by rw [upd_ne (ne_of_none hTo hT0)]; exact hTo)⟩
        · obtain ⟨o, q, _⟩ := obj5 b hb
          exact (pin b hb o q).2
      cases f with
      | next => obtain ⟨σ7, H7, I7, n7, t7⟩ := q7; exact again I7 n7 t7
      | cont => obtain ⟨σ7, H7, I7, n7, t7⟩ := q7; exact again I7 n7 t7
      | brk => obtain ⟨σ7, H7, I7, q7⟩ := q7; exact ⟨σ7, H7, I7.unpinned, q7⟩
      | ret v => obtain ⟨x7, σ7, H7, I7, r7, q7⟩ := q7; exact ⟨x7, σ7, H7, I7.unpinned, r7, q7⟩
    refine wpAny_passesOwn hp ?_
    have wrap : ∀ {s' : Shared} {v : Value}, wpAny (model X.prog X.w) X.A (letOwnedTupleGo (.Name x p0) (.ref (it + 1)) v) (fun _ s₁' =>
          wpAny (model X.prog X.w) X.A (assign (.Name x p0) X.env v) (fun _ s₂ => wpAny (model X.prog X.w) X.A (execs body X.env) (fun f s₃ => match f with
            | .next | .cont => ∃ m, m < n ∧ ∃ i σ' H', Inv X pins σ' H' s₃ ∧ EnS a (it + 1) it i s₃.heap H' ∧ (∀ b ∈ [it + 1, it], H' b = none) ∧ W i m σ' H'
            | .brk => SP X pins D .next s₃
            | .ret v => SP X pins D (.ret v) s₃) X.xe s₂) X.xe s₁') X.xe s' → _ := fun {s' v} q => wpAny_passesOwn hp (thn q fun _ s1 q1 => wpAny_passesOwn hp (thn q1 fun _ s2 q2 => wpAny_passesOwn hp q2))
    rcases hE with ⟨old, hE⟩ | ⟨T, old, f, ys, hE, hT⟩
    · exact wpAny_pyNext_enum_item hE hit3 pl.isList hu' hne fun h' ho hit' hT hsz hk => wrap (go h' false (.inl ho) hit' hT hk)
    · obtain ⟨_, its', rv', oT, hoT, _⟩ := (show ObjOk X.prog X.w H3 s3.heap T (.tup ys) from I3.hok T _ hT)
      have nTe : T ≠ it + 1 := fun z => by rw [z, fr3 (it + 1) (by simp)] at hT; cases hT
      have nTi : T ≠ it := fun z => by rw [z, fr3 it (by simp)] at hT; cases hT
      exact wpAny_pyNext_enum_item_held hE hoT nTe nTi hit3 pl.isList hu' hne fun h' ho hit' hT' hsz hk => wrap (go h' true (.inr ⟨T, old, ys, ho, hT⟩) hit' hT' hk)
end
end S1

/-! K4: generators asleep: a run in which they can't be woken leaves them as they are -/
namespace S1
open PySem L2 PyProof.Rows
open Sem (wp)

/-- a sleeper that can't be woken: it looks as before, and goes nowhere -/
def drug : GenState → GenState
  | .suspended _ l c p fs cl => .suspended (fun _ => .unsupported "") l c p fs cl
  | x => x
def isSus : GenState → Bool
  | .suspended .. => true
  | _ => false
theorem drug_seen (x : GenState) : (drug x).seen = x.seen := by cases x <;> rfl
theorem drug_bare (x : GenState) : (drug x).bare = x.bare := by cases x <;> rfl
theorem drug_not {x : GenState} (h : isSus x = false) : drug x = x := by cases x <;> first | rfl | cases h
/-- the sleepers of o are put back -/
def rouse (o : Array GenState) (s : Shared) : Shared :=
  { s with gens := s.gens.mapIdx fun i x => match o[i]? with | some y => if isSus y then y else x | none => x }
theorem rouse_size (o : Array GenState) (s : Shared) : (rouse o s).gens.size = s.gens.size := by simp [rouse]
theorem rouse_at (o : Array GenState) (s : Shared) (i : Nat) : (rouse o s).gens[i]? = (s.gens[i]?).map fun x => match o[i]? with | some y => if isSus y then y else x | none => x := by
  simp [rouse]
/-- all are drugged -/
def doze (s : Shared) : Shared := { s with gens := s.gens.map drug }
theorem rouse_doze (s : Shared) : rouse s.gens (doze s) = s := by
  have e : (rouse s.gens (doze s)).gens = s.gens := by
    apply Array.ext_getElem?
    intro i
    rw [rouse_at]
    show ((s.gens.map drug)[i]?).map _ = _
    rw [Array.getElem?_map]
    cases h : s.gens[i]? with
    | none => rfl
    | some x =>
      simp only [Option.map_some]
      cases hx : isSus x with
      | true => simp
      | false => simp [drug_not hx]
  show (⟨s.heap, _, s.drawn, s.toks, s.os⟩ : Shared) = s
  cases s
  simp only [rouse, doze] at e ⊢
  rw [e]
/-- the table t is o's, drugged, with new ones; none of the others sleeps within another one -/
structure Dz (o t : Array GenState) : Prop where
  size : o.size ≤ t.size
  at_ : ∀ (i : Nat) (y : GenState), o[i]? = some y → isSus y = true → t[i]? = some (drug y)
  fr : ∀ (i : Nat) k l c p fs cl, t[i]? = some (.suspended k l c p fs cl) → (∀ y, o[i]? = some y → isSus y = false) → splitAtGen fs = none
theorem Dz.doze (s : Shared) : Dz s.gens (doze s).gens where
  size := by simp [S1.doze]
  at_ := fun i y h _ => by simp [S1.doze, h]
  fr := fun i k l c p fs cl h hn => by
    simp only [S1.doze, Array.getElem?_map] at h
    cases e : s.gens[i]? with
    | none => rw [e] at h; cases h
    | some x =>
      rw [e] at h
      have h' : drug x = .suspended k l c p fs cl := Option.some.inj h
      have q := hn x e
      cases x <;> first | (cases q; done) | (cases h'; done)
theorem Dz.push {o t : Array GenState} (d : Dz o t) (c : Code) : Dz o (t.push (.fresh c)) where
  size := by rw [Array.size_push]; have := d.size; omega
  at_ := fun i y h hy => by
    have q := d.at_ i y h hy
    have ne : i ≠ t.size := Nat.ne_of_lt (Array.getElem?_eq_some_iff.mp q).1
    rw [Array.getElem?_push, if_neg ne]
    exact q
  fr := fun i k l c' p fs cl h hn => by
    rw [Array.getElem?_push] at h
    split at h
    · cases h
    · exact d.fr i k l c' p fs cl h hn
theorem Dz.set {o : Array GenState} {s : Shared} {g : Nat} {x : GenState} (d : Dz o s.gens) (hg : ∀ y, o[g]? = some y → isSus y = false) (hx : ∀ k l c p fs cl, x = .suspended k l c p fs cl → splitAtGen fs = none) : Dz o (s.setGen g x).gens where
  size := by rw [show (s.setGen g x).gens = s.gens.setIfInBounds g x from rfl, Array.size_setIfInBounds]; exact d.size
  at_ := fun i y h hy => by
    have ne : g ≠ i := fun z => by subst z; rw [hg y h] at hy; cases hy
    show (s.gens.setIfInBounds g x)[i]? = _
    rw [Array.getElem?_setIfInBounds_ne ne]
    exact d.at_ i y h hy
  fr := fun i k l c p fs cl h hn => by
    have h' : (s.gens.setIfInBounds g x)[i]? = some (.suspended k l c p fs cl) := h
    by_cases e : g = i
    · subst e
      rw [Array.getElem?_setIfInBounds] at h'
      split at h'
      · split at h'
        · exact hx k l c p fs cl (Option.some.inj h')
        · cases h'
      · exact d.fr _ k l c p fs cl h' hn
    · rw [Array.getElem?_setIfInBounds_ne e] at h'
      exact d.fr i k l c p fs cl h' hn
theorem rouse_set {o : Array GenState} {s : Shared} {g : Nat} {x : GenState} (hg : ∀ y, o[g]? = some y → isSus y = false) : rouse o (s.setGen g x) = (rouse o s).setGen g x := by
  have e : (rouse o (s.setGen g x)).gens = ((rouse o s).setGen g x).gens := by
    apply Array.ext_getElem?
    intro i
    rw [rouse_at]
    show ((s.gens.setIfInBounds g x)[i]?).map _ = ((rouse o s).gens.setIfInBounds g x)[i]?
    rw [Array.getElem?_setIfInBounds, Array.getElem?_setIfInBounds]
    by_cases e : g = i
    · subst e
      rw [if_pos rfl, if_pos rfl, rouse_size]
      by_cases hl : g < s.gens.size
      · rw [if_pos hl, Option.map_some]
        cases h : o[g]? with
        | none => rfl
        | some y => simp [hg y h]
      · rw [if_neg hl]; rfl
    · rw [if_neg e, if_neg e, rouse_at]
  unfold rouse Shared.setGen at e ⊢
  simp only [Shared.mk.injEq, true_and, and_true] at e ⊢
  exact e
theorem rouse_push (o : Array GenState) (s : Shared) (x : GenState) (h : o.size ≤ s.gens.size) : rouse o { s with gens := s.gens.push x } = { rouse o s with gens := (rouse o s).gens.push x } := by
  have e : (rouse o { s with gens := s.gens.push x }).gens = (rouse o s).gens.push x := by
    apply Array.ext_getElem?
    intro i
    rw [rouse_at, Array.getElem?_push, Array.getElem?_push, rouse_size]
    show ((if i = s.gens.size then some x else s.gens[i]?)).map _ = _
    by_cases e : i = s.gens.size
    · rw [if_pos e, if_pos e, e]
      rw [Array.getElem?_eq_none h]; rfl
    · rw [if_neg e, if_neg e, rouse_at]
  unfold rouse at e ⊢
  simp only [Shared.mk.injEq, true_and, and_true] at e ⊢
  exact e

theorem no_run {M : Model} {Γ : Ctx} {p : Pos} {t : Sem PySem.Fin} {fs : List Frame} {s s' : Shared} {e : End} (h : Runs M Γ p t fs s e s') : ∀ x, t ≠ .unsupported x := by
  induction h <;> first | (intro x z; cases z; done) | assumption
/-- how a run ends: one that is broken off bears no other generator's frame -/
def EndOk : End → Prop
  | .ret _ => True
  | .susp _ _ _ _ _ _ fs => splitAtGen fs = none
theorem EndOk.gen {e : End} (h : EndOk e) : ∀ k l c p fs cl, e.genState = .suspended k l c p fs cl → splitAtGen fs = none := by
  intro k l c p fs cl q
  cases e with
  | ret r => cases q
  | susp v g l' k' c' p' fs' => cases q; exact h
theorem split_app {a b : List Frame} (h1 : splitAtGen a = none) (h2 : splitAtGen b = none) : splitAtGen (a ++ b) = none := by
  induction a with
  | nil => exact h2
  | cons x r ih =>
    cases x with
    | ret k h g l c p kp =>
      have h1' : (splitAtGen r).map _ = none := h1
      show (splitAtGen (r ++ b)).map _ = none
      rw [ih (by cases q : splitAtGen r with | none => rfl | some v => rw [q] at h1'; cases h1')]
      rfl
    | gen g k l c p => cases h1
theorem Dz.sus {o : Array GenState} {s : Shared} {g : Nat} {x : GenState} (d : Dz o s.gens) (hx : s.gens[g]? = some x) (hn : isSus x = false) : ∀ y, o[g]? = some y → isSus y = false := fun y hy => by
  cases q : isSus y with
  | false => rfl
  | true =>
    rw [d.at_ g y hy q] at hx
    have e : drug y = x := Option.some.inj hx
    cases y <;> first | (cases q; done) | (rw [← e] at hn; cases hn)
theorem rouse_same {o : Array GenState} {s : Shared} {g : Nat} {x : GenState} (hx : s.gens[g]? = some x) (hn : ∀ y, o[g]? = some y → isSus y = false) : (rouse o s).gens[g]? = some x := by
  rw [rouse_at, hx]
  cases q : o[g]? with
  | none => rfl
  | some y => simp [hn y q]
theorem rouse_seen {o : Array GenState} {s : Shared} {g : Nat} {st : GenState} (d : Dz o s.gens) (hg : s.gens[g]? = some st) : ∃ st', (rouse o s).gens[g]? = some st' ∧ st'.seen = st.seen := by
  rw [rouse_at, hg]
  cases q : o[g]? with
  | none => exact ⟨st, rfl, rfl⟩
  | some y =>
    cases hy : isSus y with
    | false => exact ⟨st, by simp [hy], rfl⟩
    | true =>
      refine ⟨y, by simp [hy], ?_⟩
      have z := d.at_ g y q hy
      rw [hg] at z
      rw [Option.some.inj z, drug_seen]
theorem runs_lift {M : Model} {Γ : Ctx} {p : Pos} {t : Sem PySem.Fin} {fs : List Frame} {s s' : Shared} {e : End} {o : Array GenState} (h : Runs M Γ p t fs s e s') :
    Dz o s.gens → splitAtGen fs = none → Dz o s'.gens ∧ EndOk e ∧ Runs M Γ p t fs (rouse o s) e (rouse o s') := by
  induction h with
  | done => intro d _; exact ⟨d, trivial, .done⟩
  | raise => intro d _; exact ⟨d, trivial, .raise⟩
  | again hq _ ih => intro d f; obtain ⟨a, b, c⟩ := ih d f; exact ⟨a, b, .again hq c⟩
  | rule _ ih => intro d f; obtain ⟨a, b, c⟩ := ih d f; exact ⟨a, b, .rule c⟩
  | «at» _ ih => intro d f; obtain ⟨a, b, c⟩ := ih d f; exact ⟨a, b, .at c⟩
  | load ho _ ih => intro d f; obtain ⟨a, b, c⟩ := ih d f; exact ⟨a, b, .load ho c⟩
  | update ho _ ih => intro d f; obtain ⟨a, b, c⟩ := ih d f; exact ⟨a, b, .update ho c⟩
  | loadIfAlive _ ih => intro d f; obtain ⟨a, b, c⟩ := ih d f; exact ⟨a, b, .loadIfAlive c⟩
  | point _ ih => intro d f; obtain ⟨a, b, c⟩ := ih d f; exact ⟨a, b, .point c⟩
  | alloc _ ih => intro d f; obtain ⟨a, b, c⟩ := ih d f; exact ⟨a, b, .alloc c⟩
  | fresh _ ih => intro d f; obtain ⟨a, b, c⟩ := ih d f; exact ⟨a, b, .fresh c⟩
  | ask _ ih => intro d f; obtain ⟨a, b, c⟩ := ih d f; exact ⟨a, b, .ask c⟩
  | choose hn _ ih => intro d f; obtain ⟨a, b, c⟩ := ih d f; exact ⟨a, b, .choose hn c⟩
  | os _ ih => intro d f; obtain ⟨a, b, c⟩ := ih d f; exact ⟨a, b, .os c⟩
  | handled _ ih => intro d f; obtain ⟨a, b, c⟩ := ih d f; exact ⟨a, b, .handled c⟩
  | genState hg _ ih =>
    intro d f
    obtain ⟨a, b, c⟩ := ih d f
    obtain ⟨st', h1, h2⟩ := rouse_seen d hg
    exact ⟨a, b, .genState h1 (by rw [h2]; exact c)⟩
  | stack _ ih => intro d f; obtain ⟨a, b, c⟩ := ih d f; exact ⟨a, b, .stack c⟩
  | thread _ ih => intro d f; obtain ⟨a, b, c⟩ := ih d f; exact ⟨a, b, .thread c⟩
  | newGen _ ih =>
    intro d f
    obtain ⟨a, b, r⟩ := ih (d.push _) f
    refine ⟨a, b, .newGen ?_⟩
    rw [rouse_push _ _ _ d.size] at r
    rw [rouse_size]
    exact r
  | call _ _ ih1 ih2 =>
    intro d f
    obtain ⟨a, _, r⟩ := ih1 d rfl
    obtain ⟨a2, b2, r2⟩ := ih2 a rfl
    exact ⟨a2, b2, .call r r2⟩
  | callSusp _ ih =>
    intro d f
    obtain ⟨a, b, r⟩ := ih d rfl
    exact ⟨a, split_app b rfl, .callSusp r⟩
  | «yield» => intro d f; exact ⟨d, rfl, .yield⟩
  | resumeFresh hg _ hq _ ih1 ih2 =>
    intro d f
    have hn := d.sus hg rfl
    obtain ⟨a, b, r⟩ := ih1 (d.set hn (by intro _ _ _ _ _ _ z; cases z)) rfl
    obtain ⟨a2, b2, r2⟩ := ih2 (a.set hn b.gen) f
    rw [rouse_set hn] at r r2
    exact ⟨a2, b2, .resumeFresh (rouse_same hg hn) r hq r2⟩
  | @resumeSuspended Γ p g r l k s k₀ l₀ c₀ p₀ fs cl e₁ s₁ e s' hg h1 hq _ ih1 ih2 =>
    intro d f
    have hn : ∀ y, o[g]? = some y → isSus y = false := fun y hy => by
      cases q : isSus y with
      | false => rfl
      | true =>
        have z := d.at_ g y hy q
        rw [hg] at z
        have z' := Option.some.inj z
        cases y <;> first | (cases q; done) | (cases z'; exact absurd rfl (no_run h1 _))
    obtain ⟨a, b, r⟩ := ih1 (d.set hn (by intro _ _ _ _ _ _ z; cases z)) (d.fr g _ _ _ _ _ _ hg hn)
    obtain ⟨a2, b2, r2⟩ := ih2 (a.set hn b.gen) f
    rw [rouse_set hn] at r r2
    exact ⟨a2, b2, .resumeSuspended (rouse_same hg hn) r hq r2⟩
  | resumeJustStarted hg hv _ ih =>
    intro d f
    obtain ⟨a, b, c⟩ := ih d f
    exact ⟨a, b, .resumeJustStarted (rouse_same hg (d.sus hg rfl)) hv c⟩
  | resumeThrowFresh hg _ ih =>
    intro d f
    have hn := d.sus hg rfl
    obtain ⟨a, b, c⟩ := ih (d.set hn (by intro _ _ _ _ _ _ z; cases z)) f
    rw [rouse_set hn] at c
    exact ⟨a, b, .resumeThrowFresh (rouse_same hg hn) c⟩
  | resumeRunning hg _ ih => intro d f; obtain ⟨a, b, c⟩ := ih d f; exact ⟨a, b, .resumeRunning (rouse_same hg (d.sus hg rfl)) c⟩
  | resumeFinished hg _ ih => intro d f; obtain ⟨a, b, c⟩ := ih d f; exact ⟨a, b, .resumeFinished (rouse_same hg (d.sus hg rfl)) c⟩
  | @segRet Γ p t k h g l c₁ p₁ kp fs s r s₁ e s' _ _ ih1 ih2 =>
    intro d f
    have f' : splitAtGen fs = none := by
      have z : (splitAtGen fs).map _ = none := f
      cases q : splitAtGen fs with
      | none => rfl
      | some v => rw [q] at z; cases z
    obtain ⟨a, _, r⟩ := ih1 d rfl
    obtain ⟨a2, b2, r2⟩ := ih2 a f'
    exact ⟨a2, b2, .segRet r r2⟩
  | segGen _ _ _ _ => intro d f; cases f
  | segSuspOut hs _ ih =>
    intro d f
    obtain ⟨a, b, r⟩ := ih d rfl
    exact ⟨a, split_app b hs, .segSuspOut hs r⟩
  | segSuspGen hs _ _ _ _ _ => intro d f; rw [f] at hs; cases hs

theorem wakes_lift {M : Model} {Γ : Ctx} {p : Pos} {g : Nat} {r : Resume} {s s' : Shared} {res : GenResult} {o : Array GenState} (d : Dz o s.gens) (h : Wakes M Γ p g r s res s') :
    Dz o s'.gens ∧ Wakes M Γ p g r (rouse o s) res (rouse o s') := by
  unfold Wakes at h ⊢
  split at h
  · exact h.elim
  · rename_i c hg
    have hn := d.sus hg rfl
    rw [rouse_same hg hn]
    split at h
    · obtain ⟨e₁, s₁, hr, hq, rfl, rfl⟩ := h
      obtain ⟨a, b, r⟩ := runs_lift hr (d.set hn (by intro _ _ _ _ _ _ z; cases z)) rfl
      rw [rouse_set hn] at r
      exact ⟨a.set hn b.gen, e₁, _, r, hq, rfl, rouse_set hn⟩
    · obtain ⟨rfl, rfl⟩ := h
      exact ⟨d, rfl, rfl⟩
    · obtain ⟨rfl, rfl⟩ := h
      exact ⟨d.set hn (by intro _ _ _ _ _ _ z; cases z), rfl, rouse_set hn⟩
  · rename_i k₀ l₀ c₀ p₀ fs cl hg
    obtain ⟨e₁, s₁, hr, hq, rfl, rfl⟩ := h
    have hn : ∀ y, o[g]? = some y → isSus y = false := fun y hy => by
      cases q : isSus y with
      | false => rfl
      | true =>
        have z := d.at_ g y hy q
        rw [hg] at z
        have z' := Option.some.inj z
        cases y <;> first | (cases q; done) | (cases z'; exact absurd rfl (no_run hr _))
    obtain ⟨a, b, r⟩ := runs_lift hr (d.set hn (by intro _ _ _ _ _ _ z; cases z)) (d.fr g _ _ _ _ _ _ hg hn)
    rw [rouse_set hn] at r
    rw [rouse_same hg hn]
    exact ⟨a.set hn b.gen, e₁, _, r, hq, rfl, rouse_set hn⟩
  · rename_i hg
    rw [rouse_same hg (d.sus hg rfl)]
    obtain ⟨rfl, rfl⟩ := h
    exact ⟨d, rfl, rfl⟩
  · rename_i hg
    rw [rouse_same hg (d.sus hg rfl)]
    obtain ⟨rfl, rfl⟩ := h
    exact ⟨d, rfl, rfl⟩
/-- what a tree does while all sleepers are drugged, it does while they sleep; they sleep on -/
theorem wp_lift {α : Type} (M : Model) (Γ : Ctx) (o : Array GenState) (t : Sem α) : ∀ (Q : α → Pos → Shared → Prop) (E : Value → Pos → Shared → Prop) (p : Pos) (s : Shared), Dz o s.gens → wp M Γ t Q E p s →
    wp M Γ t (fun a p' s' => ∃ z, s' = rouse o z ∧ Dz o z.gens ∧ Q a p' z) (fun e p' s' => ∃ z, s' = rouse o z ∧ Dz o z.gens ∧ E e p' z) p (rouse o s) := by
  induction t with
  | pure a => intro Q E p s d h; exact ⟨s, rfl, d, h⟩
  | raise e => intro Q E p s d h; exact ⟨s, rfl, d, h⟩
  | unsupported _ => intro Q E p s _ h; exact h
  | finish _ => intro Q E p s _ h; exact h
  | rule _ k ih => intro Q E p s d h; exact ih () Q E p s d h
  | «at» p' k ih => intro Q E p s d h; exact ih () Q E p' s d h
  | load a _ k ih => intro Q E p s d h; obtain ⟨ob, ho, h⟩ := h; exact ⟨ob, ho, ih ob Q E p s d h⟩
  | update a _ f k ih => intro Q E p s d h; exact ⟨h.1, ih () Q E p { s with heap := s.heap.update a f } d h.2⟩
  | loadIfAlive a k ih => intro Q E p s d h; exact ih _ Q E p s d h
  | point _ k ih => intro Q E p s d h; exact ih () Q E p s d h
  | register _ _ => intro Q E p s _ h; exact h
  | alloc ob k ih => intro Q E p s d h; exact ih _ Q E p { s with heap := s.heap.push ob } d h
  | fresh k ih => intro Q E p s d h; exact ih _ Q E p { s with toks := s.toks + 1 } d h
  | ask k ih => intro Q E p s d h; exact ih _ Q E p s d h
  | choose src m k ih => intro Q E p s d h; exact ⟨h.1, ih _ Q E p { s with drawn := s.drawn.bump src } d h.2⟩
  | os q _ k ih => intro Q E p s d h; exact ih _ Q E p { s with os := (Os.step s.os q).1 } d h
  | call c hd _ _ k ih =>
    intro Q E p s d h
    obtain ⟨r, s', hr, h⟩ := h
    obtain ⟨d', _, hr'⟩ := runs_lift hr d rfl
    exact ⟨r, rouse o s', hr', ih r Q E p s' d' h⟩
  | handled own k ih => intro Q E p s d h; exact ih _ Q E p s d h
  | genState g k ih =>
    intro Q E p s d h
    obtain ⟨st, hg, h⟩ := h
    obtain ⟨st', h1, h2⟩ := rouse_seen d hg
    exact ⟨st', h1, by rw [h2]; exact ih _ Q E p s d h⟩
  | newGen c k ih =>
    intro Q E p s d h
    have q := ih _ Q E p { s with gens := s.gens.push (.fresh c) } (d.push c) h
    rw [rouse_push o s _ d.size] at q
    show wp M Γ (k (rouse o s).gens.size) _ _ p _
    rw [rouse_size]
    exact q
  | resume g r _ k ih =>
    intro Q E p s d h
    obtain ⟨res, s', hw, h⟩ := h
    obtain ⟨d', hw'⟩ := wakes_lift d hw
    exact ⟨res, rouse o s', hw', ih res Q E p s' d' h⟩
  | «yield» _ _ _ _ => intro Q E p s _ h; exact h
  | stack k ih => intro Q E p s d h; exact ih _ Q E p s d h
  | fork _ _ => intro Q E p s _ h; exact h
  | thread k ih => intro Q E p s d h; exact ih _ Q E p s d h
  | await _ _ _ _ _ => intro Q E p s _ h; exact h
theorem wpAny_asleep {α : Type} {M : Model} {A : Around} {s : Shared} {t : Sem α} {Q : α → Shared → Prop} {E : Value → Shared → Prop} (h : wpAny M A t Q E (doze s)) :
    wpAny M A t (fun a s' => ∃ z, s' = rouse s.gens z ∧ Dz s.gens z.gens ∧ Q a z) (fun e s' => ∃ z, s' = rouse s.gens z ∧ Dz s.gens z.gens ∧ E e z) s := fun Γ p hΓ => by
  have q := wp_lift M Γ s.gens t _ _ p (doze s) (Dz.doze s) (h Γ p hΓ)
  rw [rouse_doze] at q
  exact q
/-- behind such a run the sleepers stand as before -/
theorem rouse_kept {o : Array GenState} {z : Shared} (d : Dz o z.gens) {g : Nat} {y : GenState} (h : o[g]? = some y) (hy : isSus y = true) : (rouse o z).gens[g]? = some y := by
  rw [rouse_at, d.at_ g y h hy, Option.map_some, h]
  simp [hy]
theorem allBare_doze {s : Shared} (h : AllBare s.gens) : AllBare (doze s).gens := fun y hy => by
  obtain ⟨x, hx, rfl⟩ := Array.mem_map.mp (show y ∈ s.gens.map drug from hy)
  rw [drug_bare]; exact h x hx
theorem allBare_rouse {o : Array GenState} {z : Shared} (h : AllBare z.gens) (ho : AllBare o) : AllBare (rouse o z).gens := fun y hy => by
  obtain ⟨i, hi, e⟩ := Array.mem_iff_getElem.mp hy
  have q : (rouse o z).gens[i]? = some y := by rw [Array.getElem?_eq_getElem hi, e]
  rw [rouse_at] at q
  obtain ⟨x, hx, q⟩ := Option.map_eq_some_iff.mp q
  have hx' := h x (Array.mem_of_getElem? hx)
  cases c : o[i]? with
  | none => rw [c] at q; rw [← q]; exact hx'
  | some w =>
    rw [c] at q
    simp only at q
    split at q
    · rw [← q]; exact ho w (Array.mem_of_getElem? c)
    · rw [← q]; exact hx'
end S1

/-! K5: for x in g(..) where g is a generator def whose body is one for over a range that hands out one item a turn -/
namespace S1
open PySem PySem.Spec L2 PyProof.Rows GenW
open Sem (wp)

def cut (L : Addr) (s : Shared) : Shared := { s with heap := ⟨s.heap.objs.extract 0 L, s.heap.life⟩ }
theorem cut_size {L : Addr} {s : Shared} (h : L ≤ s.heap.objs.size) : (cut L s).heap.objs.size = L := by
  show (s.heap.objs.extract 0 L).size = L
  rw [Array.size_extract, Nat.sub_zero]
  exact Nat.min_eq_left h
theorem cut_get {L : Addr} {s : Shared} {b : Addr} (h : b < L) : (cut L s).heap.get? b = s.heap.get? b := by
  have e : (s.heap.objs.extract 0 L)[b]? = s.heap.objs[b]? := by
    rw [Array.getElem?_extract, Nat.sub_zero, Nat.zero_add]
    by_cases q : b < s.heap.objs.size
    · rw [if_pos (Nat.lt_min.mpr ⟨h, q⟩)]
    · rw [if_neg (fun z => q (Nat.lt_min.mp z).2), Array.getElem?_eq_none (Nat.le_of_not_lt q)]
  unfold Heap.get? cut
  simp only [e]
theorem cut_of {L : Addr} {s : Shared} {b : Addr} {o : Obj} (h : (cut L s).heap.get? b = some o) : b < L ∧ s.heap.get? b = some o := by
  have h1 := Heap.lt_size h
  have h2 : b < L := by
    have q : (cut L s).heap.objs.size ≤ L := by
      show (s.heap.objs.extract 0 L).size ≤ L
      rw [Array.size_extract]
      exact Nat.le_trans (Nat.sub_le _ _) (Nat.min_le_left _ _)
    exact Nat.lt_of_lt_of_le h1 q
  rw [cut_get h2] at h
  exact ⟨h2, h⟩
theorem cut_fun {base : Heap} {L : Addr} {s : Shared} : ∀ {l : List Env}, s.heap.FunFrames base l → (∀ b ∈ frs l, b < L) → (cut L s).heap.FunFrames base l
  | [], _, _ => trivial
  | env :: r, ⟨hk, ⟨a, o, hf, hn, ho, hd⟩, hr⟩, hb => by
    have e : frs (env :: r) = a :: frs r := by unfold frs; rw [List.filterMap_cons, hf]
    rw [e] at hb
    exact ⟨hk, ⟨a, o, hf, hn, (cut_get (hb a List.mem_cons_self)).trans ho, hd⟩, cut_fun hr fun b hm => hb b (List.mem_cons_of_mem _ hm)⟩

/-- all that the consumer holds lies below L -/
structure Lo (X : Cx) (pins : List (Addr × Obj)) (L : Addr) : Prop where
  s0 : X.s_0.heap.objs.size ≤ L
  loc : X.env.locals < L
  cell : ∀ x c, X.env.cells.lookup x = some c → c < L
  pin : ∀ p ∈ X.pn ++ pins, p.1 < L
  stk : ∀ b ∈ frs X.stack, b < L
  fs : ∀ b ∈ X.fs, b < L
theorem Lo.of {X : Cx} {pins : List (Addr × Obj)} {σ : L2.St} {H : Hp} {s : Shared} (I : Inv X pins σ H s) : Lo X pins s.heap.objs.size where
  s0 := I.sz
  loc := I.lt
  cell := fun x c e => let ⟨_, q⟩ := I.cell x c e; q.lt
  pin := fun p hp => Heap.lt_size (I.pin p hp).1
  stk := fun b hb => let ⟨_, o, ho, _⟩ := I.stack.mem hb; Heap.lt_size ho
  fs := fun b hb => let ⟨_, o, ho, _⟩ := I.funs.mem hb; Heap.lt_size ho
theorem Lo.fp {X : Cx} {pins : List (Addr × Obj)} {L : Addr} (l : Lo X pins L) {H : Hp} {b : Addr} (hb : L ≤ b) (hn : H b = none) : FpOk X pins H b := by
  have ne : ∀ c : Addr, c < L → c ≠ b := fun c h z => absurd (Nat.lt_of_lt_of_le (z ▸ h) hb) (Nat.lt_irrefl _)
  exact ⟨hn, (ne _ l.loc).symm, fun z => ne b (l.fs b z) rfl, .inr (Nat.le_trans l.s0 hb), fun x c e => ne c (l.cell x c e), fun p hp => ne p.1 (l.pin p hp)⟩

/-- the generator's context in one of its runs: begun at s, from H -/
def gcx (X : Cx) (N : List Str) (qual : Str) (scope : Scope) (f : Addr) (cd : Value) (L : Addr) (s : Shared) (H : Hp) : Cx where
  prog := X.prog
  w := X.w
  K := X.K
  mg := X.mg
  base := X.base
  A := X.A.in1.deeper (envOfC qual scope L f cd)
  N := N
  s_0 := cut L s
  H_0 := H
  env := envOfC qual scope L f cd
  outer := X.stack
  stack := envOfC qual scope L f cd :: X.stack
  ex := []
  fn := fun _ => true
  calm := true
  pn := []
  xe := fun _ _ => False
section
variable {X : Cx} {N : List Str} {qual : Str} {scope : Scope} {f : Addr} {cd : Value} {L : Addr}
/-- a generator's frame: all its names are local -/
structure GNames (N ps : List Str) (scope : Scope) : Prop where
  kind : scope.kind = .function
  co : scope.isCoroutine = false
  gen : scope.isGenerator = true
  nd : N.Nodup
  pre : N.take ps.length = ps
  loc : ∀ x k, scope.names.lookup x = some k → k ≠ .cell ∧ k ≠ .free
  all : ∀ x ∈ N, scope.names.lookup x = some .local
  cells : ∀ n, cellsFrom n scope.names [] = []
/-- what stands in the frame -/
def Fram (N : List Str) (L : Addr) (σ : L2.St) (h : Heap) : Prop := ∃ m, h.Ns L m ∧ ∀ (i : Nat) (x : Str) (v : V), N[i]? = some x → σ[i]? = some (some v) → ∃ u, RelV v u ∧ m x = some u
theorem Fram.at {N : List Str} {σ : L2.St} {h h' : Heap} (F : Fram N L σ h) (k : ∀ o, h.get? L = some o → h'.get? L = some o) : Fram N L σ h' := let ⟨m, a, b⟩ := F; ⟨m, a.at' k, b⟩
theorem to_gen {ps : List Str} {pins pg : List (Addr × Obj)} {σ σg : L2.St} {H : Hp} {s : Shared} (G : GNames N ps scope) (hc : X.calm = true) (l : Lo X pins L) (I : Inv X pins σ H s) (hL : L ≤ s.heap.objs.size) (hF : Fram N L σg s.heap) (hH : H L = none) (hlen : σg.length = N.length)
    (hp : ∀ p ∈ pg, s.heap.get? p.1 = some p.2 ∧ H p.1 = none ∧ L < p.1 ∧ ∀ v, p.2.data ≠ .cell v) : Inv (gcx X N qual scope f cd L s H) pg σg H s := by
  have hcl : ∀ (x : Str) (c : Addr), ¬ (envOfC qual scope L f cd).cells.lookup x = some c := fun x c e => by
    have e' : (cellsFrom (L + 1) scope.names []).lookup x = some c := e
    rw [G.cells] at e'; cases e'
  have bl : ∀ b o, X.base.get? b = some o → b < L := fun b o e => Nat.lt_of_lt_of_le (Heap.lt_size e) (Nat.le_trans I.ok.bsz l.s0)
  have noA : ∀ b : Addr, b ∉ (gcx X N qual scope f cd L s H).ex := fun b z => absurd (show b ∈ ([] : List Addr) from z) (by simp)
  refine ⟨⟨I.ok.mod, G.kind, rfl, rfl, Nat.le_of_eq (cut_size hL), fun x y c e _ => absurd e (hcl x c), fun x hx => ?_, fun x c _ e => absurd e (hcl x c), fun _ => I.ok.hd hc, Around.frames_deeper I.ok.frames, .inr ⟨rfl, rfl⟩, fun b z => absurd z (noA b),
    fun b o e => ⟨(cut_get (bl b o e)).trans (I.bk b o e), (I.bs b o e).2⟩, ?_, fun b o _ => noA b, fun b z => absurd z (noA b), cut_fun I.stack l.stk, I.stkFree⟩, rfl, I.bare, Un.kept fun b o e => (cut_of e).2, ?_, fun x c e => absurd e (hcl x c), hH, fun x c e => absurd e (hcl x c),
    fun p hpp => ?_, I.hok, hlen⟩
  · have hx : scope.names.lookup x = some .cell ∨ scope.names.lookup x = some .free := hx
    rcases hx with hx | hx <;> (have := G.loc x _ hx; simp at this)
  · show X.base.objs.size ≤ (cut L s).heap.objs.size
    rw [cut_size hL]
    exact Nat.le_trans I.ok.bsz l.s0
  · obtain ⟨m, hn, hv⟩ := hF
    refine ⟨m, hn, fun i x v e1 e2 _ => ?_⟩
    obtain ⟨u, r, q⟩ := hv i x v e1 e2
    exact ⟨u, r, .inl ⟨G.all x (List.mem_of_getElem? e1), q⟩⟩
  · obtain ⟨h1, h2, h3, h4⟩ := hp p hpp
    exact ⟨h1, h2, Nat.ne_of_gt h3, fun z => absurd (Nat.lt_trans (l.stk p.1 z) h3) (Nat.lt_irrefl _), h4⟩
theorem from_gen {pins pg : List (Addr × Obj)} {σ σg : L2.St} {H H' : Hp} {s s' : Shared} (l : Lo X pins L) (I : Inv X pins σ H s) (hL : L ≤ s.heap.objs.size) (J : Inv (gcx X N qual scope f cd L s H) pg σg H' s') : Inv X pins σ H' s' := by
  have lo : ∀ b o, s.heap.get? b = some o → b ∉ (List.range s.heap.objs.size).filter (fun b => decide (L ≤ b)) → (cut L s).heap.get? b = some o := fun b o e hb => by
    by_cases q : b < L
    · exact (cut_get q).trans e
    · exact absurd (List.mem_filter.mpr ⟨List.mem_range.mpr (Heap.lt_size e), by simpa using Nat.le_of_not_lt q⟩) hb
  refine I.call' (ch := (List.range s.heap.objs.size).filter fun b => decide (L ≤ b)) J.os ⟨fun b o e n hb hx => ?_, fun b o e n hb hx => ?_, fun b o e n hx => ?_, fun b o e hx => ?_, fun b xs e => J.base.tups b xs e, fun b o u e => J.base.frzs b o u e, fun b ps e => J.base.tbls b ps e⟩ J.hok J.bare fun b hb => ?_
  · exact J.base.keep b o (lo b o e hx) n hb (by intro z; cases z)
  · exact J.base.slot b o (lo b o e hx) n hb (by intro z; cases z)
  · exact J.base.free b o (lo b o e hx) n (by intro z; cases z)
  · exact J.base.there b o (lo b o e hx) (by intro z; cases z)
  · have hb' : L ≤ b := by simpa using (List.mem_filter.mp hb).2
    have q := l.fp (H := fun _ => none) hb' rfl
    exact ⟨q.2.2.2.1, Ne.symm (Ne.symm q.2.1), q.2.2.2.2.1, q.2.2.2.2.2⟩
end

/-! ### waking -/
def Kap (M : Model) (A : Around) (R : GenEnd) (Y : Protocol) : Nat → GenState → Resume → Shared → Prop
  | 0, _, _, _ => False
  | m + 1, gs, r, s => gs.Goes M A R Y m r s
section
variable {M : Model}
theorem wpAny_wake {A : Around} {R : GenEnd} {Y : Protocol} {n : Nat} {E : Value → Shared → Prop} {s : Shared} {g : Nat} {gs : GenState} {r : Resume} {lv : List Value} {α : Type} {k : GenResult → Sem α} {Q : α → Shared → Prop} (hg : s.gens[g]? = some gs)
    (hgo : gs.Goes M A R Y n r (s.setGen g .running)) (hR : ∀ x s1, R n (s.setGen g .running) x s1 → wpAny M A (k (End.ret x).result) Q E (s1.setGen g .finished))
    (hY : ∀ v s1 gs', gs'.bare = true → isSus gs' = true → Y (n - 1) (s.setGen g .running) v s1 (Kap M A R Y n gs') → wpAny M A (k (.yielded v)) Q E (s1.setGen g gs')) :
    wpAny M A (.resume g r lv k) Q E s := by
  intro Γ p hΓ
  rw [Sem.wp_resume]
  have main : ∀ c t fs p0, (∃ e1 s1, Runs M (Γ.wake c p) p0 t fs (s.setGen g .running) e1 s1 ∧ SegEnd R Y n (Seg.next M A R Y n) (s.setGen g .running) e1 s1) →
      ∃ e1 s1, Runs M (Γ.wake c p) p0 t fs (s.setGen g .running) e1 s1 ∧ e1.quiet = true ∧ wp M Γ (k e1.result) (fun a _ s' => Q a s') (fun e _ s' => E e s') p (s1.setGen g e1.genState) := by
    rintro c t fs p0 ⟨e1, s1, hr, he⟩
    cases e1 with
    | ret x => exact ⟨_, s1, hr, rfl, hR x s1 he Γ p hΓ⟩
    | susp v g0 l0 k0 c0 p1 fs0 =>
      refine ⟨_, s1, hr, he.1, hY v s1 _ (End.bare_of_quiet he.1) rfl ?_ Γ p hΓ⟩
      cases n with
      | zero => exact he.2
      | succ m => exact he.2
  cases gs with
  | fresh c =>
    obtain ⟨rfl, hs⟩ := hgo
    obtain ⟨e1, s1, hr, hq, hw⟩ := main c _ _ _ (seg_iff.mp hs (Γ.wake c p) p rfl (hΓ.wake c p))
    exact ⟨_, _, by unfold Wakes; rw [hg]; exact ⟨e1, s1, hr, hq, rfl, rfl⟩, hw⟩
  | suspended k0 l0 c0 p0 fs0 cl =>
    obtain ⟨e1, s1, hr, hq, hw⟩ := main c0 _ _ _ (seg_iff.mp hgo (Γ.wake c0 p) p0 rfl (hΓ.wake c0 p))
    exact ⟨_, _, by unfold Wakes; rw [hg]; exact ⟨e1, s1, hr, hq, rfl, rfl⟩, hw⟩
  | running => exact hgo.elim
  | finished => exact hgo.elim
end
section
variable {P : Program} {w : World} {A : Around} {E : Value → Shared → Prop} {s : Shared}
/-- next of a generator that raises nothing -/
theorem next_sus {a : Addr} {g n : Nat} {gs : GenState} {F : Nat → Shared → Prop} {Y : Protocol} {Q : Option Value → Shared → Prop} (hh : A.handled = none)
    (hl : s.heap.NoLimit) (hroom : A.depth < recursionLimit) (hg : s.heap.IsGen a g) (hgs : s.gens[g]? = some gs)
    (hgo : gs.Goes (model P w) A.in1 (fun n _ r s1 => r = .ok (.ret .none) ∧ F n s1) Y n (.send .none) (s.setGen g .running))
    (hY : ∀ v s1 gs', gs'.bare = true → isSus gs' = true → Y (n - 1) (s.setGen g .running) v s1 (Kap (model P w) A.in1 (fun n _ r s1 => r = .ok (.ret .none) ∧ F n s1) Y n gs') → Q (some v) (s1.setGen g gs'))
    (hP : ∀ s1, F n s1 → ∀ h', (∀ b o, s1.heap.get? b = some o → h'.get? b = some o) → Q none { s1.setGen g .finished with heap := h' }) :
    wpAny (model P w) A (pyNext (.ref a)) Q E s := by
  unfold pyNext
  refine wpAny_bind (wpAny_attempt (wpAny_callSpecial?_slot (name := Str.ofString "__next__") hg.typeIs slot_gen_next
    (wpAny_call_entry slot_gen_next hg.typeIs entry_gen_next ?_ (args_gen_next _))))
  show wpAny _ A.in1 (Builtin.Generator.genWake (.ref a) (.send .none)) _ _ s
  unfold Builtin.Generator.genWake
  refine wpAny_bind (wpAny_holding (wpAny_genNumber hg (wpAny_bind (wpAny_genState hgs ?_))))
  cases gs with
  | running => exact hgo.elim
  | finished => exact hgo.elim
  | _ =>
    refine wpAny_bind (wpAny_roomToWake hl hroom ?_)
    show wpAny _ A.in1 (.resume g (.send .none) [] _) _ _ s
    refine wpAny_wake hgs hgo (fun x s1 hx => ?_) (fun v s1 gs' hb hu hv => ?_)
    · obtain ⟨rfl, hp⟩ := hx
      show wpAny _ A.in1 (newExc (.type "StopIteration") [] >>= _) _ _ _
      refine wpAny_bind ?_
      simp only [newExc, newTuple]
      refine wpAny_bind (wpAny_newObj_type ?_ (by size_fits))
      refine wpAny_bind (m := firstArgMember _ _) (wpAny_of_eq (a := Value.none) (by first | rfl | (simp only [firstArgMember]; rfl)) ?_)
      refine wpAny_newObj_type ?_ (by size_fits)
      simp only [raiseNew]
      refine wpAny_bind (wpAny_bind (wpAny_handled ?_))
      first | rw [show A.in1.handled = none from hh] | rw [hh]
      refine wpAny_throw ?_
      refine wpAny_bind (wpAny_isInstance (T := "StopIteration") (b := true) ⟨_, Heap.get?_push_size _ rfl, rfl⟩ isSubtype_stop ?_)
      exact wpAny_pure (hP s1 hp _ fun b o hb => Heap.get?_push_of_some _ (Heap.get?_push_of_some _ hb))
    · exact wpAny_pure ⟨v, rfl, wpAny_pure (hY v s1 gs' hb hu hv)⟩
end

/-! ### the generator's run, turn by turn -/
/-- at turn j the consumer is well, and what the generator sleeps on stands as in h0 -/
def WaitOk (X : Cx) (pins : List (Addr × Obj)) (Pv : Nat → L2.St → Hp → Prop) (fp : List Addr) (h0 : Heap) (j : Nat) (s : Shared) : Prop :=
  ∃ σ H, Inv X pins σ H s ∧ Pv j σ H ∧ ∀ b ∈ fp, (∀ o, h0.get? b = some o → s.heap.get? b = some o) ∧ H b = none
def Yg (X : Cx) (pins : List (Addr × Obj)) (Pv : Nat → L2.St → Hp → Prop) (item : Nat → Hp → V → Hp → Prop) (nn : Nat) (L a : Addr) (oa : Obj) : Protocol := fun n _ v s1 kap =>
  ∃ i σ H x H' fp, n + i + 1 = nn ∧ Inv X pins σ H' s1 ∧ RelV x v ∧ item i H x H' ∧ Pv i σ H ∧ a ∈ fp ∧ s1.heap.get? a = some oa ∧ (∀ b ∈ fp, H' b = none ∧ L ≤ b ∧ ∃ o, s1.heap.get? b = some o ∧ ∀ v, o.data ≠ .cell v) ∧
    ∀ s2, WaitOk X pins Pv fp s1.heap (i + 1) s2 → kap (.send .none) s2
def Rg (X : Cx) (pins : List (Addr × Obj)) (Pv : Nat → L2.St → Hp → Prop) (nn : Nat) : GenEnd := fun n _ r s1 => r = .ok (.ret .none) ∧ (n = 0 ∧ ∃ σ H, Inv X pins σ H s1 ∧ Pv nn σ H)
section
variable {X : Cx} {N : List Str} {qual : Str} {scope : Scope} {f : Addr} {cd : Value} {L a it : Addr}
theorem seg_loopG {ps : List Str} {pins : List (Addr × Obj)} {Pv : Nat → L2.St → Hp → Prop} {item : Nat → Hp → V → Hp → Prop} {nn slot : Nat} {x : Str} {p0 yp ep : Pos} {e : Expr} {te : TE} {fp : List Addr} {tn : Nat → Heap → Prop} {vs : List V} {oa : Obj}
    {k : Result → Sem PySem.Fin} {c : Code} {p : Pos} {l kp : List Value}
    (G : GNames N ps scope) (hc : X.calm = true) (lo : Lo X pins L) (T : Turn X.prog X.w X.K (.Name x p0) (Itr 0 nn) fp it tn) (hfp : ∀ b ∈ fp, L < b ∧ b ≠ a) (ha : L < a) (hoa : ∀ v, oa.data ≠ .cell v)
    (hx : N[slot]? = some x) (hslot : vs.length ≤ slot) (hvs : vs.length ≤ N.length) (he : ∀ s H, PE (gcx X N qual scope f cd L s H) e te)
    (hte : ∀ i, i < nn → ∀ H, te ((L2.start N vs).set slot (some (.int i))) H (item i H)) (hov : X.A.in1.over c [] = X.A.in1.deeper (envOfC qual scope L f cd))
    (hk : ∀ s0 s, (∃ σ H, Inv X pins σ H s ∧ Pv nn σ H) → Seg (model X.prog X.w) X.A.in1 (Rg X pins Pv nn) (Yg X pins Pv item nn L a oa) 0 s0 c (k (.ok .next)) [] s) :
    ∀ (r i : Nat) (s0 s : Shared), r + i = nn → (∃ σ H, Inv X pins σ H s ∧ Pv i σ H ∧ L ≤ s.heap.objs.size ∧ Fram N L (L2.start N vs) s.heap ∧ s.heap.get? a = some oa ∧ tn i s.heap ∧ H L = none ∧ H a = none ∧ ∀ b ∈ fp, H b = none) →
      Seg (model X.prog X.w) X.A.in1 (Rg X pins Pv nn) (Yg X pins Pv item nn L a oa) r s0 (.forLoop (.Name x p0) (.ref it) [.Expr (.Yield (some e) yp) ep] [] (envOfC qual scope L f cd))
        ((model X.prog X.w).den (.forLoop (.Name x p0) (.ref it) [.Expr (.Yield (some e) yp) ep] [] (envOfC qual scope L f cd))) [.ret k none false l c p kp] s := by
  have hov2 : X.A.in1.over (.forLoop (.Name x p0) (.ref it) [.Expr (.Yield (some e) yp) ep] [] (envOfC qual scope L f cd)) [.ret k none false l c p kp] = X.A.in1.deeper (envOfC qual scope L f cd) := (over_loop rfl rfl).trans hov
  have hlen : (L2.start N vs).length = N.length := by
    unfold L2.start
    rw [List.length_append, List.length_map, List.length_replicate]; omega
  have hsl : slot < N.length := (List.getElem?_eq_some_iff.mp hx).1
  intro r
  induction r with
  | zero =>
    intro i s0 s hi ⟨σ, H, I, pv, hL, hF, hga, ht, n1, n2, n3⟩
    have hi' : i = nn := by omega
    subst hi'
    have J : Inv (gcx X N qual scope f cd L s H) [(a, oa)] (L2.start N vs) H s := to_gen G hc lo I hL hF n1 hlen fun q hq => by
      obtain rfl := List.mem_singleton.mp hq
      exact ⟨hga, n2, ha, hoa⟩
    show Seg _ _ _ _ _ s0 _ ((forTurn (.Name x p0) (.ref it) [.Expr (.Yield (some e) yp) ep] [] (envOfC qual scope L f cd)).onRaise (fun x => do noteFrame x (envOfC qual scope L f cd); theTreesLotGoes x)) _ s
    unfold forTurn
    rw [Sem.onRaise_eq_wrap]
    refine seg_bind_wrap (wpAny_standAt ?_)
    refine seg_bind_wrap (wpAny_onRaise ?_)
    rw [hov2]
    have fpo : ∀ b ∈ fp, FpOk (gcx X N qual scope f cd L s H) [(a, oa)] H b := fun b hb => by
      obtain ⟨q1, q2⟩ := hfp b hb
      refine ⟨n3 b hb, Nat.ne_of_gt q1, fun z => absurd (Nat.lt_trans (lo.stk b z) q1) (Nat.lt_irrefl _), .inr ?_, fun y d ed => ?_, fun q hq => ?_⟩
      · show (cut L s).heap.objs.size ≤ b
        rw [cut_size hL]; exact Nat.le_of_lt q1
      · have e' : (cellsFrom (L + 1) scope.names []).lookup y = some d := ed
        rw [G.cells] at e'; cases e'
      · obtain rfl := List.mem_singleton.mp (show q ∈ [(a, oa)] from hq)
        exact Ne.symm q2
    refine wpAny_mono (T.done (gcx X N qual scope f cd L s H) rfl rfl rfl rfl i _ s _ H (fun _ _ => False) J fpo ht (Nat.le_refl _)) (fun r s1 hr => ?_) fun _ _ z => z.elim
    obtain ⟨rfl, J1⟩ := hr
    refine seg_again rfl ?_
    refine seg_leaf (.ok .next) (hk _ _ ⟨σ, H, from_gen lo I hL J1, pv⟩)
  | succ r ih =>
    intro i s0 s hi ⟨σ, H, I, pv, hL, hF, hga, ht, n1, n2, n3⟩
    have J : Inv (gcx X N qual scope f cd L s H) [(a, oa)] (L2.start N vs) H s := to_gen G hc lo I hL hF n1 hlen fun q hq => by
      obtain rfl := List.mem_singleton.mp hq
      exact ⟨hga, n2, ha, hoa⟩
    have fpo : ∀ {H' : Hp}, (∀ b ∈ fp, H' b = none) → ∀ b ∈ fp, FpOk (gcx X N qual scope f cd L s H) [(a, oa)] H' b := fun {H'} n3 b hb => by
      obtain ⟨q1, q2⟩ := hfp b hb
      refine ⟨n3 b hb, Nat.ne_of_gt q1, fun z => absurd (Nat.lt_trans (lo.stk b z) q1) (Nat.lt_irrefl _), .inr ?_, fun y d ed => ?_, fun q hq => ?_⟩
      · show (cut L s).heap.objs.size ≤ b
        rw [cut_size hL]; exact Nat.le_of_lt q1
      · have e' : (cellsFrom (L + 1) scope.names []).lookup y = some d := ed
        rw [G.cells] at e'; cases e'
      · obtain rfl := List.mem_singleton.mp (show q ∈ [(a, oa)] from hq)
        exact Ne.symm q2
    show Seg _ _ _ _ _ s0 _ ((forTurn (.Name x p0) (.ref it) [.Expr (.Yield (some e) yp) ep] [] (envOfC qual scope L f cd)).onRaise (fun x => do noteFrame x (envOfC qual scope L f cd); theTreesLotGoes x)) _ s
    unfold forTurn
    rw [Sem.onRaise_eq_wrap]
    refine seg_bind_wrap (wpAny_standAt ?_)
    refine seg_bind_wrap (wpAny_onRaise ?_)
    rw [hov2]
    refine wpAny_mono (T.item (gcx X N qual scope f cd L s H) rfl rfl rfl rfl i _ s _ H (fun _ _ => False) J (fpo n3) ht (show i < nn by omega)) (fun r1 s1 hr => ?_) fun _ _ z => z.elim
    obtain ⟨u, rfl, hr⟩ := hr
    refine seg_bind_wrap ?_
    rw [hov2]
    refine wpAny_mono hr (fun _ s2 h2 => ?_) fun _ _ z => z.elim
    obtain ⟨x2, H2, J2, r2, ⟨rfl, rfl⟩, t2, n2'⟩ := h2
    refine seg_bind_wrap ?_
    rw [hov2]
    have J3 := J2.pinned (fpo n2') (T.obj _ _ t2)
    refine wpAny_mono ((pg_name (X := gcx X N qual scope f cd L s H2) (pos := p0) (i := slot) G.nd hx (.inl (G.all x (List.mem_of_getElem? hx)))).run _ s2 _ H2 _ u (fun σ' H' => σ' = (L2.start N vs).set slot (some (.int (0 + (i : Int)))) ∧ H' = H2) J3 r2 ⟨rfl, rfl⟩) (fun _ s3 h3 => ?_) fun _ _ z => z.elim
    obtain ⟨σ3, H3, J4, rfl, rfl⟩ := h3
    rw [Int.zero_add] at J4
    rw [Sem.bind_eq_wrap', Sem.wrap_wrap]
    refine seg_execs_cons ?_
    refine seg_Expr_Yield (n := r) rfl rfl rfl ?_ G.co (by unfold interactive; rw [show (envOfC qual scope L f cd).scope = scope from rfl, G.kind]; rfl)
    rw [hov2]
    refine wpAny_mono ((he s H3).run _ s3 _ H3 (item i H3) J4 (hte i (by omega) H3)) (fun v s4 h4 => ?_) fun _ _ z => z.elim
    obtain ⟨y, H4, J5, ry, hit⟩ := h4
    intro kap hkap
    have obj2 := T.obj _ _ t2
    have pin5 : ∀ b ∈ fp, ∀ o, s2.heap.get? b = some o → s4.heap.get? b = some o ∧ H4 b = none := fun b hb o q => by
      have := J5.pin (b, o) (List.mem_append_right _ (List.mem_append_right _ (mem_pinsAt hb q)))
      exact ⟨this.1, this.2.1⟩
    have pina := J5.pin (a, oa) (List.mem_append_right _ (List.mem_append_left _ (List.mem_singleton.mpr rfl)))
    have t4 : tn (i + 1) s4.heap := T.keep _ _ _ t2 fun b hb o q => (pin5 b hb o q).1
    have n4 : ∀ b ∈ fp, H4 b = none := fun b hb => by obtain ⟨o, q, _⟩ := obj2 b hb; exact (pin5 b hb o q).2
    obtain ⟨m4, hn4, hv4⟩ := id J5.loc
    have F4 : Fram N L (L2.start N vs) s4.heap := by
      refine ⟨m4, hn4, fun j z w e1 e2 => ?_⟩
      have hj : j ≠ slot := fun q => by
        subst q
        unfold L2.start at e2
        rw [List.getElem?_append_right (by simpa using hslot), List.getElem?_replicate] at e2
        split at e2 <;> cases e2
      obtain ⟨u', q1, q2⟩ := hv4 j z w e1 (by rw [List.getElem?_set_ne (Ne.symm hj)]; exact e2) (.inl (G.all z (List.mem_of_getElem? e1)))
      refine ⟨u', q1, ?_⟩
      rcases q2 with q2 | ⟨_, d, q3, _⟩
      · exact q2.2
      · have e' : (cellsFrom (L + 1) scope.names []).lookup z = some d := q3
        rw [G.cells] at e'; cases e'
    have IX : Inv X pins σ H4 s4 := from_gen lo I hL J5
    refine ⟨i, σ, H3, y, H4, L :: a :: fp, by omega, IX, ry, hit, pv, by simp, pina.1, fun b hb => ?_, fun s5 hw => ?_⟩
    · rcases List.mem_cons.mp hb with rfl | hb
      · obtain ⟨oL, es, ep, ho, hd, _⟩ := id hn4
        exact ⟨J5.free, Nat.le_refl _, oL, ho, fun v z => by rw [hd] at z; cases z⟩
      · rcases List.mem_cons.mp hb with rfl | hb
        · exact ⟨pina.2.1, Nat.le_of_lt ha, oa, pina.1, hoa⟩
        · obtain ⟨o, q, hq⟩ := obj2 b hb
          exact ⟨n4 b hb, Nat.le_of_lt (hfp b hb).1, o, (pin5 b hb o q).1, hq⟩
    · refine hkap .none s5 ?_
      obtain ⟨σ5, H5, I5, pv5, st5⟩ := hw
      refine seg_execs_nil ?_
      refine seg_again rfl (ih (i + 1) s5 s5 (by omega) ⟨σ5, H5, I5, pv5, ?_, F4.at (st5 L (by simp)).1, (st5 a (by simp)).1 _ pina.1, T.keep _ _ _ t4 fun b hb o q => (st5 b (by simp [hb])).1 o q, (st5 L (by simp)).2, (st5 a (by simp)).2, fun b hb => (st5 b (by simp [hb])).2⟩)
      obtain ⟨oL, es, ep, ho, hd, _⟩ := id hn4
      exact Nat.le_of_lt (Heap.lt_size ((st5 L (by simp)).1 _ ho))

theorem seg_startG {ps : List Str} {pins : List (Addr × Obj)} {Pv : Nat → L2.St → Hp → Prop} {item : Nat → Hp → V → Hp → Prop} {nn slot : Nat} {x : Str} {p0 yp ep fpos : Pos} {e iter : Expr} {te : TE} {wi : TI} {vs : List V} {oa : Obj} {σ : L2.St} {H : Hp} {s : Shared}
    (G : GNames N ps scope) (hc : X.calm = true) (lo : Lo X pins L) (ha : L < a) (hoa : ∀ v, oa.data ≠ .cell v)
    (hx : N[slot]? = some x) (hslot : vs.length ≤ slot) (hvs : vs.length ≤ N.length) (hi : ∀ s H, PI (gcx X N qual scope f cd L s H) (.Name x p0) iter wi) (he : ∀ s H, PE (gcx X N qual scope f cd L s H) e te)
    (hw : wi (L2.start N vs) H fun J H1 => J = Itr 0 nn ∧ Keep [] H H1) (hte : ∀ i, i < nn → ∀ H, te ((L2.start N vs).set slot (some (.int i))) H (item i H)) (hpv : ∀ H1, Keep [] H H1 → Pv 0 σ H1)
    (I : Inv X pins σ H s) (hF : Fram N L (L2.start N vs) s.heap) (hga : s.heap.get? a = some oa) (n1 : H L = none) (n2 : H a = none) (hal : a < s.heap.objs.size)
    (hs : ∀ y, foldedSetIterable iter (envOfC qual scope L f cd) y = pure y := by intro _; rfl) :
    Seg (model X.prog X.w) X.A.in1 (Rg X pins Pv nn) (Yg X pins Pv item nn L a oa) nn s (.func [.For (.Name x p0) iter [.Expr (.Yield (some e) yp) ep] [] fpos] (envOfC qual scope L f cd))
        ((model X.prog X.w).den (.func [.For (.Name x p0) iter [.Expr (.Yield (some e) yp) ep] [] fpos] (envOfC qual scope L f cd))) [] s := by
  have hL : L ≤ s.heap.objs.size := Nat.le_of_lt (Nat.lt_trans ha hal)
  have hlen : (L2.start N vs).length = N.length := by
    unfold L2.start
    rw [List.length_append, List.length_map, List.length_replicate]; omega
  have hov : X.A.in1.over (.func [.For (.Name x p0) iter [.Expr (.Yield (some e) yp) ep] [] fpos] (envOfC qual scope L f cd)) [] = X.A.in1.deeper (envOfC qual scope L f cd) := over_func
  have J : Inv (gcx X N qual scope f cd L s H) [(a, oa)] (L2.start N vs) H s := to_gen G hc lo I hL hF n1 hlen fun q hq => by
    obtain rfl := List.mem_singleton.mp hq
    exact ⟨hga, n2, ha, hoa⟩
  refine seg_func ?_
  refine seg_execs_cons ?_
  rw [exec_For]
  refine seg_bind_wrap (wpAny_standAt ?_)
  refine seg_bind_wrap ?_
  rw [hov]
  refine wpAny_mono ((hi s H).run _ s _ H _ J hw) (fun v s1 h1 => ?_) fun _ _ z => z.elim
  refine seg_bind_wrap (wpAny_of_eq (hs v) ?_)
  refine seg_bind_wrap (wpAny_standAt ?_)
  refine seg_bind_wrap (wpAny_holding ?_)
  rw [hov]
  refine wpAny_mono h1 (fun w s2 h2 => ?_) fun _ _ z => z.elim
  obtain ⟨it, fp, tn, J2, H2, rfl, JJ, T, t0, f0, rfl, kH⟩ := h2
  have pina := JJ.pin (a, oa) (List.mem_append_right _ (List.mem_singleton.mpr rfl))
  refine seg_call fun p => ?_
  refine seg_loopG (ps := ps) (fp := fp) (tn := tn) (oa := oa) G hc lo T (fun b hb => ?_) ha hoa hx hslot hvs he hte hov (fun s0 s hq => ?_) nn 0 s s2 (by omega) ⟨σ, H2, from_gen lo I hL JJ, hpv H2 kH, ?_, ?_, pina.1, t0, JJ.free, pina.2.1, fun b hb => (f0 b hb).1⟩
  · obtain ⟨_, q1, _, q2, _, q3⟩ := f0 b hb
    have q2' : (cut L s).heap.objs.size ≤ b := by
      rcases q2 with z | z
      · exact absurd (show b ∈ ([] : List Addr) from z) (by simp)
      · exact z
    rw [cut_size hL] at q2'
    exact ⟨Nat.lt_of_le_of_ne q2' (Ne.symm q1), Ne.symm (q3 (a, oa) (List.mem_append_right _ (List.mem_singleton.mpr rfl)))⟩
  · exact seg_end (.ok (.ret .none)) ⟨rfl, rfl, hq⟩
  · have := JJ.lt
    exact Nat.le_of_lt this
  · obtain ⟨m4, hn4, hv4⟩ := id JJ.loc
    refine ⟨m4, hn4, fun j z w e1 e2 => ?_⟩
    obtain ⟨u', q1, q2⟩ := hv4 j z w e1 e2 (.inl (G.all z (List.mem_of_getElem? e1)))
    refine ⟨u', q1, ?_⟩
    rcases q2 with q2 | ⟨_, d, q3, _⟩
    · exact q2.2
    · have e' : (cellsFrom (L + 1) scope.names []).lookup z = some d := q3
      rw [G.cells] at e'; cases e'
end

/-! ### the loop over it -/
/-- the context where nothing is raised -/
abbrev quietX (X : Cx) : Cx := { X with xe := fun _ _ => False }
section
variable {X : Cx}
theorem to_quiet {pins : List (Addr × Obj)} {σ : L2.St} {H : Hp} {s : Shared} (I : Inv X pins σ H s) : Inv (quietX X) pins σ H s :=
  ⟨⟨I.ok.mod, I.ok.kind, I.ok.glob, I.ok.blt, I.ok.above, I.ok.inj, I.ok.has, I.ok.cab, I.ok.hd, I.ok.frames, I.ok.stk, I.ok.exf, I.ok.bs, I.ok.bsz, I.ok.noex, I.ok.exfs, I.ok.funs, I.ok.frf⟩, I.os, I.bare, I.base, I.loc, I.cell, I.free, I.freeC, I.pin, I.hok, I.len⟩
theorem of_quiet {pins : List (Addr × Obj)} {σ : L2.St} {H : Hp} {s : Shared} (I : Inv (quietX X) pins σ H s) : Inv X pins σ H s :=
  ⟨⟨I.ok.mod, I.ok.kind, I.ok.glob, I.ok.blt, I.ok.above, I.ok.inj, I.ok.has, I.ok.cab, I.ok.hd, I.ok.frames, I.ok.stk, I.ok.exf, I.ok.bs, I.ok.bsz, I.ok.noex, I.ok.exfs, I.ok.funs, I.ok.frf⟩, I.os, I.bare, I.base, I.loc, I.cell, I.free, I.freeC, I.pin, I.hok, I.len⟩
theorem inv_gens {pins : List (Addr × Obj)} {σ : L2.St} {H : Hp} {s : Shared} {G : Array GenState} (I : Inv X pins σ H s) (h : AllBare G) : Inv X pins σ H { s with gens := G } :=
  I.call' (s' := { s with gens := G }) (ch := []) rfl Un.refl I.hok h fun b z => by simp at z
theorem inv_set {pins : List (Addr × Obj)} {σ : L2.St} {H : Hp} {s : Shared} {g : Nat} {y : GenState} (I : Inv X pins σ H s) (h : y.bare = true) : Inv X pins σ H (s.setGen g y) := inv_gens I (allBare_setGen I.bare h)
/-- for x in g(..): item: what a turn hands out; Pv: what is true ahead of turn i -/
def tForG (ps N : List Str) (slot : Nat) (wi : TI) (te : TE) (ta : TA) (g : TG) (tb : TS) : TS := fun D σ H => ta σ H fun vs H1 => vs.length = ps.length ∧ ∃ (nn : Nat) (Pv : Nat → L2.St → Hp → Prop) (item : Nat → Hp → V → Hp → Prop),
  wi (L2.start N vs) H1 (fun J H2 => J = Itr 0 nn ∧ Keep [] H1 H2) ∧ (∀ i, i < nn → ∀ H, te ((L2.start N vs).set slot (some (.int i))) H (item i H)) ∧ (∀ H2, Keep [] H1 H2 → Pv 0 σ H2) ∧
  (∀ i, i < nn → ∀ σ H, Pv i σ H → ∀ x H', item i H x H' → g x σ H' fun σ2 H2 => tb { D with nx := Pv (i + 1), ct := Pv (i + 1), bk := fun _ _ => False } σ2 H2) ∧ ∀ σ H, Pv nn σ H → D.nx σ H
theorem ps_forG {N ps : List Str} {gf : Addr} {gname name qual x y : Str} {params : Arguments} {scope : Scope} {dV kV doc pm cdv ct oc : Value} {an od : Option Addr} {osl : Array (Option Value)} {slot : Nat} {p p0 p1 yp ep fpos pos pos' : Pos} {e iter : Expr} {a1 : Expr} {as : List Expr}
    {body : List Stmt} {te : TE} {wi : TI} {ta : TA} {g : TG} {tb : TS}
    (lk : X.K.lookup gf = some ⟨oc, od, .func (PySem.W.fnOf name qual params [.For (.Name x p0) iter [.Expr (.Yield (some e) yp) ep] [] fpos] scope dV kV doc pm an cdv ct), osl⟩) (hcd : PySem.W.codeIn X.K cdv qual = true)
    (hb : Binds X.K (PySem.W.fnOf name qual params [.For (.Name x p0) iter [.Expr (.Yield (some e) yp) ep] [] fpos] scope dV kV doc pm an cdv ct) ps []) (hkeep : PySem.W.keepIn X.K (.ref gf) = true) (hgl : Gl X gname) (hmg : X.mg gname = some (.ref gf))
    (G : GNames N ps scope) (hx : N[slot]? = some x) (hslot : ps.length ≤ slot) (hc : X.calm = true) (hr : Room 2 X.A)
    (hi : ∀ L s H, PI (gcx X N qual scope gf cdv L s H) (.Name x p0) iter wi) (he : ∀ L s H, PE (gcx X N qual scope gf cdv L s H) e te)
    (ha : PA X (a1 :: as) ta) (hg : PG (quietX X) (.Name y p1) g) (hbd : PSs (quietX X) body tb) (hp : PassesOwn (model X.prog X.w) X.A X.env X.xe)
    (hs : ∀ L y, foldedSetIterable iter (envOfC qual scope L gf cdv) y = pure y := by intro _ _; rfl) (hdb : (gname == ("__debug__" : Str)) = false := by decide)
    (hst : starEach (a1 :: as) X.env = (false, eval a1 X.env) :: starEach as X.env := by rfl) (hpl : (backTo pos' (starEach as X.env)).any (·.1) = false := by rfl) :
    PS X (.For (.Name y p1) (.Call (.Name gname p) (a1 :: as) [] pos') body [] pos) (tForG ps N slot wi te ta g tb) := by
  refine ⟨fun pins s σ H D I h => ?_⟩
  refine wpAny_For ?_ (by intro _; rfl)
  refine wpAny_Call_Name_kw (ld_glob I hgl hmg ?_ hdb)
  refine PySem.W.callWith_K (h₀ := X.base) I.ok.mod.kin hkeep (thn (ha.run pos' pins s σ H _ I h) fun us s1 ⟨vs, H1, I1, r1, hvl, nn, Pv, item, hw, hte, hpv, hstep, hend⟩ => ⟨I1.kIn, ?_⟩) hst hpl
  have hul : (us ++ ([] : List Value)).length = ps.length := by rw [List.append_nil, ← r1.length]; exact hvl
  have hbd1 := hb s1 us I1.kIn hul
  rw [List.append_nil] at hbd1
  have hkind : ∀ y ∈ ps.zip us, scope.names.lookup y.1 = some .local ∨ (scope.names.lookup y.1 = some .cell ∧ ((cellsFrom (s1.heap.objs.size + 1) scope.names []).lookup y.1).isSome = true) := fun ⟨n, v⟩ hy => by
    refine .inl (G.all n ?_)
    have := (List.of_mem_zip hy).1
    rw [← G.pre] at this
    exact List.mem_of_mem_take this
  refine wpAny_call (codeAny_call_generator hr.depth (I1.kIn _ _ lk) rfl G.co G.gen rfl (PySem.W.codeRec_of I1.kIn hcd) (hbd1 _ _ _ _ ?_))
  refine wpAny_newFunctionEnv_cells G.kind hkind fun env he' s2 xx => ?_
  subst he'
  obtain ⟨h2, tk, es2, hk2⟩ := xx.done
  have I2 : Inv X pins σ H1 s2 := by rw [es2]; exact I1.kept hk2
  refine ⟨I2.nolimit, ?_⟩
  have main : ∀ (go : Obj) (nm qn : Value) (tk2 : Nat), go.cls = .type "generator" → go.data = .fields #[.int s2.gens.size 0, nm, qn] → go.slots = #[] → (∀ h : Heap, (h.push go).get? h.objs.size = some go) → ∀ s3 : Shared,
      s3 = { s2 with gens := s2.gens.push (.fresh (.func [.For (.Name x p0) iter [.Expr (.Yield (some e) yp) ep] [] fpos] (envOfC qual scope s1.heap.objs.size gf cdv))), toks := tk2, heap := s2.heap.push go } →
      wpAny (model X.prog X.w) X.A (pyIter (.ref s2.heap.objs.size)) (fun it s' => codeAny (model X.prog X.w) X.A (.forLoop (.Name y p1) it body [] X.env) (fun r s' => match r with | .ok f => SP X pins D f s' | .error e => cameBackBy (model X.prog X.w) X.A X.env X.xe e s') s') X.xe s3 := by
    intro go nm qn tk2 hgc hgd hgs hgp s3 e3
    have hgen : ∀ h : Heap, h.get? s2.heap.objs.size = some go → h.IsGen s2.heap.objs.size s2.gens.size := fun h e => ⟨go, nm, qn, e, hgc, hgd, hgs⟩
    have kp3 : ∀ b o, s2.heap.get? b = some o → s3.heap.get? b = some o := fun b o e => by rw [e3]; exact Heap.get?_push_of_some _ e
    have hga : s3.heap.get? s2.heap.objs.size = some go := by rw [e3]; exact hgp _
    have lo : Lo X pins s1.heap.objs.size := Lo.of I1
    have hLa : s1.heap.objs.size < s2.heap.objs.size := xx.toInCall.ns.lt
    have I3 : Inv X pins σ H1 s3 := by
      refine I2.call' (ch := []) (by rw [e3]) (Un.kept kp3) (I2.hok.kept kp3) ?_ fun b z => by simp at z
      rw [e3]
      exact AllBare.push I2.bare rfl
    have hgo : s3.gens[s2.gens.size]? = some (.fresh (.func [.For (.Name x p0) iter [.Expr (.Yield (some e) yp) ep] [] fpos] (envOfC qual scope s1.heap.objs.size gf cdv))) := by
      rw [e3]; exact Array.getElem?_push_size ..
    have hF : Fram N s1.heap.objs.size (L2.start N vs) s3.heap := by
      refine Fram.at (h := s2.heap) ?_ fun o e => kp3 _ o e
      refine ⟨_, xx.toInCall.ns, fun i z v h1 h2 => ?_⟩
      have hi : i < vs.length := by
        unfold L2.start at h2
        by_cases hi : i < vs.length
        · exact hi
        · rw [List.getElem?_append_right (by simpa using hi)] at h2
          rw [List.getElem?_replicate] at h2
          split at h2 <;> cases h2
      have hv : vs[i]? = some v := by
        unfold L2.start at h2
        rw [List.getElem?_append_left (by simpa using hi), List.getElem?_map] at h2
        cases q : vs[i]? with
        | none => rw [q] at h2; cases h2
        | some w => rw [q] at h2; cases h2; rfl
      obtain ⟨u, hu, rv⟩ := r1.get hv
      have hpz : ps[i]? = some z := by
        rw [← G.pre, List.getElem?_take_of_lt (by omega)]; exact h1
      have ndP : ps.Nodup := by rw [← G.pre]; exact G.nd.sublist (List.take_sublist _ _)
      exact ⟨u, rv, bindL_get ndP hpz hu (G.all z (List.mem_of_getElem? h1))⟩
    have hvN : vs.length ≤ N.length := by
      have := congrArg List.length G.pre; rw [List.length_take] at this; omega
    have hsz3 : s2.heap.objs.size < s3.heap.objs.size := Heap.lt_size hga
    have goes0 : Seg (model X.prog X.w) X.A.in1 (Rg X pins Pv nn) (Yg X pins Pv item nn s1.heap.objs.size s2.heap.objs.size go) nn (s3.setGen s2.gens.size .running) (.func [.For (.Name x p0) iter [.Expr (.Yield (some e) yp) ep] [] fpos] (envOfC qual scope s1.heap.objs.size gf cdv))
        ((model X.prog X.w).den (.func [.For (.Name x p0) iter [.Expr (.Yield (some e) yp) ep] [] fpos] (envOfC qual scope s1.heap.objs.size gf cdv))) [] (s3.setGen s2.gens.size .running) :=
      seg_startG (ps := ps) G hc lo hLa (fun v z => by rw [hgd] at z; cases z) hx (by omega) hvN (hi _) (he _) hw hte hpv (inv_set I3 rfl) hF hga (I1.hok.fresh (Nat.le_refl _)) (I2.hok.fresh (Nat.le_refl _)) hsz3 (hs _)
    refine wpAny_pyIter_gen (hgen _ hga) ?_
    refine codeAny_forLoop_any (fun n s' => ∃ j gs σ' H', n + j = nn ∧ s'.gens[s2.gens.size]? = some gs ∧ Inv X pins σ' H' s' ∧ s'.heap.get? s2.heap.objs.size = some go ∧
      gs.Goes (model X.prog X.w) X.A.in1 (Rg X pins Pv nn) (Yg X pins Pv item nn s1.heap.objs.size s2.heap.objs.size go) n (.send .none) (s'.setGen s2.gens.size .running)) ?_ nn ⟨0, _, σ, H1, rfl, hgo, I3, hga, rfl, goes0⟩
    rintro n s4 ⟨j, gs, σ4, H4, hn, hgs4, I4, hga4, goes4⟩
    have hdp : X.A.depth < recursionLimit := hr.depth
    have hgl4 : s2.gens.size + 1 ≤ s4.gens.size := (Array.getElem?_eq_some_iff.mp hgs4).1
    refine wpAny_gsz (n := s2.gens.size + 1) hgl4 (next_sus (F := fun n s1 => n = 0 ∧ ∃ σ H, Inv X pins σ H s1 ∧ Pv nn σ H) (I4.ok.hd hc) I4.nolimit hdp (hgen _ hga4) hgs4 goes4 (fun v s5 gs5 hb5 hu5 hv => ?_) fun s5 hq h' hk' => ?_)
    · intro hszz
      obtain ⟨i, σ5, H5, xv, H6, fp, hni, I5, rv, hit, pv, hafp, hga5, hfp, hkap⟩ := hv
      have hin : i < nn := by omega
      have I6 : Inv X pins σ5 H6 (s5.setGen s2.gens.size gs5) := inv_set I5 hb5
      refine go_of (s := s5.setGen s2.gens.size gs5) (n := "generator") hga5 hgc hgd (by decide) ?_
      have hfo : ∀ b ∈ fp, FpOk X pins H6 b := fun b hb => lo.fp (hfp b hb).2.1 (hfp b hb).1
      have I7 : Inv X (pins ++ pinsAt fp s5.heap) σ5 H6 (s5.setGen s2.gens.size gs5) := I6.pinned hfo fun b hb => (hfp b hb).2.2
      have hsz5 : s2.gens.size < s5.gens.size := by
        have q : (s5.setGen s2.gens.size gs5).gens.size = s5.gens.size := setGen_size _ _ _
        have hszz' : s2.gens.size + 1 ≤ (s5.setGen s2.gens.size gs5).gens.size := hszz
        omega
      have hgs6 : (s5.setGen s2.gens.size gs5).gens[s2.gens.size]? = some gs5 := setGen_at hsz5
      have J7 : Inv (quietX X) (pins ++ pinsAt fp s5.heap) σ5 H6 (doze (s5.setGen s2.gens.size gs5)) := to_quiet (inv_gens I7 (allBare_doze I7.bare))
      have A1 := hg.run _ _ σ5 H6 xv v _ J7 rv (hstep i hin σ5 H5 pv xv H6 hit)
      refine wpAny_mono (wpAny_asleep A1) (fun _ s7 h7 => ?_) fun _ _ z => by obtain ⟨_, _, _, q⟩ := z; exact q.elim
      obtain ⟨z7, rfl, d7, σ7, H7, K7, q7⟩ := h7
      have hgs7 : (rouse (s5.setGen s2.gens.size gs5).gens z7).gens[s2.gens.size]? = some gs5 := rouse_kept d7 hgs6 hu5
      have K7' : Inv (quietX X) (pins ++ pinsAt fp s5.heap) σ7 H7 (rouse (s5.setGen s2.gens.size gs5).gens z7) := inv_gens K7 (allBare_rouse K7.bare I7.bare)
      have K8 : Inv (quietX X) (pins ++ pinsAt fp s5.heap) σ7 H7 (doze (rouse (s5.setGen s2.gens.size gs5).gens z7)) := inv_gens K7' (allBare_doze K7'.bare)
      have A2 := hbd.run _ _ σ7 H7 _ K8 q7
      refine wpAny_mono (wpAny_asleep A2) (fun fl s8 h8 => ?_) fun _ _ z => by obtain ⟨_, _, _, q⟩ := z; exact q.elim
      obtain ⟨z8, rfl, d8, q8⟩ := h8
      have hgs8 : (rouse (rouse (s5.setGen s2.gens.size gs5).gens z7).gens z8).gens[s2.gens.size]? = some gs5 := rouse_kept d8 hgs7 hu5
      have fin : ∀ {σ9 : L2.St} {H9 : Hp}, Inv (quietX X) (pins ++ pinsAt fp s5.heap) σ9 H9 z8 → Pv (i + 1) σ9 H9 → ∃ m, m < n ∧ ∃ j gs σ' H', m + j = nn ∧ (rouse (rouse (s5.setGen s2.gens.size gs5).gens z7).gens z8).gens[s2.gens.size]? = some gs ∧ Inv X pins σ' H' (rouse (rouse (s5.setGen s2.gens.size gs5).gens z7).gens z8) ∧
          (rouse (rouse (s5.setGen s2.gens.size gs5).gens z7).gens z8).heap.get? s2.heap.objs.size = some go ∧
          gs.Goes (model X.prog X.w) X.A.in1 (Rg X pins Pv nn) (Yg X pins Pv item nn s1.heap.objs.size s2.heap.objs.size go) m (.send .none) ((rouse (rouse (s5.setGen s2.gens.size gs5).gens z7).gens z8).setGen s2.gens.size .running) := fun {σ9 H9} K9 pv9 => by
        have K9' : Inv X (pins ++ pinsAt fp s5.heap) σ9 H9 (rouse (rouse (s5.setGen s2.gens.size gs5).gens z7).gens z8) := of_quiet (inv_gens K9 (allBare_rouse K9.bare K7'.bare))
        have st9 : ∀ b ∈ fp, ∀ o, s5.heap.get? b = some o → (rouse (rouse (s5.setGen s2.gens.size gs5).gens z7).gens z8).heap.get? b = some o ∧ H9 b = none := fun b hb o q => by
          have := K9'.pin (b, o) (List.mem_append_right _ (List.mem_append_right _ (mem_pinsAt hb q)))
          exact ⟨this.1, this.2.1⟩
        have kk := hkap ((rouse (rouse (s5.setGen s2.gens.size gs5).gens z7).gens z8).setGen s2.gens.size .running) ⟨σ9, H9, inv_set K9'.unpinned rfl, pv9, fun b hb => ⟨fun o q => (st9 b hb o q).1, by obtain ⟨o, q, _⟩ := (hfp b hb).2.2; exact (st9 b hb o q).2⟩⟩
        cases n with
        | zero => exact False.elim kk
        | succ m => exact ⟨m, Nat.lt_succ_self m, i + 1, gs5, σ9, H9, by omega, hgs8, K9'.unpinned, (st9 _ hafp _ hga5).1, kk⟩
      cases fl with
      | next => obtain ⟨σ9, H9, K9, pv9⟩ := q8; exact fin K9 pv9
      | cont => obtain ⟨σ9, H9, K9, pv9⟩ := q8; exact fin K9 pv9
      | brk => obtain ⟨_, _, _, q⟩ := q8; exact q.elim
      | ret u =>
        obtain ⟨v9, σ9, H9, K9, r9, q9⟩ := q8
        exact ⟨v9, σ9, H9, (of_quiet (inv_gens K9 (allBare_rouse K9.bare K7'.bare))).unpinned, r9, q9⟩
    · intro _
      obtain ⟨_, σ6, H6, I6, pv6⟩ := hq
      have I7 : Inv X pins σ6 H6 { s5.setGen s2.gens.size .finished with heap := h' } := (inv_set (y := .finished) (g := s2.gens.size) I6 rfl).call' (ch := []) rfl (Un.kept hk') (I6.hok.kept hk') (allBare_setGen I6.bare rfl) fun b z => by simp at z
      exact wpAny_execs_nil ⟨σ6, H6, I7, hend σ6 H6 pv6⟩
  exact main _ _ _ _ rfl rfl rfl (fun h => Heap.get?_push_size _ rfl) _ rfl
end
end S1

/-! K6: dicts with nested keys, walked, copied, made of pairs -/
namespace S1
open PySem PySem.Spec L2 PyProof.Rows

def cellsU : List NestedKey := [.none, .tup [.num 0], .tup [.num 1], .tup [.num 2]]
def viewsU : List NestedKey := [.tup [.num 0], .tup [.num 1], .tup [.num 2]] ++ (cellsU.flatMap fun a => cellsU.flatMap fun b => cellsU.map fun c => .tup [a, b, c])
def keysU : List NestedKey := [(0 : Int), 1, 2].flatMap fun m => viewsU.map fun v => .tup [.num m, v]
theorem keysU_apart (w : World) : (keysU.map (NestedKey.hash w)).Nodup := by
  have e : (decide (keysU.map (NestedKey.hash w)).Nodup) = true := by kernel_rfl
  exact of_decide_eq_true e
theorem inj_of_nodup {α β : Type} {f : α → β} : ∀ {l : List α}, (l.map f).Nodup → ∀ x ∈ l, ∀ y ∈ l, f x = f y → x = y
  | [], _, x, hx, _, _, _ => nomatch hx
  | a :: l, h, x, hx, y, hy, e => by
    rw [List.map_cons, List.nodup_cons] at h
    rcases List.mem_cons.mp hx with e1 | hx1 <;> rcases List.mem_cons.mp hy with e2 | hy1
    · rw [e1, e2]
    · exact absurd (List.mem_map.mpr ⟨y, hy1, by rw [← e, e1]⟩) h.1
    · exact absurd (List.mem_map.mpr ⟨x, hx1, by rw [e, e2]⟩) h.1
    · exact inj_of_nodup h.2 x hx1 y hy1 e
theorem nodup_map_of {α β : Type} {f : α → β} : ∀ {l : List α}, l.Nodup → (∀ x ∈ l, ∀ y ∈ l, f x = f y → x = y) → (l.map f).Nodup
  | [], _, _ => List.nodup_nil
  | a :: l, h, hi => by
    rw [List.nodup_cons] at h
    rw [List.map_cons, List.nodup_cons]
    refine ⟨fun hm => ?_, nodup_map_of h.2 fun x hx y hy => hi x (List.mem_cons_of_mem _ hx) y (List.mem_cons_of_mem _ hy)⟩
    obtain ⟨y, hy, e⟩ := List.mem_map.mp hm
    exact h.1 (hi y (List.mem_cons_of_mem _ hy) a List.mem_cons_self e ▸ hy)
/-- keys of the universe that are apart have hashes that are -/
theorem hash_apart {w : World} {ks : List NestedKey} (hn : ks.Nodup) (hu : ∀ k ∈ ks, k ∈ keysU) : (ks.map (NestedKey.hash w)).Nodup :=
  nodup_map_of hn fun x hx y hy e => inj_of_nodup (keysU_apart w) x (hu x hx) y (hu y hy) e

section
variable {X : Cx} {pins : List (Addr × Obj)} {σ : L2.St} {H : Hp} {s : Shared} {d : Addr} {o : Obj}
/-- a locked dict -/
theorem frzN {xs : List NEnt} (I : Inv X pins σ H s) (h : H d = some (.frz o (NDO X.prog X.w d xs))) :
    (d == sysModules) = false ∧ xs.length ≤ sizeLine ∧ s.heap.get? d = some o ∧ o.ExactDict ∧ ∃ (es : Array DictEntry) (ep : Nat), o.data = .dict es ep ∧ es.size = xs.length ∧
      ∀ (i : Nat) (e : NEnt), xs[i]? = some e → ∃ en : DictEntry, es[i]? = some en ∧ en.key = .ref e.2.1 := by
  obtain ⟨hd, hf⟩ := I.hok d _ h
  obtain ⟨z, hs, us, pr, o', es, ep, ho, hx, hdt, he, _⟩ := (show NDF X.prog X.w d xs s.heap from hf.1)
  rw [hd] at ho
  cases ho
  refine ⟨hs, z, hd, hx, es, ep, hdt, ?_, fun i e hi => ?_⟩
  · have l1 : es.size = us.length := size_of_entries he
    have l2 : xs.length = us.length := Paired.length pr
    omega
  · obtain ⟨b, hb, e1, e2, _⟩ := paired_get pr hi
    have q := entry_at he i
    rw [hb] at q
    refine ⟨_, q, ?_⟩
    show Value.ref b.2.1 = _
    rw [e2]
end
/-- the keys of the locked dict, in their order -/
def Itkn (P : Program) (w : World) (d : Addr) (o : Obj) (xs : List NEnt) : It :=
  ⟨fun i H => H d = some (.frz o (NDO P w d xs)) ∧ i < xs.length, fun i H x H' => H' = H ∧ ∃ e : NEnt, xs[i]? = some e ∧ x = .ref e.2.1, fun i H => H d = some (.frz o (NDO P w d xs)) ∧ xs.length ≤ i⟩
theorem turn_keysN {P : Program} {w : World} {K : PySem.W.Frag} {tg : Expr} {d : Addr} {o : Obj} {es : Array DictEntry} {ep : Nat} {xs : List NEnt} (it : Addr) (hod : o.data = .dict es ep) : Turn P w K tg (Itkn P w d o xs) [it] it (fun i h => h.IsKeyIter it d i xs.length ep) where
  mem := by simp
  obj := fun i h st b hb => by
    have e : b = it := by simpa using hb
    subst e
    obtain ⟨oi, e, c, dd⟩ := st
    exact ⟨oi, e, fun v z => by rw [dd] at z; cases z⟩
  keep := fun i h h' st k => st.at fun oi e => k it (by simp) oi e
  item := by
    intro X hP hw hK hc i pins s σ H E I hf st hg
    subst hP hw hK
    obtain ⟨hd, hi⟩ := hg
    obtain ⟨f0, f1, f2, f3, f4, f5⟩ := hf it (by simp)
    obtain ⟨hs, _, hgd, hx, es', ep', hdt, hsz, ent⟩ := frzN I hd
    obtain ⟨rfl, rfl⟩ := dict_ep hod hdt
    obtain ⟨e, he⟩ : ∃ p, xs[i]? = some p := ⟨xs[i], List.getElem?_eq_getElem hi⟩
    obtain ⟨en, hen, hkey⟩ := ent i e he
    refine next_key_item st hgd hdt hsz hen fun h' st' sb => ?_
    have I1 : Inv X pins σ H { s with heap := h' } := I.turned (t' := s.toks) (fun b ob hb e => (sb.2 b hb).trans e) f0 f1 f3 f4 f5
    obtain ⟨oi, e1, c, dd⟩ := id st'
    exact ⟨en.key, rfl, go_of (s := { s with heap := h' }) e1 c dd (by decide) ⟨.ref e.2.1, H, I1, hkey, ⟨rfl, e, he, rfl⟩, st', fun b hb => (hf b hb).1⟩⟩
  done := by
    intro X hP hw hK hc i pins s σ H E I hf st hg
    subst hP hw hK
    obtain ⟨hd, hi⟩ := hg
    obtain ⟨f0, f1, f2, f3, f4, f5⟩ := hf it (by simp)
    obtain ⟨hs, _, hgd, hx, es', ep', hdt, hsz, ent⟩ := frzN I hd
    obtain ⟨rfl, rfl⟩ := dict_ep hod hdt
    exact next_key_end (I.ok.hd hc) st hgd hdt hsz hi fun h' eb => ⟨rfl, I.turned (t' := s.toks) (fun b ob hb e => eb b ob hb e) f0 f1 f3 f4 f5⟩
  self := fun A i s Q E st h => (turn_keysT (P := P) (w := w) (K := K) (tg := tg) (kvs := xs.map fun _ => ([], .non)) it hod).self A i s Q E (by rw [List.length_map]; exact st) h
def iKeysN (P : Program) (w : World) (td : TE) : TI := fun σ H R => td σ H fun x H1 => ∃ d o xs, x = .ref d ∧ H1 d = some (.frz o (NDO P w d xs)) ∧ R (Itkn P w d o xs) H1
theorem pi_keysN {X : Cx} {tg e : Expr} {td : TE} (he : PE X e td) : PI X tg e (iKeysN X.prog X.w td) := by
  refine ⟨fun pins s σ H R I h => ?_⟩
  refine thn (he.run pins s σ H _ I h) fun u s1 ⟨x, H1, I1, rx, d, o, xs, ex, hd, q⟩ => ?_
  subst ex
  obtain rfl : u = Value.ref d := rx
  obtain ⟨hs, _, hgd, hx, es, ep, hdt, hsz, ent⟩ := frzN I1 hd
  refine iter_keys hs hgd hx hdt (pi_one (tk := s1.toks) I1 _ (turn_keysN _ hdt) ⟨_, Heap.get?_push_size _ rfl, rfl, ?_⟩ q)
  rw [hsz] <;> rfl
section
variable {X : Cx}
theorem vals_refsN : ∀ xs : List NEnt, Vals (xs.map fun x => V.ref x.2.1) (xs.map fun x => Value.ref x.2.1)
  | [] => .nil
  | _ :: r => .cons rfl (vals_refsN r)
theorem NRel.refs {xs : List NEnt} {us : List (NestedKey × Addr × Value)} (r : NRel xs us) : (us.map fun x => Value.ref x.2.1) = xs.map fun x => Value.ref x.2.1 := by
  unfold NRel at r
  induction r with
  | nil => rfl
  | cons h t ih => simp only [List.map_cons, ih, h.2.1]
/-- list(d) -/
theorem call_listN (hc : X.calm = true) : CallR X (.type "list") (fun xs H Q => ∃ d ws, xs = [V.ref d] ∧ Rd H d (NDO X.prog X.w d ws) ∧ ∀ p, H p = none → Q (.ref p) (upd H p (.lst (ws.map fun x => V.ref x.2.1)))) := by
  intro pins s σ H xs us Q I r h
  obtain ⟨d, ws, rfl, hd, q⟩ := h
  obtain ⟨u, rfl, rx⟩ := r.one
  cases rx
  obtain ⟨z, hs, ks, pr, o, es, ep, ho, hx, hdt, he, hn⟩ := (show NDF X.prog X.w d ws s.heap from (hd.ok I.hok).1)
  have l1 : es.size = ks.length := size_of_entries he
  have l2 : ws.length = ks.length := Paired.length pr
  refine PySem.W.kdl_call (kdl_raw hs hx hdt) (I.ok.hd hc) ho (by omega) fun h' tk acc' c' kp e it => ?_
  have ek : (ks.map fun x => Value.ref x.2.1) = ws.map fun x => Value.ref x.2.1 := NRel.refs pr
  have ea : acc'.toList = ks.map fun x => Value.ref x.2.1 := by
    have hl : acc'.toList.length = ks.length := by rw [Array.length_toList, it.1]; exact l1
    apply List.ext_getElem?
    intro j
    rw [List.getElem?_map]
    cases hj : acc'.toList[j]? with
    | none =>
      have h1 := List.getElem?_eq_none_iff.mp hj
      rw [List.getElem?_eq_none (by omega)]; rfl
    | some v =>
      obtain ⟨en, hen, hv⟩ := it.2 j v (by rw [← Array.getElem?_toList]; exact hj)
      have qe := entry_at he j
      rw [hen] at qe
      cases hb : ks[j]? with
      | none => rw [hb] at qe; cases qe
      | some b =>
        rw [hb] at qe
        rw [hv, Option.some.inj qe]; rfl
  have rv : Vals (ws.map fun x => V.ref x.2.1) acc'.toList := by rw [ea, ek]; exact vals_refsN _
  refine ⟨.ref s.heap.objs.size, _, I.laid (t' := tk) (o := .lst (ws.map fun x => V.ref x.2.1)) kp (Nat.le_refl _) ?_, rfl, q _ (I.hok.fresh (Nat.le_refl _))⟩
  exact ⟨by rw [List.length_map]; exact z, acc'.toList, c', rv, by rw [Array.toArray_toList]; exact e⟩
end
end S1

/-! K7: dict(d), dict(pairs), d.items() as a tuple -/
namespace S1
open PySem PySem.Spec L2 PyProof.Rows

theorem choose_list {α β : Type} : ∀ (ps : List α) (R : Nat → α → β → Prop), (∀ j p, ps[j]? = some p → ∃ u, R j p u) → ∃ us : List β, us.length = ps.length ∧ ∀ j p u, ps[j]? = some p → us[j]? = some u → R j p u
  | [], _, _ => ⟨[], rfl, fun j p u h => by simp at h⟩
  | a :: ps, R, h => by
    obtain ⟨u, hu⟩ := h 0 a rfl
    obtain ⟨us, hl, hus⟩ := choose_list ps (fun j => R (j + 1)) fun j p hj => h (j + 1) p (by simpa using hj)
    refine ⟨u :: us, by simp [hl], fun j p w h1 h2 => ?_⟩
    cases j with
    | zero => cases h1; cases h2; exact hu
    | succ j => exact hus j p w (by simpa using h1) (by simpa using h2)
theorem paired_of {α β : Type} {R : α → β → Prop} : ∀ {l : List α} {m : List β}, l.length = m.length → (∀ (j : Nat) (a : α) (b : β), l[j]? = some a → m[j]? = some b → R a b) → Paired R l m
  | [], [], _, _ => .nil
  | [], _ :: _, h, _ => by simp at h
  | _ :: _, [], h, _ => by simp at h
  | a :: l, b :: m, h, f => .cons (f 0 a b rfl rfl) (paired_of (by simpa using h) fun j x y h1 h2 => f (j + 1) x y (by simpa using h1) (by simpa using h2))
section
variable {X : Cx}
theorem kvOf_keys (xs : List NEnt) : (kvOf xs).map (·.1) = xs.map (·.1) := by unfold kvOf; rw [List.map_map]; rfl
/-- a new dict that a call has made -/
theorem nd_born {pins : List (Addr × Obj)} {σ : L2.St} {H : Hp} {s : Shared} {h' : Heap} {tk : Nat} {xs : List NEnt} {us : List (NestedKey × Addr × Value)} (I : Inv X pins σ H s) (hk : ∀ b o, s.heap.get? b = some o → h'.get? b = some o)
    (hz : xs.length ≤ sizeLine) (hd : sysModules < s.heap.objs.size) (r : NRel xs us) (dd : h'.DictOfH (nestedKind X.prog X.w) s.heap.objs.size us) (n : NKeys H xs) :
    ∃ H', Inv X pins σ H' { s with heap := h', toks := tk } ∧ H s.heap.objs.size = none ∧ Same H H' ∧ ND X.prog X.w H' s.heap.objs.size (kvOf xs) := by
  have hn : H s.heap.objs.size = none := I.hok.fresh (Nat.le_refl _)
  have nf : NDF X.prog X.w s.heap.objs.size xs h' := n_write hz (beq_eq_false_iff_ne.mpr (Ne.symm (Nat.ne_of_lt hd))) r dd
  exact ⟨upd H s.heap.objs.size (NDO X.prog X.w s.heap.objs.size xs), I.laid (t' := tk) hk (Nat.le_refl _) nf.ok, hn, same_upd _ hn, xs, upd_same, rfl, n.mono (KeepT.of_same (same_upd _ hn))⟩
theorem NRel.map_hash {w : World} {xs : List NEnt} {us : List (NestedKey × Addr × Value)} (r : NRel xs us) : (us.map fun x => NestedKey.hash w x.1) = (xs.map (·.1)).map (NestedKey.hash w) := by
  rw [r.keys, List.map_map]; rfl
/-- dict(d) -/
theorem call_dictN (hu : X.A.units + 65 < cLine) : CallR X (.type "dict") (fun xs H Q => ∃ d kvs, xs = [V.ref d] ∧ NDr X.prog X.w H d kvs ∧ (∀ p ∈ kvs, p.1 ∈ keysU) ∧ ∀ p H', H p = none → Same H H' → ND X.prog X.w H' p kvs → Q (.ref p) H') := by
  intro pins s σ H xs us Q I r h
  obtain ⟨d, kvs, rfl, g, hU, q⟩ := h
  obtain ⟨u, rfl, rx⟩ := r.one
  cases rx
  obtain ⟨ws, e, rfl, n⟩ := g
  obtain ⟨hz, hds, vs, rel, dd⟩ := nd_of I.hok e n
  have hnd : (ws.map (·.1)).Nodup := by rw [rel.keys]; exact dd.nodup
  have hh : (vs.map fun x => (nestedKind X.prog X.w).hash x.1).Nodup := by
    have e1 : (vs.map fun x => (nestedKind X.prog X.w).hash x.1) = (ws.map (·.1)).map (NestedKey.hash X.w) := NRel.map_hash rel
    rw [e1]
    refine hash_apart hnd fun k hk => ?_
    obtain ⟨x, hx, rfl⟩ := List.mem_map.mp hk
    exact hU (x.1, x.2.2) (List.mem_map.mpr ⟨x, hx, rfl⟩)
  have hlt : d < s.heap.objs.size := let ⟨_, _, _, ho, _⟩ := dd; Heap.lt_size ho
  have hkeep : ∀ b o, s.heap.get? b = some o → (s.heap.push { cls := .type "dict", data := .dict #[] }).get? b = some o := fun b o e => Heap.get?_push_of_some _ e
  have I1 : Inv X pins σ H { s with heap := s.heap.push { cls := .type "dict", data := .dict #[] } } := I.kept (t' := s.toks) hkeep
  obtain ⟨_, _, vs', rel', dd'⟩ := nd_of I1.hok e n
  have hvs : ∀ x ∈ vs', Shared.TypeIs { s with heap := s.heap.push { cls := .type "dict", data := .dict #[] } } (.ref x.2.1) "tuple" := fun x hx => by
    obtain ⟨_, _, _, _, _, _, _, his, _⟩ := id dd'
    exact nestedKind_stays.tuple (his x hx)
  have hnd' : (vs'.map (·.1)).Nodup := dd'.nodup
  have hh' : (vs'.map fun x => (nestedKind X.prog X.w).hash x.1).Nodup := by
    have e1 : (vs'.map fun x => (nestedKind X.prog X.w).hash x.1) = (ws.map (·.1)).map (NestedKey.hash X.w) := NRel.map_hash rel'
    have e2 : (vs.map fun x => (nestedKind X.prog X.w).hash x.1) = (ws.map (·.1)).map (NestedKey.hash X.w) := NRel.map_hash rel
    rw [e1, ← e2]; exact hh
  refine callType_codes (Q₁ := fun obj s₁ => obj = .ref s.heap.objs.size ∧ s₁ = { s with heap := s.heap.push { cls := .type "dict", data := .dict #[] } }) PySem.F.kt_called_dict (PySem.F.kt_typeCall_dict_1 _) PySem.F.entry_dict_init (kt_code_dict_new _ ⟨rfl, rfl⟩) ?_
  rintro obj s₁ ⟨rfl, rfl⟩
  have hT : Shared.TypeIs { s with heap := s.heap.push { cls := .type "dict", data := .dict #[] } } (.ref s.heap.objs.size) "dict" := ⟨_, Heap.get?_push_size _ rfl, rfl⟩
  refine ⟨hT, PySem.F.args_dict_init_2 _ _, ?_⟩
  unfold Builtin.«dict.__init__»
  refine wpAny_bind ?_
  unfold Builtin.Dict.selfAndRest
  refine wpAny_bind (wpAny_notOrdered_dict hT ?_)
  show wpAny _ _ (pure (s.heap.objs.size, [Value.ref d])) _ _ _
  refine wpAny_pure ?_
  refine updateFrom_dictH (A := X.A.in1) (knd := nestedKind X.prog X.w) (kvs := []) (more := vs') .none ?_ (Nat.ne_of_gt hlt) hds (Heap.DictOfH.new s.heap) dd' (.inr ⟨hvs, hh'⟩) ?_ fun h' d1 d2 sb => ?_
  · show X.A.units + 1 + 1 + 8 < cLine; omega
  · have := rel'.len; simp only [List.length_nil]; omega
  · rw [storedAllH_nil_of_nodup vs' hnd'] at d1
    obtain ⟨H', I2, hn, sm, nd⟩ := nd_born (tk := s.toks) (h' := h') I (fun b o e => sb.extBut b o (Nat.ne_of_lt (Heap.lt_size e)) (hkeep b o e)) hz I.big rel' d1 n
    exact ⟨rfl, ⟨.ref s.heap.objs.size, H', I2, rfl, q _ _ hn sm nd⟩⟩
/-- dict(pairs): a list of pairs whose keys are apart -/
theorem call_dictPairsN (hc : X.calm = true) (hu : X.A.units + 65 < cLine) : CallR X (.type "dict") (fun xs H Q => ∃ l ts ps, xs = [V.ref l] ∧ SqL X.K H l (ts.map V.ref) ∧ Paired (fun t (p : NEnt) => H t = some (.tup [.ref p.2.1, p.2.2])) ts ps ∧ NKeys H ps ∧ (ps.map (·.1)).Nodup ∧
    ∀ p H', H p = none → Same H H' → ND X.prog X.w H' p (kvOf ps) → Q (.ref p) H') := by
  intro pins s σ H xs us Q I r h
  obtain ⟨l, ts, ps, rfl, hl, hp, n, hnd, q⟩ := h
  obtain ⟨u, rfl, rx⟩ := r.one
  cases rx
  obtain ⟨its, rv, pl, hz⟩ := I.list hl
  have hlen : ts.length = ps.length := Paired.length hp
  have hits : its.length = ps.length := by rw [← rv.length, List.length_map]; exact hlen
  -- the pairs as they stand
  have at_ : ∀ (j : Nat) (p : NEnt), ps[j]? = some p → ∃ t u, ts[j]? = some t ∧ its[j]? = some (.ref t) ∧ RelV p.2.2 u ∧ s.heap.IsTuple t #[.ref p.2.1, u] := fun j p hj => by
    obtain ⟨t, ht, hT⟩ : ∃ t, ts[j]? = some t ∧ H t = some (.tup [.ref p.2.1, p.2.2]) := by
      have hlt : j < ts.length := by have := (List.getElem?_eq_some_iff.mp hj).1; omega
      obtain ⟨b, hb, hT⟩ := paired_get hp (List.getElem?_eq_getElem hlt)
      rw [hj] at hb; cases hb
      exact ⟨_, List.getElem?_eq_getElem hlt, hT⟩
    obtain ⟨v, hv, r1⟩ := rv.get (show (ts.map V.ref)[j]? = some (.ref t) by rw [List.getElem?_map, ht]; rfl)
    cases r1
    obtain ⟨_, its2, rv2, pt⟩ := (show ObjOk X.prog X.w H s.heap t (.tup [.ref p.2.1, p.2.2]) from I.hok t _ hT)
    cases rv2 with
    | cons a b =>
      cases b with
      | cons c e =>
        cases e
        cases a
        exact ⟨t, _, ht, hv, c, pt⟩
  obtain ⟨us, hul, hus⟩ := choose_list ps (fun j (p : NEnt) (q : NestedKey × Addr × Value) => p.1 = q.1 ∧ p.2.1 = q.2.1 ∧ RelV p.2.2 q.2.2 ∧ ∃ t, ts[j]? = some t ∧ its[j]? = some (.ref t) ∧ s.heap.IsTuple t #[.ref q.2.1, q.2.2]) fun j p hj => by
    obtain ⟨t, u, h1, h2, h3, h4⟩ := at_ j p hj
    exact ⟨(p.1, p.2.1, u), rfl, rfl, h3, t, h1, h2, h4⟩
  have rel : NRel ps us := paired_of hul.symm fun j p q h1 h2 => let ⟨a, b, c, _⟩ := hus j p q h1 h2; ⟨a, b, c⟩
  have his : ∀ h' : Heap, (∀ b o, s.heap.get? b = some o → h'.get? b = some o) → ∀ x ∈ us, (nestedKind X.prog X.w).is h' x.1 x.2.1 := fun h' hk x hx => by
    obtain ⟨j, hj⟩ := List.mem_iff_getElem?.mp hx
    have hlt : j < ps.length := by have := (List.getElem?_eq_some_iff.mp hj).1; omega
    obtain ⟨e1, e2, _⟩ := hus j ps[j] x (List.getElem?_eq_getElem hlt) hj
    have nk := n ps[j] (List.getElem_mem hlt)
    rw [← e1, ← e2]
    exact NK.key (I.hok.kept hk) nk.1 nk.2
  have hnd' : (us.map (·.1)).Nodup := by rw [← rel.keys]; exact hnd
  have Tat : ∀ j, j < us.length → ∃ t, ts[j]? = some t ∧ its[j]? = some (.ref t) ∧ ∀ q, us[j]? = some q → s.heap.IsTuple t #[.ref q.2.1, q.2.2] := fun j hj => by
    obtain ⟨_, _, _, t, h1, h2, h3⟩ := hus j (ps[j]'(by omega)) us[j] (List.getElem?_eq_getElem (by omega)) (List.getElem?_eq_getElem hj)
    refine ⟨t, h1, h2, fun q hq => ?_⟩
    rw [List.getElem?_eq_getElem hj] at hq; cases hq; exact h3
  have hlS : (us.map fun q => (Value.ref q.2.1, q.2.2)).length = us.length := by simp
  have P := PairArg.list (prog := X.prog) (w := X.w) l its.toArray (fun j => (ts[j]?).getD 0) (us.map fun q => (Value.ref q.2.1, q.2.2))
  have hps : PlainSeq "list" s.heap l its.toArray := by
    obtain ⟨o, m, h1⟩ := pl
    exact ⟨o, m, h1⟩
  have ok : PlainSeq "list" s.heap l its.toArray ∧ PairItems s.heap its.toArray (fun j => (ts[j]?).getD 0) (us.map fun q => (Value.ref q.2.1, q.2.2)) := by
    refine ⟨hps, by simp [hits, hul], fun j k v hj => ?_⟩
    rw [List.getElem?_map] at hj
    obtain ⟨q, hq, e⟩ := Option.map_eq_some_iff.mp hj
    cases e
    obtain ⟨t, h1, h2, h3⟩ := Tat j (List.getElem?_eq_some_iff.mp hq).1
    have e1 : (ts[j]?).getD 0 = t := by rw [h1]; rfl
    show its.toArray[j]? = some (.ref ((ts[j]?).getD 0)) ∧ PairAt s.heap ((ts[j]?).getD 0) (.ref q.2.1) q.2.2
    rw [e1]
    exact ⟨by simpa using h2, .inl (h3 q hq)⟩
  have hn2 : (us.map fun q => (Value.ref q.2.1, q.2.2)).length ≤ sizeLine := by
    have h2 : its.length ≤ sizeLine := by rw [← rv.length]; exact hz
    rw [hlS, hul, ← hits]; exact h2
  refine call_dict_pairsH (knd := nestedKind X.prog X.w) (ps := us) P (I.ok.hd hc) ?_ ok ⟨by simp, fun i key v hr => ?_⟩ (fun h' hk x hx => ?_) hn2 fun h' tk d1 hk => ?_
  · show X.A.units + 1 + 1 + 8 < cLine; omega
  · have hr' : (us.map fun q => (Value.ref q.2.1, q.2.2))[i]? = some (key, v) := hr
    rw [List.getElem?_map] at hr'
    obtain ⟨q, hq, e⟩ := Option.map_eq_some_iff.mp hr'
    cases e
    exact ⟨q.1, q.2.1, hq, rfl⟩
  · exact his h' (fun b o e => hk b o (Nat.ne_of_lt (Heap.lt_size e)) (by simp) e) x hx
  · rw [storedAllH_nil_of_nodup us hnd'] at d1
    obtain ⟨H', I2, hn, sm, nd⟩ := nd_born (tk := tk) (h' := h') I (fun b o e => hk b o (by simp) e) (by rw [← hul, ← hlS]; exact hn2) I.big rel d1 n
    exact ⟨.ref s.heap.objs.size, H', I2, rfl, q _ _ hn sm nd⟩
end
end S1

/-! K8: tuple(d.items()) -/
namespace S1
open PySem PySem.Spec L2 PyProof.Rows DX
section
variable {prog : Program} {w : World} {A : Around} {E : Value → Shared → Prop} {s : Shared} {r d : Addr} {es : Array DictEntry} {ep : Nat}
theorem code_tuple_items {Q₁ : Value → Shared → Prop} (hh : A.handled = none) (hv : s.heap.IsItemsView r d) (hm : s.heap.DictRaw d es ep) (hlen : es.size ≤ sizeLine)
    (h : ∀ (h' : Heap) (tk : Nat) (as : List Addr), (∀ b o, s.heap.get? b = some o → h'.get? b = some o) → as.length = es.size →
      Q₁ (.ref h'.objs.size) { s with heap := h'.push { cls := .type "tuple", data := .seq (as.map Value.ref).toArray }, toks := tk }) :
    codeAny (model prog w) A (.call (.builtin "tuple.__new__") ⟨[.type "tuple", .ref r], []⟩) (wants Q₁ E) s := by
  refine codeAny_of_tree ?_
  show wpAny _ A.in1 (do checkBuiltinCall "tuple.__new__" ⟨[.type "tuple", .ref r], []⟩; again (.builtin "tuple.__new__" ⟨[.type "tuple", .ref r], []⟩)) _ _ s
  refine wpAny_bind (wpAny_of_eq (PySem.F.newCall_tuple_1 _) (wpAny_pure ⟨plainId_quiet PySem.F.plain_tuple_new _, codeAny_builtin PySem.F.entry_tuple_new ?_⟩))
  rw [Around.under_plainId PySem.F.plain_tuple_new _]
  have hsub := sub_tuple_self
  have hinit := init_tuple_lookup
  have hmh := madeHere_tuple
  have hTI : s.TypeIs (.ref r) "dict_items" := hv.typeIs
  have hh1 : A.in1.handled = none := hh
  wp_walk using wpAny_typeOf hTI, PySem.W.dil_collect (A := A.in1) hh1 hv hm hlen
  intro h' tk as hk hl _
  show wpAny _ _ (Builtin.Tuple.tupleExact (as.map Value.ref).toArray >>= fun v => ret v) _ _ _
  unfold Builtin.Tuple.tupleExact
  refine wpAny_bind (wpAny_newObj_type ?_ (by show (as.map Value.ref).toArray.size ≤ sizeLine; simp only [List.size_toArray, List.length_map]; omega))
  refine wpAny_pure ?_
  exact h h' tk as hk hl
end
section
variable {X : Cx}
theorem mt_itemsN : MtR X "dict.items" (fun x xs H Q => ∃ a ws, x = .ref a ∧ xs = [] ∧ Rd H a (NDO X.prog X.w a ws) ∧ ∀ p, H p = none → Q (.ref p) (upd H p (itemsO p a))) := by
  intro pins s σ H x xs v us Q I rx rxs h
  obtain ⟨a, ws, rfl, rfl, ha, q⟩ := h
  cases rx
  cases rxs
  obtain ⟨z, hd, xs', rel, o, es, ep, ho, hx, hdat, _⟩ := (show NDF X.prog X.w a ws s.heap from (ha.ok I.hok).1)
  refine DT.callItems (es := es) (ep := ep) hd ⟨o, ho, hx, hdat⟩ ?_
  have hf : H s.heap.objs.size = none := I.hok.fresh (Nat.le_refl _)
  exact ⟨.ref s.heap.objs.size, upd H s.heap.objs.size (itemsO s.heap.objs.size a), I.laid (t' := s.toks) (fun b u e => Heap.get?_push_of_some _ e) (Nat.le_refl _) (itemsO_ok (Heap.get?_push_size _ rfl)), rfl, q _ hf⟩
theorem call_tuple_items (hc : X.calm = true) : CallR X (.type "tuple") (fun xs H Q => ∃ p a ws, xs = [V.ref p] ∧ H p = some (itemsO p a) ∧ Rd H a (NDO X.prog X.w a ws) ∧ ∀ q vs, H q = none → Q (.ref q) (upd H q (.tup vs))) := by
  intro pins s σ H xs us Q I r h
  obtain ⟨p, a, ws, rfl, hp, ha, q⟩ := h
  obtain ⟨u, rfl, rx⟩ := r.one
  cases rx
  obtain ⟨z, hd, xs', rel, o, es, ep, ho, hx, hdat, he, _⟩ := (show NDF X.prog X.w a ws s.heap from (ha.ok I.hok).1)
  have hv : s.heap.IsItemsView p a := (show ObjOk X.prog X.w H s.heap p (itemsO p a) from I.hok p _ hp).1
  have hsz : es.size ≤ sizeLine := by
    have l1 : es.size = xs'.length := size_of_entries he
    have l2 : ws.length = xs'.length := Paired.length rel
    omega
  refine callType_codes (Q₁ := fun obj s₁ => s₁.TypeIs obj "tuple" ∧ EP X pins σ Q obj s₁) PySem.F.called_tuple (PySem.F.typeCall_tuple_1 _) PySem.F.entry_object_init
    (code_tuple_items (A := X.A.in1) (I.ok.hd hc) hv ⟨o, ho, hx, hdat⟩ hsz fun h' tk as hk hl => ⟨⟨_, Heap.get?_push_size _ rfl, rfl⟩, ?_⟩) fun obj s₁ h₁ => ?_
  · have I1 : Inv X pins σ H { s with heap := h', toks := tk } := I.kept hk
    refine ⟨.ref h'.objs.size, upd H h'.objs.size (.tup (as.map V.ref)), I1.laid (t' := tk) (fun c o e => Heap.get?_push_of_some _ e) (Nat.le_refl _) (show ObjOk X.prog X.w _ _ _ (.tup (as.map V.ref)) from ⟨?_, as.map Value.ref, vals_refs as, IsTup.new _ _⟩), rfl, q _ _ (I1.hok.fresh (Nat.le_refl _))⟩
    rw [List.length_map]; omega
  · exact ⟨h₁.1, PySem.F.args_object_init_2 obj _, object_init_meets PySem.F.called_tuple.init.lookup PySem.F.called_tuple.made (by decide) _ _ _ _ s₁ ⟨h₁.1, rfl, h₁.2⟩⟩
end
end S1

/-! K9: dict comprehensions with nested keys -/
namespace S1
open PySem PySem.Spec L2 PyProof.Rows
section
variable {X : Cx} {pins : List (Addr × Obj)} {σ : L2.St} {H : Hp} {s : Shared} {E : Value → Shared → Prop} {A : Around} {d a : Addr} {k : NestedKey} {v : V} {r : Value}
theorem n_dictSet {Q : Unit → Shared → Prop} {xs : List NEnt} (hu : A.units + 9 < cLine) (I : Inv X pins σ H s) (e : H d = some (NDO X.prog X.w d xs)) (n : NKeys H xs) (hz : (kvOf xs).length < sizeLine) (hk : NK H k (.ref a)) (hd : k.depth ≤ 8) (rv : RelV v r)
    (h : ∀ s', Inv X pins σ (upd H d (NDO X.prog X.w d (putN xs k a v))) s' → Q () s') : wpAny (model X.prog X.w) A (dictSet d (.ref a) r) Q E s := by
  obtain ⟨z, hs, us, rel, dd⟩ := nd_of I.hok (.inl e) n
  refine wpAny_dictSet_heap (knd := nestedKind X.prog X.w) (hsz := by rw [← rel.len]; exact z) (by show A.units + 8 < cLine; omega) (NK.key I.hok hk hd) dd fun h' dd' sb => h _ ?_
  have hl : xs.length < sizeLine := by simpa [kvOf] using hz
  refine n_step I (by rw [e]; exact True.intro) ?_ hs (rel.put k a rv) dd' sb
  have := putN_len xs k a v; omega
end
section
variable {X : Cx}
/-- {k: v for target in iter}, nested keys: D the new dict -/
def tDcN (P : Program) (w : World) (wi : TI) (g : TG) (tt : TT) (tk tv : TE) (vs : List Nat) : TE := fun σ H Q => wi σ H fun J H1 => ∀ D, H1 D = none → ∃ W : Nat → Nat → Hp → Prop, (∃ m, W 0 m (upd H1 D (NDO P w D []))) ∧ ∀ i m H, W i m H →
  (J.stop i H ∧ Q (.ref D) H) ∨ (J.go i H ∧ ∃ Nx : Hp → Prop, (∀ H', Nx H' → ∃ m', m' < m ∧ W (i + 1) m' H') ∧ ∀ x H', J.yld i H x H' → g x (wipe σ vs) H' fun σ2 H2 => wipe σ2 vs = wipe σ vs ∧ tt σ2 H2 fun b H3 =>
    if b = true then tk σ2 H3 fun y H4 => tv σ2 H4 fun z H5 => ∃ kvs a k, y = .ref a ∧ ND P w H5 D kvs ∧ NK H5 k (.ref a) ∧ k.depth ≤ 8 ∧ kvs.length < sizeLine ∧ (∀ H', Keep [D] H5 H' → ND P w H' D (putK kvs k z) → Nx H') else Nx H3)
theorem dcN_core {pins : List (Addr × Obj)} {s : Shared} {σ : L2.St} {H : Hp} {Q : VK} {kx vx tg iter : Expr} {ifs : List Expr} {scope : Scope} {own : List (PySem.Str × Nat)} {pos pos' : Pos} {wi : TI} {g : TG} {tt : TT} {tk tv : TE} {use : Option (Value → Sem Unit)} {Qf : Value → Shared → Prop}
    (hu : X.A.units + 9 < cLine) (hc : X.calm = true) (hN : X.N.Nodup) (I : Inv X pins σ H s) (hi : PI X tg iter wi) (ok : BlkOk X.N X.env.scope scope own)
    (hg : ∀ (s : Shared) (H : Hp) (C : Addr) (cl : List (PySem.Str × Addr)) (fp : List Addr), PG (X.blk s H scope (compEnvC scope cl C X.env) fp) tg g) (ht : ∀ (s : Shared) (H : Hp) (C : Addr) (cl : List (PySem.Str × Addr)) (fp : List Addr), PTs (X.blk s H scope (compEnvC scope cl C X.env) fp) ifs tt)
    (hk : ∀ (s : Shared) (H : Hp) (C : Addr) (cl : List (PySem.Str × Addr)) (fp : List Addr), PE (X.blk s H scope (compEnvC scope cl C X.env) fp) kx tk)
    (he : ∀ (s : Shared) (H : Hp) (C : Addr) (cl : List (PySem.Str × Addr)) (fp : List Addr), PE (X.blk s H scope (compEnvC scope cl C X.env) fp) vx tv) (hs : ∀ x, foldedSetIterable iter X.env x = pure x)
    (h : tDcN X.prog X.w wi g tt tk tv (own.map (·.2)) σ H Q)
    (hRR : ∀ D C s' m H', Inv X pins σ H' s' → Q (.ref D) H' → s'.heap.Ns C m → FpOk X pins H' C → compPost (model X.prog X.w) X.A X.xe use Qf (.ref D) C (.ok .next) s') :
    wpAny (model X.prog X.w) X.A (comprehension (.DictComp kx vx [⟨tg, iter, ifs, 0⟩] scope pos) scope X.env pos' newDict false (eval iter X.env) use) Qf X.xe s := by
  have hfree : ∀ y ∈ scope.names, y.2 = .free → ∃ c, X.env.cells.lookup y.1 = some c := fun y hy e => by
    rcases ok.free y hy e with k | k
    · exact I.ok.has _ (.inl k)
    · exact I.ok.has _ (.inr k)
  refine wpAny_comprehension_free (use := use) rfl hs (closure_ok hfree) ok.kind (fun y hy e => by rw [ok.uniq y hy, e])
    (thn (hi.run pins s σ H _ I h) fun xv s1 hx => thn hx fun itv s2 h2 => ?_)
  obtain ⟨it, fp, tn, J, H2, e, I2, T, st2, f2, q⟩ := h2
  subst e
  refine wpAny_newObj_type (newEnv_comp ?_)
  generalize hD : s2.heap.objs.size = D
  have hDn : H2 D = none := I2.hok.fresh (Nat.le_of_eq hD)
  obtain ⟨W, ⟨m0, w0⟩, turn⟩ := q D hDn
  -- the new list
  generalize hs3 : ({ s2 with heap := s2.heap.push { cls := .type "dict", data := .dict #[] } } : Shared) = s3
  have I3 : Inv X pins σ (upd H2 D (NDO X.prog X.w D [])) s3 := by
    rw [← hs3]
    refine I2.laid (t' := s2.toks) (fun b o e => Heap.get?_push_of_some _ e) (Nat.le_of_eq hD) ?_
    rw [← hD]
    exact NDF.ok (nd_new I2.big)
  have h3 : s3.heap = s2.heap.push { cls := .type "dict", data := .dict #[] } := by rw [← hs3]
  have sz : ∀ b ∈ fp, b < s2.heap.objs.size := fun b hb => by
    obtain ⟨o, e, _⟩ := T.obj _ _ st2 b hb
    exact Heap.lt_size e
  have f3 : ∀ b ∈ fp, FpOk X pins (upd H2 D (NDO X.prog X.w D [])) b ∧ b < s3.heap.objs.size := fun b hb => by
    have hlt := sz b hb
    refine ⟨⟨?_, (f2 b hb).2⟩, by rw [h3, Heap.size_push]; exact Nat.lt_succ_of_lt hlt⟩
    rw [upd_ne (by rw [← hD]; exact Nat.ne_of_lt hlt)]
    exact (f2 b hb).1
  have st3 : tn 0 s3.heap := T.keep _ _ _ st2 fun b _ o e => by rw [h3]; exact Heap.get?_push_of_some _ e
  have I4 := block_start I3 ok hN f3
  have pg := hg s3 (upd H2 D (NDO X.prog X.w D [])) s3.heap.objs.size (cellsFrom (s3.heap.objs.size + 1) scope.names (cloFrom X.env.cells scope.names [])) fp
  have pt := ht s3 (upd H2 D (NDO X.prog X.w D [])) s3.heap.objs.size (cellsFrom (s3.heap.objs.size + 1) scope.names (cloFrom X.env.cells scope.names [])) fp
  have pk := hk s3 (upd H2 D (NDO X.prog X.w D [])) s3.heap.objs.size (cellsFrom (s3.heap.objs.size + 1) scope.names (cloFrom X.env.cells scope.names [])) fp
  have pe := he s3 (upd H2 D (NDO X.prog X.w D [])) s3.heap.objs.size (cellsFrom (s3.heap.objs.size + 1) scope.names (cloFrom X.env.cells scope.names [])) fp
  show codeAny _ _ (.compStart (.DictComp kx vx [⟨tg, iter, ifs, 0⟩] scope pos) 0 (.ref it) (.ref D) (compEnvC scope (cellsFrom (s3.heap.objs.size + 1) scope.names (cloFrom X.env.cells scope.names [])) s3.heap.objs.size X.env)) (compPost (model X.prog X.w) X.A X.xe use Qf (.ref D) s3.heap.objs.size) { s3 with heap := pushCells (s3.heap.push { cls := .type "dict", data := .dict #[] }) scope.names }
  have nfp : ∀ b ∈ fp, (upd H2 D (NDO X.prog X.w D [])) b = none := fun b hb => (f3 b hb).1.1
  generalize hce : compEnvC scope (cellsFrom (s3.heap.objs.size + 1) scope.names (cloFrom X.env.cells scope.names [])) s3.heap.objs.size X.env = ce at I4 pg pt pk pe ⊢
  have cL : ce.locals = s3.heap.objs.size := by subst hce; rfl
  generalize hH3 : upd H2 D (NDO X.prog X.w D []) = H3 at I3 I4 pg pt pk pe w0 nfp f3
  generalize hs4 : ({ s3 with heap := pushCells (s3.heap.push { cls := .type "dict", data := .dict #[] }) scope.names } : Shared) = s4 at I4 ⊢
  have st4 : tn 0 s4.heap := T.keep _ _ _ st3 fun b _ o e => by rw [← hs4]; exact pushCells_keeps _ _ _ _ (Heap.get?_push_of_some _ e)
  have stat : ∀ {σ' : L2.St} {H' : Hp} {s' : Shared}, Inv (X.blk s3 H3 scope ce fp) [] σ' H' s' → (∀ b ∈ fp, H' b = none) → ∀ b ∈ fp, FpOk (X.blk s3 H3 scope ce fp) [] H' b := fun {σ' H' s'} I' hn b hb =>
    ⟨hn b hb, (I'.ok.exf b hb).1, I'.ok.exfs b hb, .inl hb, fun x c e => (I'.ok.exf b hb).2 x c e, fun p hp => absurd (show p ∈ ([] : List (Addr × Obj)) ++ [] from hp) (by simp)⟩
  have loop : codeAny (model X.prog X.w) X.A (.compLoop (.DictComp kx vx [⟨tg, iter, ifs, 0⟩] scope pos) 0 (.ref it) (.ref D) ce) (compPost (model X.prog X.w) X.A X.xe use Qf (.ref D) s3.heap.objs.size) s4 := by
    refine compLoop_anyD (fun n s' => ∃ i H', Inv (X.blk s3 H3 scope ce fp) [] (wipe σ (own.map (·.2))) H' s' ∧ tn i s'.heap ∧ (∀ b ∈ fp, H' b = none) ∧ W i n H') ?_ m0 ⟨0, H3, I4, st4, nfp, w0⟩
    rintro n s5 ⟨i, H5, I5, st5, n5, w5⟩
    rcases turn i n H5 w5 with ⟨stop, qq⟩ | ⟨go, Nx, hNx, step⟩
    · have td := T.done (X.blk s3 H3 scope ce fp) rfl rfl rfl hc i [] s5 _ H5 (fun _ _ => False) I5 (stat I5 n5) st5 stop
      refine thnF td fun r s6 ⟨hr, I6⟩ => ?_
      subst hr
      -- back in the def's context
      have I7 : Inv X pins σ H5 s6 := I3.call' (ch := fp) I6.os I6.base I6.hok I6.bare fun b hb => ⟨(f3 b hb).1.2.2.2.1, (f3 b hb).1.2.1, (f3 b hb).1.2.2.2.2.1, (f3 b hb).1.2.2.2.2.2⟩
      have nC : H5 s3.heap.objs.size = none := by
        have z : H5 ce.locals = none := I6.free
        rw [cL] at z
        exact z
      obtain ⟨m, hn, _⟩ := I6.loc
      have hn : s6.heap.Ns ce.locals m := hn
      rw [cL] at hn
      exact hRR D s3.heap.objs.size s6 m H5 I7 qq hn (I3.fpOk (Nat.le_refl _) nC)
    · have ti := T.item (X.blk s3 H3 scope ce fp) rfl rfl rfl hc i [] s5 _ H5 (fun _ _ => False) I5 (stat I5 n5) st5 go
      refine thnF ti fun r s6 ⟨u, hr, h6⟩ => ?_
      subst hr
      refine thnF h6 fun _ s7 ⟨x, H7, I7, r7, y7, st7, n7⟩ => ?_
      have I7' := I7.pinned (stat I7 n7) (T.obj _ _ st7)
      refine thnF (pg.run _ s7 _ H7 x u _ I7' r7 (step x H7 y7)) fun _ s8 ⟨σ8, H8, I8, hw8, q8⟩ => ?_
      refine thnF (pt.run _ s8 σ8 H8 _ I8 q8) fun b s9 ⟨H9, I9, q9⟩ => ?_
      -- the turn's end
      have fin : ∀ {s' : Shared} {H' : Hp}, Inv (X.blk s3 H3 scope ce fp) ([] ++ pinsAt fp s7.heap) σ8 H' s' → Nx H' → ∃ m, m < n ∧ ∃ i H', Inv (X.blk s3 H3 scope ce fp) [] (wipe σ (own.map (·.2))) H' s' ∧ tn i s'.heap ∧ (∀ b ∈ fp, H' b = none) ∧ W i m H' := fun {s' H'} I' nx => by
        obtain ⟨m', hm, w'⟩ := hNx H' nx
        have pin' : ∀ b ∈ fp, ∀ o, s7.heap.get? b = some o → s'.heap.get? b = some o ∧ H' b = none := fun b hb o e =>
          let z := I'.pin (b, o) (List.mem_append_right _ (List.mem_append_right _ (mem_pinsAt hb e)))
          ⟨z.1, z.2.1⟩
        have hl : (wipe σ (own.map (·.2))).length = σ8.length := by rw [← hw8, wipe_length]
        refine ⟨m', hm, i + 1, H', (I'.unpinned (pins := [])).weak hl (fun j v e => ?_), T.keep _ _ _ st7 fun b hb o e => (pin' b hb o e).1, fun b hb => ?_, w'⟩
        · rw [← hw8] at e
          exact (wipe_some e).1
        · obtain ⟨o, e, _⟩ := T.obj _ _ st7 b hb
          exact (pin' b hb o e).2
      cases b with
      | false =>
        simp only [Bool.false_eq_true, if_false] at q9 ⊢
        exact fin I9 q9
      | true =>
        simp only [if_true] at q9 ⊢
        refine thnF (pk.run _ s9 σ8 H9 _ I9 q9) fun z s10 ⟨yk, H10, I10, r10, q10⟩ => ?_
        refine thnF (pe.run _ s10 σ8 H10 _ I10 q10) fun z2 s11 ⟨yv, H11, I11, r11, kvs, ka, k, ek, ⟨xs11, hD11, hkv, hn11⟩, hk11, hd11, hz11, nx⟩ => ?_
        subst ek
        subst hkv
        cases r10
        exact n_dictSet (X := X.blk s3 H3 scope ce fp) hu I11 hD11 hn11 hz11 hk11 hd11 r11 fun s12 I12 => fin I12 (nx _ keep_upd (nd_put hD11 hn11 hk11 hd11))
  exact codeAny_compStart_dict loop (T.self X.A 0 _ _ _ st4 loop)
/-- as a value -/
theorem pe_dcN {kx vx tg iter : Expr} {ifs : List Expr} {scope : Scope} {own : List (PySem.Str × Nat)} {pos : Pos} {wi : TI} {g : TG} {tt : TT} {tk tv : TE} (hu : X.A.units + 9 < cLine) (hc : X.calm = true) (hN : X.N.Nodup) (hi : PI X tg iter wi) (ok : BlkOk X.N X.env.scope scope own)
    (hg : ∀ (s : Shared) (H : Hp) (C : Addr) (cl : List (PySem.Str × Addr)) (fp : List Addr), PG (X.blk s H scope (compEnvC scope cl C X.env) fp) tg g) (ht : ∀ (s : Shared) (H : Hp) (C : Addr) (cl : List (PySem.Str × Addr)) (fp : List Addr), PTs (X.blk s H scope (compEnvC scope cl C X.env) fp) ifs tt)
    (hk : ∀ (s : Shared) (H : Hp) (C : Addr) (cl : List (PySem.Str × Addr)) (fp : List Addr), PE (X.blk s H scope (compEnvC scope cl C X.env) fp) kx tk)
    (he : ∀ (s : Shared) (H : Hp) (C : Addr) (cl : List (PySem.Str × Addr)) (fp : List Addr), PE (X.blk s H scope (compEnvC scope cl C X.env) fp) vx tv) (hs : ∀ x, foldedSetIterable iter X.env x = pure x := by intro _; rfl) :
    PE X (.DictComp kx vx [⟨tg, iter, ifs, 0⟩] scope pos) (tDcN X.prog X.w wi g tt tk tv (own.map (·.2))) := by
  refine ⟨fun pins s σ H Q I h => ?_⟩
  rw [arm_eval_DictComp]
  refine dcN_core hu hc hN I hi ok hg ht hk he hs h fun D C s' m H' I' q hn f => ⟨m, hn, fun h'' sb => ?_⟩
  obtain ⟨f0, f1, f2, f3, f4, f5⟩ := f
  exact ⟨.ref D, H', I'.turned (t' := s'.toks) (fun b o hb e => (sb.2 b hb).trans e) f0 f1 f3 f4 f5, rfl, q⟩
end
end S1

/-! K10: set comprehensions of ints over two clauses -/
namespace S1
open PySem PySem.Spec L2 PyProof.Rows
theorem compTurnS_out (elt t0 i0 t1 i1 : Expr) (ifs0 ifs1 : List Expr) (scope : Scope) (pos : Pos) (it acc : Value) (env : Env) :
    compTurn (.SetComp elt [⟨t0, i0, ifs0, 0⟩, ⟨t1, i1, ifs1, 0⟩] scope pos) 0 it acc env = (do
      standAt i0.pos
      match ← pyNext it with
      | none => pure (.done .next)
      | some v =>
        letOwnedTupleGo t0 it v
        assign t0 env v
        let mut ok := true
        for c in ifs0 do
          if ok then ok ← isTrue c env (eval c env)
        if ok then
          let x ← eval i1 env
          standAt i1.pos
          let x ← foldedSetIterable i1 env x
          let _ ← runOwn (.compStart (.SetComp elt [⟨t0, i0, ifs0, 0⟩, ⟨t1, i1, ifs1, 0⟩] scope pos) 1 (← holding [x] (pyIter x)) acc env) env
        again (.compLoop (.SetComp elt [⟨t0, i0, ifs0, 0⟩, ⟨t1, i1, ifs1, 0⟩] scope pos) 0 it acc env)) := by rfl
theorem compTurnS_in (elt t0 i0 t1 i1 : Expr) (ifs0 ifs1 : List Expr) (scope : Scope) (pos : Pos) (it acc : Value) (env : Env) :
    compTurn (.SetComp elt [⟨t0, i0, ifs0, 0⟩, ⟨t1, i1, ifs1, 0⟩] scope pos) 1 it acc env = (do
      standAt i1.pos
      match ← pyNext it with
      | none => pure (.done .next)
      | some v =>
        letOwnedTupleGo t1 it v
        assign t1 env v
        let mut ok := true
        for c in ifs1 do
          if ok then ok ← isTrue c env (eval c env)
        if ok then
          (do let v ← eval elt env; standAt elt.pos; let _ ← call (.builtin "set.add") [acc, v])
        again (.compLoop (.SetComp elt [⟨t0, i0, ifs0, 0⟩, ⟨t1, i1, ifs1, 0⟩] scope pos) 1 it acc env)) := by rfl

section
variable {prog : Program} {w : World} {A : Around} {R : Result → Shared → Prop} {s : Shared} {elt t0 i0 t1 i1 : Expr} {ifs0 ifs1 : List Expr} {scope : Scope} {pos : Pos} {it acc : Value} {env : Env}
/-- the loop of the first clause -/
theorem compLoopS_out (hs : ∀ x, foldedSetIterable i1 env x = pure x) (I : Nat → Shared → Prop)
    (turn : ∀ n s, I n s → wpAny (model prog w) A (pyNext it) (fun r s₁ => match r with
      | none => R (.ok .next) s₁
      | some v => wpAny (model prog w) A (letOwnedTupleGo t0 it v) (fun _ s₁' => wpAny (model prog w) A (assign t0 env v) (fun _ s₂ =>
          wpAny (model prog w) A (forIn ifs0 true fun c r => if r = true then do let ok ← isTrue c env (eval c env); pure (ForInStep.yield ok) else pure (ForInStep.yield r)) (fun ok s₃ =>
            if ok = true then wpAny (model prog w) A (eval i1 env) (fun x s₄ => wpAny (model prog w) A (pyIter x) (fun it1 s₅ =>
              codeAny (model prog w) A (.compStart (.SetComp elt [⟨t0, i0, ifs0, 0⟩, ⟨t1, i1, ifs1, 0⟩] scope pos) 1 it1 acc env) (fun r s' => match r with
                | .ok _ => ∃ m, m < n ∧ I m s'
                | .error _ => False) s₅) (notedBy (model prog w) A env fun e s' => R (.error e) s') s₄) (notedBy (model prog w) A env fun e s' => R (.error e) s') s₃
            else ∃ m, m < n ∧ I m s₃) (notedBy (model prog w) A env fun e s' => R (.error e) s') s₂) (notedBy (model prog w) A env fun e s' => R (.error e) s') s₁') (notedBy (model prog w) A env fun e s' => R (.error e) s') s₁) (notedBy (model prog w) A env fun e s' => R (.error e) s') s)
    (n : Nat) (h : I n s) :
    codeAny (model prog w) A (.compLoop (.SetComp elt [⟨t0, i0, ifs0, 0⟩, ⟨t1, i1, ifs1, 0⟩] scope pos) 0 it acc env) R s := by
  refine codeAny_loop rfl I (fun n s hI => ?_) n h
  show wpAny _ A ((compTurn (.SetComp elt [⟨t0, i0, ifs0, 0⟩, ⟨t1, i1, ifs1, 0⟩] scope pos) 0 it acc env).onRaise (fun x => do noteFrame x env; theTreesLotGoes x)) _ _ s
  refine wpAny_noted ?_
  rw [compTurnS_out]
  refine wpAny_bind (wpAny_standAt (wpAny_bind (wpAny_mono (turn n s hI) (fun r s₁ h₁ => ?_) fun _ _ h' => h')))
  cases r with
  | none => exact wpAny_pure h₁
  | some v =>
    refine wpAny_bind (wpAny_mono h₁ (fun _ s₁' h₁' => ?_) fun _ _ h' => h')
    refine wpAny_bind (wpAny_mono h₁' (fun _ s₂ h₂ => wpAny_bind (wpAny_mono h₂ (fun ok s₃ h₃ => ?_) fun _ _ h' => h')) fun _ _ h' => h')
    cases ok with
    | false => exact wpAny_pure ⟨rfl, h₃⟩
    | true =>
      refine wpAny_bind (wpAny_mono h₃ (fun x s₄ h₄ => ?_) fun _ _ h' => h')
      refine wpAny_bind (wpAny_standAt (wpAny_bind (wpAny_of_eq (hs x) (wpAny_bind (wpAny_holding (wpAny_mono h₄ (fun it1 s₅ h₅ => ?_) fun _ _ h' => h'))))))
      refine wpAny_bind (wpAny_runOwn ?_)
      rw [Around.mark_none]
      refine codeAny_mono h₅ fun r s' hr => ?_
      cases r with
      | ok f =>
        first
          | exact wpAny_pure ⟨rfl, hr⟩
          | exact wpAny_bind (wpAny_pure (wpAny_pure ⟨rfl, hr⟩))
      | error e => exact hr.elim
/-- the loop of the second -/
theorem compLoopS_in (I : Nat → Shared → Prop)
    (turn : ∀ n s, I n s → wpAny (model prog w) A (pyNext it) (fun r s₁ => match r with
      | none => R (.ok .next) s₁
      | some v => wpAny (model prog w) A (letOwnedTupleGo t1 it v) (fun _ s₁' => wpAny (model prog w) A (assign t1 env v) (fun _ s₂ =>
          wpAny (model prog w) A (forIn ifs1 true fun c r => if r = true then do let ok ← isTrue c env (eval c env); pure (ForInStep.yield ok) else pure (ForInStep.yield r)) (fun ok s₃ =>
            if ok = true then wpAny (model prog w) A (eval elt env) (fun x s₄ =>
              wpAny (model prog w) A (call (.builtin "set.add") [acc, x]) (fun _ s₅ => ∃ m, m < n ∧ I m s₅) (notedBy (model prog w) A env fun e s' => R (.error e) s') s₄) (notedBy (model prog w) A env fun e s' => R (.error e) s') s₃
            else ∃ m, m < n ∧ I m s₃) (notedBy (model prog w) A env fun e s' => R (.error e) s') s₂) (notedBy (model prog w) A env fun e s' => R (.error e) s') s₁') (notedBy (model prog w) A env fun e s' => R (.error e) s') s₁) (notedBy (model prog w) A env fun e s' => R (.error e) s') s)
    (n : Nat) (h : I n s) :
    codeAny (model prog w) A (.compLoop (.SetComp elt [⟨t0, i0, ifs0, 0⟩, ⟨t1, i1, ifs1, 0⟩] scope pos) 1 it acc env) R s := by
  refine codeAny_loop rfl I (fun n s hI => ?_) n h
  show wpAny _ A ((compTurn (.SetComp elt [⟨t0, i0, ifs0, 0⟩, ⟨t1, i1, ifs1, 0⟩] scope pos) 1 it acc env).onRaise (fun x => do noteFrame x env; theTreesLotGoes x)) _ _ s
  refine wpAny_noted ?_
  rw [compTurnS_in]
  refine wpAny_bind (wpAny_standAt (wpAny_bind (wpAny_mono (turn n s hI) (fun r s₁ h₁ => ?_) fun _ _ h' => h')))
  cases r with
  | none => exact wpAny_pure h₁
  | some v =>
    refine wpAny_bind (wpAny_mono h₁ (fun _ s₁' h₁' => ?_) fun _ _ h' => h')
    refine wpAny_bind (wpAny_mono h₁' (fun _ s₂ h₂ => wpAny_bind (wpAny_mono h₂ (fun ok s₃ h₃ => ?_) fun _ _ h' => h')) fun _ _ h' => h')
    cases ok with
    | false => exact wpAny_pure ⟨rfl, h₃⟩
    | true =>
      exact wpAny_bind (wpAny_bind (wpAny_mono h₃ (fun x s₄ h₄ => wpAny_bind (wpAny_standAt (wpAny_bind (wpAny_mono h₄ (fun _ s₅ h₅ => wpAny_pure (wpAny_pure ⟨rfl, h₅⟩)) fun _ _ h' => h')))) fun _ _ h' => h'))
/-- the second clause's start -/
theorem compStartS_ok (h0 : codeAny (model prog w) A (.compLoop (.SetComp elt [⟨t0, i0, ifs0, 0⟩, ⟨t1, i1, ifs1, 0⟩] scope pos) 1 it acc env) R s)
    (h : wpAny (model prog w) A (pyIter it) (fun it' s' => codeAny (model prog w) A (.compLoop (.SetComp elt [⟨t0, i0, ifs0, 0⟩, ⟨t1, i1, ifs1, 0⟩] scope pos) 1 it' acc env) R s')
      (notedBy (model prog w) A env fun x s' => R (.error x) s') s) :
    codeAny (model prog w) A (.compStart (.SetComp elt [⟨t0, i0, ifs0, 0⟩, ⟨t1, i1, ifs1, 0⟩] scope pos) 1 it acc env) R s := by
  refine codeAny_of_tree ?_
  show wpAny _ _ ((compStart (.SetComp elt [⟨t0, i0, ifs0, 0⟩, ⟨t1, i1, ifs1, 0⟩] scope pos) 1 it acc env).onRaise (fun x => do noteFrame x env; standAt theWindowsPlace)) _ _ s
  refine wpAny_notedAt ?_
  unfold compStart
  show wpAny _ _ (ask >>= _) _ _ s
  refine wpAny_bind (wpAny_askSetting (wpAny_ite ?_))
  split
  · first
      | exact wpAny_bind (wpAny_pure (wpAny_pure (And.intro rfl h0)))
      | exact wpAny_pure (And.intro rfl h0)
  · first
      | exact wpAny_bind (wpAny_rule (wpAny_bind (wpAny_standAt (wpAny_bind (wpAny_mono h (fun it' s' h' => wpAny_pure (And.intro rfl h')) fun _ _ x => x)))))
      | (refine wpAny_bind (wpAny_rule ?_); show wpAny _ _ (standAt i1.pos >>= _) _ _ s; exact wpAny_bind (wpAny_standAt (wpAny_bind (wpAny_mono h (fun it' s' h' => wpAny_pure (And.intro rfl h')) fun _ _ x => x))))
end

section
variable {X : Cx}
theorem addI_ok {pins : List (Addr × Obj)} {σ : L2.St} {H : Hp} {s : Shared} {E : Value → Shared → Prop} {D : Addr} {S : Int → Bool} {n : Nat} {y : Int} {tk : Tok} {Q : Value → Shared → Prop} (I : Inv X pins σ H s) (hD : H D = some (SetO X.w D S n)) (room : n + 1 < scanBound)
    (h : ∀ s', Inv X pins σ (upd H D (SetO X.w D (fun j => S j || decide (j = y)) (if S y = true then n else n + 1))) s' → Q .none s') : wpAny (model X.prog X.w) X.A (call (.builtin "set.add") [.ref D, .int y tk]) Q E s := by
  have R := setO_get I hD
  refine setR_add R room fun h' sb new => ?_
  have he : ∃ u, h'.get? D = some u := by
    have ⟨o, _, _, _, ho, _⟩ := new
    exact ⟨o, ho⟩
  exact h _ (I.write (e := D) (t' := s.toks + 1) (by rw [hD]; trivial) (.inl rfl) (fun b u hb hu => (sb.2 b hb).trans hu) he (setO_new new))
/-- {elt for tg in iter for tg1 in iter1}, ints -/
def tSc2 (w : World) (wi : TI) (g : TG) (tt : TT) (wi1 : TI) (g1 : TG) (tt1 : TT) (te : TE) (vs vs1 : List Nat) : TE := fun σ H Q => wi σ H fun J H1 => ∀ D, H1 D = none → ∃ W : Nat → Nat → Hp → Prop, (∃ m, W 0 m (upd H1 D (SetO w D (fun _ => false) 0))) ∧ ∀ i m H, W i m H →
  (J.stop i H ∧ Q (.ref D) H) ∨ (J.go i H ∧ ∃ Nx : Hp → Prop, (∀ H', Nx H' → ∃ m', m' < m ∧ W (i + 1) m' H') ∧ ∀ x H', J.yld i H x H' → g x (wipe σ vs) H' fun σ2 H2 => wipe σ2 vs = wipe σ vs ∧ tt σ2 H2 fun b H3 =>
    if b = true then wi1 σ2 H3 fun J1 H4 => ∃ W1 : Nat → Nat → Hp → Prop, (∃ m, W1 0 m H4) ∧ ∀ j k H, W1 j k H →
      (J1.stop j H ∧ Nx H) ∨ (J1.go j H ∧ ∃ Nx1 : Hp → Prop, (∀ H', Nx1 H' → ∃ k', k' < k ∧ W1 (j + 1) k' H') ∧ ∀ x H', J1.yld j H x H' → g1 x (wipe σ2 vs1) H' fun σ3 H5 => wipe σ3 vs1 = wipe σ2 vs1 ∧ tt1 σ3 H5 fun b H6 =>
        if b = true then te σ3 H6 fun y H7 => ∃ (c : Int) (S : Int → Bool) (n : Nat), y = .int c ∧ H7 D = some (SetO w D S n) ∧ n + 1 < scanBound ∧ Nx1 (upd H7 D (SetO w D (fun j => S j || decide (j = c)) (if S c = true then n else n + 1))) else Nx1 H6)
    else Nx H3)
theorem sc2_core {pins : List (Addr × Obj)} {s : Shared} {σ : L2.St} {H : Hp} {Q : VK} {elt tg iter tg1 iter1 : Expr} {ifs ifs1 : List Expr} {scope : Scope} {own : List (PySem.Str × Nat)} {vs1 : List Nat} {pos pos' : Pos} {wi wi1 : TI} {g g1 : TG} {tt tt1 : TT} {te : TE} {use : Option (Value → Sem Unit)} {Qf : Value → Shared → Prop}
    (hc : X.calm = true) (hN : X.N.Nodup) (I : Inv X pins σ H s) (hi : PI X tg iter wi) (ok : BlkOk X.N X.env.scope scope own) (hv : ∀ i ∈ vs1, i ∈ own.map (·.2))
    (hg : ∀ (s : Shared) (H : Hp) (C : Addr) (cl : List (PySem.Str × Addr)) (fp : List Addr), PG (X.blk s H scope (compEnvC scope cl C X.env) fp) tg g) (ht : ∀ (s : Shared) (H : Hp) (C : Addr) (cl : List (PySem.Str × Addr)) (fp : List Addr), PTs (X.blk s H scope (compEnvC scope cl C X.env) fp) ifs tt)
    (he : ∀ (s : Shared) (H : Hp) (C : Addr) (cl : List (PySem.Str × Addr)) (fp : List Addr), PE (X.blk s H scope (compEnvC scope cl C X.env) fp) elt te) (hs : ∀ x, foldedSetIterable iter X.env x = pure x)
    (hi1 : ∀ (s : Shared) (H : Hp) (C : Addr) (cl : List (PySem.Str × Addr)) (fp : List Addr), PI (X.blk s H scope (compEnvC scope cl C X.env) fp) tg1 iter1 wi1)
    (hg1 : ∀ (s : Shared) (H : Hp) (C : Addr) (cl : List (PySem.Str × Addr)) (fp : List Addr), PG (X.blk s H scope (compEnvC scope cl C X.env) fp) tg1 g1)
    (ht1 : ∀ (s : Shared) (H : Hp) (C : Addr) (cl : List (PySem.Str × Addr)) (fp : List Addr), PTs (X.blk s H scope (compEnvC scope cl C X.env) fp) ifs1 tt1)
    (hs1 : ∀ env x, foldedSetIterable iter1 env x = pure x)
    (h : tSc2 X.w wi g tt wi1 g1 tt1 te (own.map (·.2)) vs1 σ H Q)
    (hRR : ∀ D C s' m H', Inv X pins σ H' s' → Q (.ref D) H' → s'.heap.Ns C m → FpOk X pins H' C → compPost (model X.prog X.w) X.A X.xe use Qf (.ref D) C (.ok .next) s') :
    wpAny (model X.prog X.w) X.A (comprehension (.SetComp elt [⟨tg, iter, ifs, 0⟩, ⟨tg1, iter1, ifs1, 0⟩] scope pos) scope X.env pos' (newSet (.type "set")) false (eval iter X.env) use) Qf X.xe s := by
  have hfree : ∀ y ∈ scope.names, y.2 = .free → ∃ c, X.env.cells.lookup y.1 = some c := fun y hy e => by
    rcases ok.free y hy e with k | k
    · exact I.ok.has _ (.inl k)
    · exact I.ok.has _ (.inr k)
  refine wpAny_comprehension_free (use := use) rfl hs (closure_ok hfree) ok.kind (fun y hy e => by rw [ok.uniq y hy, e])
    (thn (hi.run pins s σ H _ I h) fun xv s1 hx => thn hx fun itv s2 h2 => ?_)
  obtain ⟨it, fp, tn, J, H2, e, I2, T, st2, f2, q⟩ := h2
  subst e
  refine PpSet.newSet_ok (newEnv_comp ?_)
  generalize hD : s2.heap.objs.size = D
  have hDn : H2 D = none := I2.hok.fresh (Nat.le_of_eq hD)
  obtain ⟨W, ⟨m0, w0⟩, turn⟩ := q D hDn
  -- the new list
  generalize hs3 : ({ s2 with heap := s2.heap.push { cls := .type "set", dict := none, data := .set #[] 0 (.fresh 0 0 (!X.w.params.followText "set-order")) } } : Shared) = s3
  have I3 : Inv X pins σ (upd H2 D (SetO X.w D (fun _ => false) 0)) s3 := by
    rw [← hs3]
    refine I2.laid (t' := s2.toks) (fun b o e => Heap.get?_push_of_some _ e) (Nat.le_of_eq hD) ?_
    rw [← hD]
    exact setO_new (setR_fresh X.w)
  have h3 : s3.heap = s2.heap.push { cls := .type "set", dict := none, data := .set #[] 0 (.fresh 0 0 (!X.w.params.followText "set-order")) } := by rw [← hs3]
  have sz : ∀ b ∈ fp, b < s2.heap.objs.size := fun b hb => by
    obtain ⟨o, e, _⟩ := T.obj _ _ st2 b hb
    exact Heap.lt_size e
  have f3 : ∀ b ∈ fp, FpOk X pins (upd H2 D (SetO X.w D (fun _ => false) 0)) b ∧ b < s3.heap.objs.size := fun b hb => by
    have hlt := sz b hb
    refine ⟨⟨?_, (f2 b hb).2⟩, by rw [h3, Heap.size_push]; exact Nat.lt_succ_of_lt hlt⟩
    rw [upd_ne (by rw [← hD]; exact Nat.ne_of_lt hlt)]
    exact (f2 b hb).1
  have st3 : tn 0 s3.heap := T.keep _ _ _ st2 fun b _ o e => by rw [h3]; exact Heap.get?_push_of_some _ e
  have I4 := block_start I3 ok hN f3
  have pg := hg s3 (upd H2 D (SetO X.w D (fun _ => false) 0)) s3.heap.objs.size (cellsFrom (s3.heap.objs.size + 1) scope.names (cloFrom X.env.cells scope.names [])) fp
  have pt := ht s3 (upd H2 D (SetO X.w D (fun _ => false) 0)) s3.heap.objs.size (cellsFrom (s3.heap.objs.size + 1) scope.names (cloFrom X.env.cells scope.names [])) fp
  have pe := he s3 (upd H2 D (SetO X.w D (fun _ => false) 0)) s3.heap.objs.size (cellsFrom (s3.heap.objs.size + 1) scope.names (cloFrom X.env.cells scope.names [])) fp
  have pi1 := hi1 s3 (upd H2 D (SetO X.w D (fun _ => false) 0)) s3.heap.objs.size (cellsFrom (s3.heap.objs.size + 1) scope.names (cloFrom X.env.cells scope.names [])) fp
  have pg1 := hg1 s3 (upd H2 D (SetO X.w D (fun _ => false) 0)) s3.heap.objs.size (cellsFrom (s3.heap.objs.size + 1) scope.names (cloFrom X.env.cells scope.names [])) fp
  have pt1 := ht1 s3 (upd H2 D (SetO X.w D (fun _ => false) 0)) s3.heap.objs.size (cellsFrom (s3.heap.objs.size + 1) scope.names (cloFrom X.env.cells scope.names [])) fp
  show codeAny _ _ (.compStart (.SetComp elt [⟨tg, iter, ifs, 0⟩, ⟨tg1, iter1, ifs1, 0⟩] scope pos) 0 (.ref it) (.ref D) (compEnvC scope (cellsFrom (s3.heap.objs.size + 1) scope.names (cloFrom X.env.cells scope.names [])) s3.heap.objs.size X.env)) (compPost (model X.prog X.w) X.A X.xe use Qf (.ref D) s3.heap.objs.size) { s3 with heap := pushCells (s3.heap.push { cls := .type "dict", data := .dict #[] }) scope.names }
  have nfp : ∀ b ∈ fp, (upd H2 D (SetO X.w D (fun _ => false) 0)) b = none := fun b hb => (f3 b hb).1.1
  generalize hce : compEnvC scope (cellsFrom (s3.heap.objs.size + 1) scope.names (cloFrom X.env.cells scope.names [])) s3.heap.objs.size X.env = ce at I4 pg pt pe pi1 pg1 pt1 ⊢
  have cL : ce.locals = s3.heap.objs.size := by subst hce; rfl
  generalize hH3 : upd H2 D (SetO X.w D (fun _ => false) 0) = H3 at I3 I4 pg pt pe pi1 pg1 pt1 w0 nfp f3
  generalize hs4 : ({ s3 with heap := pushCells (s3.heap.push { cls := .type "dict", data := .dict #[] }) scope.names } : Shared) = s4 at I4 ⊢
  have st4 : tn 0 s4.heap := T.keep _ _ _ st3 fun b _ o e => by rw [← hs4]; exact pushCells_keeps _ _ _ _ (Heap.get?_push_of_some _ e)
  have stat : ∀ {σ' : L2.St} {H' : Hp} {s' : Shared}, Inv (X.blk s3 H3 scope ce fp) [] σ' H' s' → (∀ b ∈ fp, H' b = none) → ∀ b ∈ fp, FpOk (X.blk s3 H3 scope ce fp) [] H' b := fun {σ' H' s'} I' hn b hb =>
    ⟨hn b hb, (I'.ok.exf b hb).1, I'.ok.exfs b hb, .inl hb, fun x c e => (I'.ok.exf b hb).2 x c e, fun p hp => absurd (show p ∈ ([] : List (Addr × Obj)) ++ [] from hp) (by simp)⟩
  have loop : codeAny (model X.prog X.w) X.A (.compLoop (.SetComp elt [⟨tg, iter, ifs, 0⟩, ⟨tg1, iter1, ifs1, 0⟩] scope pos) 0 (.ref it) (.ref D) ce) (compPost (model X.prog X.w) X.A X.xe use Qf (.ref D) s3.heap.objs.size) s4 := by
    refine compLoopS_out (hs1 ce) (fun n s' => ∃ i H', Inv (X.blk s3 H3 scope ce fp) [] (wipe σ (own.map (·.2))) H' s' ∧ tn i s'.heap ∧ (∀ b ∈ fp, H' b = none) ∧ W i n H') ?_ m0 ⟨0, H3, I4, st4, nfp, w0⟩
    rintro n s5 ⟨i, H5, I5, st5, n5, w5⟩
    rcases turn i n H5 w5 with ⟨stop, qq⟩ | ⟨go, Nx, hNx, step⟩
    · have td := T.done (X.blk s3 H3 scope ce fp) rfl rfl rfl hc i [] s5 _ H5 (fun _ _ => False) I5 (stat I5 n5) st5 stop
      refine thnF td fun r s6 ⟨hr, I6⟩ => ?_
      subst hr
      -- back in the def's context
      have I7 : Inv X pins σ H5 s6 := I3.call' (ch := fp) I6.os I6.base I6.hok I6.bare fun b hb => ⟨(f3 b hb).1.2.2.2.1, (f3 b hb).1.2.1, (f3 b hb).1.2.2.2.2.1, (f3 b hb).1.2.2.2.2.2⟩
      have nC : H5 s3.heap.objs.size = none := by
        have z : H5 ce.locals = none := I6.free
        rw [cL] at z
        exact z
      obtain ⟨m, hn, _⟩ := I6.loc
      have hn : s6.heap.Ns ce.locals m := hn
      rw [cL] at hn
      exact hRR D s3.heap.objs.size s6 m H5 I7 qq hn (I3.fpOk (Nat.le_refl _) nC)
    · have ti := T.item (X.blk s3 H3 scope ce fp) rfl rfl rfl hc i [] s5 _ H5 (fun _ _ => False) I5 (stat I5 n5) st5 go
      refine thnF ti fun r s6 ⟨u, hr, h6⟩ => ?_
      subst hr
      refine thnF h6 fun _ s7 ⟨x, H7, I7, r7, y7, st7, n7⟩ => ?_
      have I7' := I7.pinned (stat I7 n7) (T.obj _ _ st7)
      refine thnF (pg.run _ s7 _ H7 x u _ I7' r7 (step x H7 y7)) fun _ s8 ⟨σ8, H8, I8, hw8, q8⟩ => ?_
      refine thnF (pt.run _ s8 σ8 H8 _ I8 q8) fun b s9 ⟨H9, I9, q9⟩ => ?_
      -- the turn's end, from any slots that know what the block knew at its start
      have fin : ∀ {σ9 : L2.St} {s' : Shared} {H' : Hp}, Inv (X.blk s3 H3 scope ce fp) ([] ++ pinsAt fp s7.heap) σ9 H' s' → (wipe σ (own.map (·.2))).length = σ9.length → (∀ (j : Nat) v, (wipe σ (own.map (·.2)))[j]? = some (some v) → σ9[j]? = some (some v)) → Nx H' →
          ∃ m, m < n ∧ ∃ i H', Inv (X.blk s3 H3 scope ce fp) [] (wipe σ (own.map (·.2))) H' s' ∧ tn i s'.heap ∧ (∀ b ∈ fp, H' b = none) ∧ W i m H' := fun {σ9 s' H'} I' hl hk nx => by
        obtain ⟨m', hm, w'⟩ := hNx H' nx
        have pin' : ∀ b ∈ fp, ∀ o, s7.heap.get? b = some o → s'.heap.get? b = some o ∧ H' b = none := fun b hb o e =>
          let z := I'.pin (b, o) (List.mem_append_right _ (List.mem_append_right _ (mem_pinsAt hb e)))
          ⟨z.1, z.2.1⟩
        refine ⟨m', hm, i + 1, H', (I'.unpinned (pins := [])).weak hl hk, T.keep _ _ _ st7 fun b hb o e => (pin' b hb o e).1, fun b hb => ?_, w'⟩
        obtain ⟨o, e, _⟩ := T.obj _ _ st7 b hb
        exact (pin' b hb o e).2
      have hl8 : (wipe σ (own.map (·.2))).length = σ8.length := by rw [← hw8, wipe_length]
      have hk8 : ∀ (j : Nat) v, (wipe σ (own.map (·.2)))[j]? = some (some v) → σ8[j]? = some (some v) := fun j v e => by
        rw [← hw8] at e
        exact (wipe_some e).1
      have hk9 : ∀ (j : Nat) v, (wipe σ (own.map (·.2)))[j]? = some (some v) → (wipe σ8 vs1)[j]? = some (some v) := fun j v e => by
        rw [← hw8] at e
        obtain ⟨e1, e2⟩ := wipe_some e
        rw [wipe_out fun z => e2 (hv j z)]
        exact e1
      cases b with
      | false =>
        simp only [Bool.false_eq_true, if_false] at q9 ⊢
        exact fin I9 hl8 hk8 q9
      | true =>
        simp only [if_true] at q9 ⊢
        refine thnF (pi1.run _ s9 σ8 H9 _ I9 q9) fun xv s10 hx => thnF hx fun itv s11 h11 => ?_
        obtain ⟨it1, fp1, tn1, J1, H11, e1, I11, T1, st11, f11, W1, ⟨m1, w1⟩, turn1⟩ := h11
        subst e1
        -- the inner loop
        have stat1 : ∀ {H' : Hp}, (∀ b ∈ fp1, H' b = none) → ∀ b ∈ fp1, FpOk (X.blk s3 H3 scope ce fp) ([] ++ pinsAt fp s7.heap) H' b := fun hn b hb => ⟨hn b hb, (f11 b hb).2⟩
        have loop1 : codeAny (model X.prog X.w) X.A (.compLoop (.SetComp elt [⟨tg, iter, ifs, 0⟩, ⟨tg1, iter1, ifs1, 0⟩] scope pos) 1 (.ref it1) (.ref D) ce)
            (fun r s' => match r with
              | .ok _ => ∃ m, m < n ∧ ∃ i H', Inv (X.blk s3 H3 scope ce fp) [] (wipe σ (own.map (·.2))) H' s' ∧ tn i s'.heap ∧ (∀ b ∈ fp, H' b = none) ∧ W i m H'
              | .error _ => False) s11 := by
          refine compLoopS_in (fun k s' => ∃ j H', Inv (X.blk s3 H3 scope ce fp) ([] ++ pinsAt fp s7.heap) (wipe σ8 vs1) H' s' ∧ tn1 j s'.heap ∧ (∀ b ∈ fp1, H' b = none) ∧ W1 j k H') ?_ m1 ⟨0, H11, I11.weak (wipe_length _ _) (fun j v e => (wipe_some e).1), st11, fun b hb => (f11 b hb).1, w1⟩
          rintro k s12 ⟨j, H12, I12, st12, n12, w12⟩
          rcases turn1 j k H12 w12 with ⟨stop1, nx1⟩ | ⟨go1, Nx1, hNx1, step1⟩
          · refine thnF (T1.done (X.blk s3 H3 scope ce fp) rfl rfl rfl hc j _ s12 (wipe σ8 vs1) H12 (fun _ _ => False) I12 (stat1 n12) st12 stop1) fun r s13 ⟨hr, I13⟩ => ?_
            subst hr
            exact fin I13 (hl8.trans (wipe_length σ8 vs1).symm) hk9 nx1
          · refine thnF (T1.item (X.blk s3 H3 scope ce fp) rfl rfl rfl hc j _ s12 (wipe σ8 vs1) H12 (fun _ _ => False) I12 (stat1 n12) st12 go1) fun r s13 ⟨u1, hr, h13⟩ => ?_
            subst hr
            refine thnF h13 fun _ s14 ⟨x1, H14, I14, r14, y14, st14, n14⟩ => ?_
            have I14' := I14.pinned (stat1 n14) (T1.obj _ _ st14)
            refine thnF (pg1.run _ s14 (wipe σ8 vs1) H14 x1 u1 _ I14' r14 (step1 x1 H14 y14)) fun _ s15 ⟨σ15, H15, I15, hw15, q15⟩ => ?_
            refine thnF (pt1.run _ s15 σ15 H15 _ I15 q15) fun b1 s16 ⟨H16, I16, q16⟩ => ?_
            have fin1 : ∀ {s' : Shared} {H' : Hp}, Inv (X.blk s3 H3 scope ce fp) (([] ++ pinsAt fp s7.heap) ++ pinsAt fp1 s14.heap) σ15 H' s' → Nx1 H' → ∃ m, m < k ∧ ∃ j H', Inv (X.blk s3 H3 scope ce fp) ([] ++ pinsAt fp s7.heap) (wipe σ8 vs1) H' s' ∧ tn1 j s'.heap ∧ (∀ b ∈ fp1, H' b = none) ∧ W1 j m H' := fun {s' H'} I' nx => by
              obtain ⟨m', hm, w'⟩ := hNx1 H' nx
              have pin' : ∀ b ∈ fp1, ∀ o, s14.heap.get? b = some o → s'.heap.get? b = some o ∧ H' b = none := fun b hb o e =>
                let z := I'.pin (b, o) (List.mem_append_right _ (List.mem_append_right _ (mem_pinsAt hb e)))
                ⟨z.1, z.2.1⟩
              refine ⟨m', hm, j + 1, H', I'.unpinned.weak (by rw [← hw15, wipe_length]) (fun j v e => by rw [← hw15] at e; exact (wipe_some e).1), T1.keep _ _ _ st14 fun b hb o e => (pin' b hb o e).1, fun b hb => ?_, w'⟩
              obtain ⟨o, e, _⟩ := T1.obj _ _ st14 b hb
              exact (pin' b hb o e).2
            cases b1 with
            | false =>
              simp only [Bool.false_eq_true, if_false] at q16 ⊢
              exact fin1 I16 q16
            | true =>
              simp only [if_true] at q16 ⊢
              refine thnF (pe.run _ s16 σ15 H16 _ I16 q16) fun z s17 ⟨yv, H17, I17, r17, cv, S0, n0, ey, hD17, hz17, nx⟩ => ?_
              subst ey
              obtain ⟨tk17, rfl⟩ := r17
              exact addI_ok (X := X.blk s3 H3 scope ce fp) I17 hD17 hz17 fun s18 I18 => fin1 I18 nx
        exact compStartS_ok loop1 (T1.self X.A 0 _ _ _ st11 loop1)
  exact PpSet.codeAny_compStart_set loop (T.self X.A 0 _ _ _ st4 loop)
/-- as a value -/
theorem pe_sc2 {elt tg iter tg1 iter1 : Expr} {ifs ifs1 : List Expr} {scope : Scope} {own : List (PySem.Str × Nat)} {vs1 : List Nat} {pos : Pos} {wi wi1 : TI} {g g1 : TG} {tt tt1 : TT} {te : TE} (hc : X.calm = true) (hN : X.N.Nodup) (hi : PI X tg iter wi) (ok : BlkOk X.N X.env.scope scope own) (hv : ∀ i ∈ vs1, i ∈ own.map (·.2))
    (hg : ∀ (s : Shared) (H : Hp) (C : Addr) (cl : List (PySem.Str × Addr)) (fp : List Addr), PG (X.blk s H scope (compEnvC scope cl C X.env) fp) tg g) (ht : ∀ (s : Shared) (H : Hp) (C : Addr) (cl : List (PySem.Str × Addr)) (fp : List Addr), PTs (X.blk s H scope (compEnvC scope cl C X.env) fp) ifs tt)
    (hi1 : ∀ (s : Shared) (H : Hp) (C : Addr) (cl : List (PySem.Str × Addr)) (fp : List Addr), PI (X.blk s H scope (compEnvC scope cl C X.env) fp) tg1 iter1 wi1)
    (hg1 : ∀ (s : Shared) (H : Hp) (C : Addr) (cl : List (PySem.Str × Addr)) (fp : List Addr), PG (X.blk s H scope (compEnvC scope cl C X.env) fp) tg1 g1) (ht1 : ∀ (s : Shared) (H : Hp) (C : Addr) (cl : List (PySem.Str × Addr)) (fp : List Addr), PTs (X.blk s H scope (compEnvC scope cl C X.env) fp) ifs1 tt1)
    (he : ∀ (s : Shared) (H : Hp) (C : Addr) (cl : List (PySem.Str × Addr)) (fp : List Addr), PE (X.blk s H scope (compEnvC scope cl C X.env) fp) elt te) (hs : ∀ x, foldedSetIterable iter X.env x = pure x := by intro _; rfl) (hs1 : ∀ env x, foldedSetIterable iter1 env x = pure x := by intro _ _; rfl) :
    PE X (.SetComp elt [⟨tg, iter, ifs, 0⟩, ⟨tg1, iter1, ifs1, 0⟩] scope pos) (tSc2 X.w wi g tt wi1 g1 tt1 te (own.map (·.2)) vs1) := by
  refine ⟨fun pins s σ H Q I h => ?_⟩
  rw [PpSet.eval_SetComp]
  refine sc2_core hc hN I hi ok hv hg ht he hs hi1 hg1 ht1 hs1 h fun D C s' m H' I' q hn f => ⟨m, hn, fun h'' sb => ?_⟩
  obtain ⟨f0, f1, f2, f3, f4, f5⟩ := f
  exact ⟨.ref D, H', I'.turned (t' := s'.toks) (fun b o hb e => (sb.2 b hb).trans e) f0 f1 f3 f4 f5, rfl, q⟩
end
end S1

/-! K11: set(list of ints); small rules -/
namespace S1
open PySem PySem.Spec L2 PyProof.Rows
section
variable {P : Program} {w : World} {A : Around} {E : Value → Shared → Prop} {s : Shared}
set_option maxRecDepth 100000 in
set_option maxHeartbeats 3200000 in
theorem call_set_lstI {l : Addr} {items : Array Value} (ns : List Int) {Q : Value → Shared → Prop} (hh : A.handled = none) (hl : s.heap.IsList l items) (hit : IntsAre items.toList ns) (hb : ns.length + 1 < scanBound)
    (h : ∀ (h' : Heap) (tk c : Nat), SetR w h' s.heap.objs.size (fun j => decide (j ∈ ns)) c → c ≤ ns.length → (∀ b o, s.heap.get? b = some o → h'.get? b = some o) → Q (.ref s.heap.objs.size) { s with heap := h', toks := tk }) :
    wpAny (model P w) A (call (.type "set") [.ref l]) Q E s := by
  have hisz : items.size = ns.length := by
    have q := IntsAre.length hit
    rw [Array.length_toList] at q
    exact q
  obtain ⟨c, tl, hmro⟩ := PySem.F.called_set.mro
  have hmade := PySem.F.called_set.made
  have hsub := PySem.F.called_set.sub
  refine wpAny_call (codeAny_of_tree ?_)
  show wpAny _ _ (callAny (.type "set") _) _ _ _
  refine wpAny_pure ⟨Code.quiet_builtin _ (by decide +kernel), codeAny_builtin PySem.F.entry_type_call ?_⟩
  rw [Around.under_plain (weight_type_call_type "set" [.ref l] []) rfl]
  have h1 := PySem.F.called_set.notType
  have h2 := PySem.F.called_set.canCreate
  have hct := PySem.F.typeCall_set_1 (.ref l)
  repeat (any_goals (first | assumption | wp_step))

  refine codeAny_mono (code_set_led1 (.ref l) (E := E) (Q₁ := fun obj s₁ => obj = .ref s.heap.objs.size ∧ s₁ = { s with heap := s.heap.push { cls := .type "set", dict := none, data := .set #[] 0 (.fresh 0 0 (!w.params.followText "set-order")) } }) ⟨rfl, rfl⟩) fun r s₁ hr => ?_
  cases r with
  | error e => exact hr
  | ok fl =>
    cases fl with
    | ret obj =>
      obtain ⟨rfl, rfl⟩ := hr
      have hS : (s.heap.push { cls := .type "set", dict := none, data := .set #[] 0 (.fresh 0 0 (!w.params.followText "set-order")) }).get? s.heap.objs.size = some { cls := .type "set", dict := none, data := .set #[] 0 (.fresh 0 0 (!w.params.followText "set-order")) } := Heap.get?_push_size _ rfl
      have hT : Shared.TypeIs { s with heap := s.heap.push { cls := .type "set", dict := none, data := .set #[] 0 (.fresh 0 0 (!w.params.followText "set-order")) } } (.ref s.heap.objs.size) "set" := ⟨_, hS, rfl⟩
      have hli := PySem.F.called_set.init.lookup
      have hbi := PySem.F.called_set.init.bind (.ref s.heap.objs.size)
      repeat (any_goals (first | assumption | wp_step))

      refine codeAny_mono (codeAny_call_builtin (R := wants (fun r s₂ => r = .none ∧ ∃ h' tk c, s₂ = { s with heap := h', toks := tk } ∧ SetR w h' s.heap.objs.size (fun j => decide (j ∈ ns)) c ∧ c ≤ ns.length ∧
          (∀ b o, s.heap.get? b = some o → h'.get? b = some o)) E) PySem.F.called_set.init.plain PySem.F.entry_set_init (check_set_init_1 hT ?_)) fun r₂ s₂ hr₂ => ?_
      · obtain ⟨ol, hol, hcl, nl, hdl⟩ := hl
        obtain ⟨ocls, odict, odata, oslots⟩ := ol
        simp only at hcl hdl
        subst hcl; subst hdl
        have hol' : (s.heap.push { cls := .type "set", dict := none, data := .set #[] 0 (.fresh 0 0 (!w.params.followText "set-order")) }).get? l = some { cls := .type "list", dict := odict, data := .seq items nl, slots := oslots } := Heap.get?_push_of_some _ hol
        have hsls := PySem.F.sub_list_set
        have hslf := PySem.F.sub_list_frozenset
        have hne : (Value.type "list" == Value.type "dict") = false := by decide
        have hl1 : (s.heap.push { cls := .type "set", dict := none, data := .set #[] 0 (.fresh 0 0 (!w.params.followText "set-order")) }).IsList l items := ⟨_, hol', rfl, nl, rfl⟩
        unfold Builtin.«set.__init__» noKeywords Builtin.Frozenset.updateFrom
        generalize hPI : pyIter = PI
        wp_walk
        subst hPI

        refine wpAny_pyIter_list hl1 ?_
        refine wpAny_bind (wpAny_runValue ?_)
        have hlS : l < s.heap.objs.size := Heap.lt_size hol
        have hh3 : A.in1.in1.in1.handled = none := by simp [hh]
        have hz1 : (s.heap.push { cls := .type "set", dict := none, data := .set #[] 0 (.fresh 0 0 (!w.params.followText "set-order")) }).objs.size = s.heap.objs.size + 1 := Heap.size_push ..
        have hneI : l ≠ (s.heap.push { cls := .type "set", dict := none, data := .set #[] 0 (.fresh 0 0 (!w.params.followText "set-order")) }).objs.size := by
          rw [Heap.size_push]; exact Nat.ne_of_lt (Nat.lt_succ_of_lt hlS)
        have hSf : s.heap.objs.size ∉ [(s.heap.push { cls := .type "set", dict := none, data := .set #[] 0 (.fresh 0 0 (!w.params.followText "set-order")) }).objs.size, l] := by
          rw [Heap.size_push]; simp only [List.mem_cons, List.mem_singleton, List.not_mem_nil, or_false, not_or]
          exact ⟨Nat.ne_of_lt (Nat.lt_succ_self _), Nat.ne_of_gt hlS⟩
        have hval : ∀ (i : Nat) (v : Value), items[i]? = some v → ∃ k t, ns[i]? = some k ∧ v = .int k t := fun i v hv => by
          have hi : i < ns.length := by rw [← hisz]; exact (Array.getElem?_eq_some_iff.mp hv).1
          obtain ⟨t, e⟩ := PyProof.Rows.IntsAre.int_at hit i v (by rw [Array.getElem?_toList]; exact hv)
          refine ⟨ns[i], t, List.getElem?_eq_getElem hi, ?_⟩
          rw [e, List.getD_eq_getElem?_getD, List.getElem?_eq_getElem hi] <;> rfl
        refine set_update_ints ((Walks.list hh3 _ l hneI items).toS) s.heap.objs.size
          hSf ns hisz hb hval (items.size - 0) 0 _ (by omega) (Nat.zero_le _)
          ⟨⟨_, Heap.get?_push_size _ rfl, rfl, rfl⟩, (hl1.push _)⟩ ?hS0 ?hR
        case hS0 =>
          have hget : ((s.heap.push { cls := .type "set", dict := none, data := .set #[] 0 (.fresh 0 0 (!w.params.followText "set-order")) }).push { cls := .type "list_iterator", data := .fields #[.ref l, .int 0 0] }).get? s.heap.objs.size
              = some { cls := .type "set", dict := none, data := .set #[] 0 (.fresh 0 0 (!w.params.followText "set-order")) } := Heap.get?_push_of_some _ hS
          exact ⟨0, Nat.le_refl 0, setR_new_at hget⟩
        case hR =>
          intro s' c' hm hc' hS'
          obtain ⟨h', g2, d', tk', os'⟩ := s'
          have eg : g2 = s.gens := hm.gens
          have ed : d' = s.drawn := hm.drawn
          have eo : os' = s.os := hm.os
          subst eg; subst ed; subst eo
          show wpAny _ _ _ _ _ _
          refine wpAny_pure ?_
          show wpAny _ _ (ret Value.none) _ _ _
          rw [hisz] at hc'
          refine wpAny_pure ⟨rfl, h', tk', c', rfl, hS', hc', fun b o e => ?_⟩
          have hb0 : b < s.heap.objs.size := Heap.lt_size e
          have hb1 : b ≠ s.heap.objs.size := Nat.ne_of_lt hb0
          have hb2 : b ≠ (s.heap.push { cls := .type "set", dict := none, data := .set #[] 0 (.fresh 0 0 (!w.params.followText "set-order")) }).objs.size := by
            rw [Heap.size_push]; exact Nat.ne_of_lt (Nat.lt_succ_of_lt hb0)
          exact hm.heap b o (by simp only [List.mem_cons, List.mem_singleton, List.not_mem_nil, or_false, not_or]; exact ⟨hb1, hb2⟩) (Heap.get?_push_of_some _ (Heap.get?_push_of_some _ e))

      · cases r₂ with
        | error e => exact hr₂
        | ok fl₂ =>
          cases fl₂ with
          | ret r =>
            obtain ⟨rfl, h', tk, c', rfl, hS', hc', hk'⟩ := hr₂
            repeat (any_goals (first | assumption | wp_step))
            exact h _ _ _ hS' hc' hk'
          | _ => exact hr₂.elim
    | _ => exact hr.elim

end

/-! ### rules -/
section
variable {X : Cx}
theorem intsOf : ∀ {ns : List Int} {us : List Value}, Vals (ns.map V.int) us → IntsAre us ns
  | [], _, r => by cases r; exact .nil
  | n :: ns, _, r => by
    cases r with
    | cons a b =>
      obtain ⟨t, rfl⟩ := a
      exact .cons n t (intsOf b)
/-- set(list of ints) -/
theorem cr_setI (hc : X.calm = true) : CallR X (.type "set") (fun xs H Q => ∃ (l : Addr) (ns : List Int), xs = [V.ref l] ∧ SqL X.K H l (ns.map V.int) ∧ ns.length + 1 < scanBound ∧ ∀ p c, H p = none → c ≤ ns.length → Q (.ref p) (upd H p (SetO X.w p (fun j => decide (j ∈ ns)) c))) := by
  intro pins s σ H xs us Q I r h
  obtain ⟨l, ns, rfl, hl, hb, q⟩ := h
  obtain ⟨u, rfl, rx⟩ := r.one
  cases rx
  obtain ⟨its, rv, pl, hz⟩ := I.list hl
  refine call_set_lstI ns (I.ok.hd hc) pl.isList (intsOf rv) hb fun h' tk c R hcl hk => ?_
  exact ⟨.ref s.heap.objs.size, upd H s.heap.objs.size (SetO X.w s.heap.objs.size (fun j => decide (j ∈ ns)) c), I.laid (t' := tk) hk (Nat.le_refl _) (setO_new R), rfl, q _ _ (I.hok.fresh (Nat.le_refl _)) hcl⟩

/-! deep in -/
def rInT (K : PySem.W.Frag) (neg : Bool) : R2 := fun x y H Q => ∃ a vs ks k, y = .ref a ∧ SqT K H a vs ∧ NKs H ks vs ∧ NK H k x ∧ k.depth ≤ 8 ∧ Q (.bl (if neg then !decide (k ∈ ks) else decide (k ∈ ks))) H
noncomputable def keyEq (h : Heap) (k : NestedKey) (u : Value) : Bool := @decide (NestedIs h k u) (Classical.propDecidable _)
theorem keyEq_of {h : Heap} {k l : NestedKey} {u : Value} (x : NestedIs h l u) : keyEq h k u = NestedKey.beq l k := by
  unfold keyEq
  rw [← NestedKey.decide_eq]
  by_cases q : l = k
  · subst q
    rw [decide_eq_true (rfl : l = l)]
    exact @decide_eq_true _ (Classical.propDecidable _) x
  · rw [decide_eq_false q]
    exact @decide_eq_false _ (Classical.propDecidable _) fun y => q (NestedIs.inj _ _ _ x y)
theorem any_in {P : Program} {w : World} {H : Hp} {h : Heap} (ok : HOk P w H h) {k : NestedKey} : ∀ {ks : List NestedKey} {vs : List V} {us : List Value}, NKs H ks vs → Vals vs us → us.any (keyEq h k) = decide (k ∈ ks)
  | [], vs, us, hk, r => by cases hk; cases r; simp
  | l :: ks, vs, us, hk, r => by
    obtain ⟨v, t, rfl, hv, ht⟩ := hk
    cases r with
    | cons r1 r2 =>
      have ih := any_in ok (k := k) ht r2
      rw [List.any_cons, ih, keyEq_of (NK.is ok l v _ hv r1), ← NestedKey.decide_eq]
      by_cases q : l = k
      · subst q; simp
      · have q' : ¬ k = l := fun z => q z.symm
        simp [q, q']
theorem all_in {P : Program} {w : World} {H : Hp} {h : Heap} (ok : HOk P w H h) {A : Around} {s : Shared} (hs : s.heap = h) {k : NestedKey} {x : V} {v : Value} (hx : NK H k x) (rx : RelV x v) (hd : k.depth ≤ 8) (hu : A.units + 9 < cLine) : ∀ {ks : List NestedKey} {vs : List V} {us : List Value}, NKs H ks vs → Vals vs us →
    ∀ u ∈ us, SeqAt.EqAt A s u v (keyEq h k u)
  | [], vs, us, hk, r => by cases hk; cases r; intro u hu; cases hu
  | l :: ks, vs, us, hk, r => by
    obtain ⟨y, t, rfl, hy, ht⟩ := hk
    cases r with
    | cons r1 r2 =>
      intro u hm
      rcases List.mem_cons.mp hm with e | hm
      · subst e
        rw [keyEq_of (NK.is ok l y _ hy r1)]
        subst hs
        exact eqAt_key l k A s _ _ (NK.is ok l y _ hy r1) (NK.is ok k x _ hx rx) (by omega)
      · exact all_in ok hs hx rx hd hu ht r2 u hm
theorem or_inT (hu : X.A.units + 65 < cLine) : OpR X (compareOp .In) (rInT X.K false) := by
  intro pins s σ H x y v u Q I rx ry h
  obtain ⟨a, vs, ks, k, rfl, ht, hks, hk, hd, q⟩ := h
  cases ry
  obtain ⟨its, r, pl, hz⟩ := I.tuple ht
  refine SeqAt.in_tupleAt (keyEq s.heap k) pl (fun w hw => all_in I.hok rfl hk rx hd (by show X.A.units + 1 + 9 < cLine; omega) hks r w (by simpa using hw)) ⟨.bl _, H, I, rfl, ?_⟩
  rw [show its.toArray.any (keyEq s.heap k) = its.any (keyEq s.heap k) by simp, any_in I.hok hks r]
  exact q
theorem or_notInT (hu : X.A.units + 65 < cLine) : OpR X (compareOp .NotIn) (rInT X.K true) := by
  intro pins s σ H x y v u Q I rx ry h
  obtain ⟨a, vs, ks, k, rfl, ht, hks, hk, hd, q⟩ := h
  cases ry
  obtain ⟨its, r, pl, hz⟩ := I.tuple ht
  refine SeqAt.notIn_tupleAt (keyEq s.heap k) pl (fun w hw => all_in I.hok rfl hk rx hd (by show X.A.units + 1 + 9 < cLine; omega) hks r w (by simpa using hw)) ⟨.bl _, H, I, rfl, ?_⟩
  rw [show its.toArray.any (keyEq s.heap k) = its.any (keyEq s.heap k) by simp, any_in I.hok hks r]
  exact q

/-! isinstance of a built-in type -/
/-- a value's built-in type -/
inductive Ty (P : Program) (w : World) (K : PySem.W.Frag) (H : Hp) : V → String → Prop where
  | non : Ty P w K H .non "NoneType"
  | bl (b : Bool) : Ty P w K H (.bl b) "bool"
  | int (i : Int) : Ty P w K H (.int i) "int"
  | str (x : Str) : Ty P w K H (.str x) "str"
  | tup {a : Addr} {xs : List V} (e : H a = some (.tup xs)) : Ty P w K H (.ref a) "tuple"
  | lst {a : Addr} {xs : List V} (e : H a = some (.lst xs)) : Ty P w K H (.ref a) "list"
  | nd {a : Addr} {kvs : List (NestedKey × V)} (e : NDr P w H a kvs) : Ty P w K H (.ref a) "dict"
theorem call_isT : CallR X (.builtin "isinstance") (fun xs H Q => ∃ x t T b, xs = [x, .ty T] ∧ Ty X.prog X.w X.K H x t ∧ PySem.W.kitOne X.K (.type t) (.type T) = some b ∧ Q (.bl b) H) := by
  intro pins s σ H xs us Q I r h
  obtain ⟨x, t, T, b, rfl, ty, e, q⟩ := h
  have fall : TyX X.K H x (.type t) → wpAny (model X.prog X.w) X.A (call (.builtin "isinstance") us) (EP X pins σ Q) X.xe s := fun z =>
    call_isi pins s σ H _ us Q I r ⟨x, .ty T, .type t, .type T, b, rfl, .ty T, z, e, q⟩
  cases ty with
  | non => exact fall (.base .non)
  | bl b => exact fall (.base (.bl b))
  | int i => exact fall (.base (.int i))
  | str z => exact fall (.base (.str z))
  | tup ea => exact fall (.base (.tup ea))
  | lst ea => exact fall (.base (.lst ea))
  | @nd a kvs g =>
    obtain ⟨u1, u2, rfl, r1, r2⟩ := vals2 r
    cases r1
    cases (show u2 = Value.type T from r2)
    exact PySem.W.kia_one PySem.W.kitx_dict I.kIn (nd_type I g).1 e (fun z => nomatch z) fun tk => ⟨.bl b, H, I.tok tk, rfl, q⟩

/-! list items, to be changed -/
def rGetL (K : PySem.W.Frag) : V → V → Hp → VK → Prop := fun x y H Q => ∃ (p : Addr) (xs : List V) (k : Nat) (v : V), x = .ref p ∧ y = .int k ∧ SqL K H p xs ∧ xs[k]? = some v ∧ Q v H
theorem get_list : PGet X (rGetL X.K) := by
  intro pins s σ H o i ov iv Q I r1 r2 h
  obtain ⟨p, xs, k, v, rfl, rfl, hq, hv, q⟩ := h
  cases r1
  obtain ⟨t, rfl⟩ := r2
  obtain ⟨its, r, pl, hz⟩ := I.list hq
  obtain ⟨w, ew, rw'⟩ := r.get hv
  have hlt := (List.getElem?_eq_some_iff.mp hv).1
  have hn := line63
  have hl := r.length
  exact wpAny_getItem_list pl.isList (by omega) (by omega) (by simpa using ew) ⟨v, H, I, rw', q⟩

/-! a list == [] -/
def rEqNil (K : PySem.W.Frag) : R2 := fun x y H Q => ∃ a b xs, x = .ref a ∧ y = .ref b ∧ SqL K H a xs ∧ SqL K H b [] ∧ Q (.bl (decide (xs = []))) H
theorem or_eqNil (hu : X.A.units < cLine) : OpR X (compareOp .Eq) (rEqNil X.K) := by
  intro pins s σ H x y v u Q I rx ry h
  obtain ⟨a, b, xs, rfl, rfl, ha, hb, q⟩ := h
  cases rx
  cases ry
  obtain ⟨its, r, pl, hz⟩ := I.list ha
  obtain ⟨its2, r2, pl2, hz2⟩ := I.list hb
  cases r2
  cases xs with
  | nil =>
    cases r
    refine SeqAt.eq_listAt (e := fun _ => true) pl.isList pl2.isList rfl hu (fun j h1 _ => absurd h1 (by simp)) ⟨.bl true, H, I, rfl, ?_⟩
    simpa using q
  | cons y ys =>
    cases r with
    | cons r1 r3 =>
      refine SeqAt.eq_list_lengthsAt pl.isList pl2.isList (by simp) hu ⟨.bl false, H, I, rfl, ?_⟩
      simpa using q
/-! d != 'text', None != 'text', text != text -/
theorem dict_ne_str {prog : Program} {w : World} {A : Around} {E : Value → Shared → Prop} {s : Shared} {d : Addr} {o : Obj} {b : Str} {u : Tok} {Q : Value → Shared → Prop} {es : Array DictEntry} {ep : Nat} (ho : s.heap.get? d = some o) (hc : o.cls = .type "dict") (hdd : o.data = .dict es ep) (hu : A.units < cLine) (h : Q (.bool true) s) :
    wpAny (model prog w) A (compareOp .NotEq (.ref d) (.str b u)) Q E s := by
  have hT : s.TypeIs (.ref d) "dict" := ⟨o, ho, hc⟩
  have hS : s.TypeIs (.str b u) "str" := rfl
  refine SeqAt.rc_ne_decline_or (k := false) hT hS (by decide) PySem.F.sub_str_dict PySem.F.slot_dict_ne PySem.F.slot_str_ne_refl (fun Q' hq => ?_) (fun Q' hq => ?_) (fun _ hq => wpAny_of_eq (rfl : isSame (.ref d) (.str b u) = pure false) hq) (.inr hu) h
  · refine wpAny_call_entry PySem.F.slot_dict_ne hT PySem.F.entry_dict_ne ?_ (PySem.F.args_dict_ne_2 _ _)
    show wpAny _ _ (Builtin.Dict.dictSlotArgs "__ne__" ⟨[.ref d, .str b u], []⟩ >>= _) _ _ s
    refine wpAny_bind ?_
    unfold Builtin.Dict.dictSlotArgs
    refine wpAny_bind (wpAny_notOrdered_dict hT ?_)
    show wpAny _ _ (pure (Value.ref d, Value.str b u)) _ _ s
    refine wpAny_pure ?_
    refine wpAny_bind (wpAny_isInstance (T := "str") hS PySem.F.sub_str_dict ?_)
    simp only [Bool.not_false, if_true]
    refine wpAny_bind (wpAny_rule ?_)
    exact wpAny_pure ⟨_, rfl, hq⟩
  · refine wpAny_call_entry PySem.F.slot_str_ne_refl hS PySem.F.entry_str_ne ?_ (PySem.F.args_str_ne_2 _ _)
    obtain ⟨cls, dct, dat, sl⟩ := o
    simp only at hc hdd
    subst hc hdd
    obtain ⟨hp, g, dr, tk, os⟩ := s
    wp_walk using wpAny_loadPart' ho, wpAny_load ho
    exact ⟨_, rfl, hq⟩
theorem or_neS (hu : X.A.units < cLine) : OpR X (compareOp .NotEq) (fun x y H Q => ∃ b, y = .str b ∧ ((∃ d kvs, x = .ref d ∧ NDr X.prog X.w H d kvs ∧ Q (.bl true) H) ∨ (x = .non ∧ Q (.bl true) H) ∨ ∃ a, x = .str a ∧ Q (.bl (!decide (a = b))) H)) := by
  intro pins s σ H x y v u Q I rx ry h
  obtain ⟨b, rfl, h | h | h⟩ := h
  · obtain ⟨d, kvs, rfl, g, q⟩ := h
    cases rx
    obtain ⟨t, rfl⟩ := ry
    obtain ⟨ws, e, _, n⟩ := g
    obtain ⟨_, _, us, _, dd⟩ := nd_of I.hok e n
    obtain ⟨o, es, ep, h1, h2, h3, _⟩ := dd
    exact dict_ne_str h1 h2.1 h3 hu ⟨.bl true, H, I, rfl, q⟩
  · obtain ⟨rfl, q⟩ := h
    exact op_ne pins s σ H .non (.str b) v u Q I rx ry ⟨rfl, by simpa using q⟩
  · obtain ⟨a, rfl, q⟩ := h
    refine op_ne pins s σ H (.str a) (.str b) v u Q I rx ry ⟨rfl, ?_⟩
    have e : decide (V.str a = V.str b) = decide (a = b) := by simp
    rw [e]; exact q
end
/-! ### walks -/
section
variable {P : Program} {w : World} {K : PySem.W.Frag} {a b d : Addr} {xs ys : List V} {o : Obj}
theorem walk_enumT : Walk (Iet K a) xs.length (fun H => SqT K H a xs) (YPair (fun i => some (.int (i : Nat))) (fun i => xs[i]?)) := by
  refine ⟨fun i _ hi q => ⟨xs, xs[i], q, by simp [hi]⟩, fun _ q => ⟨xs, q, rfl⟩, fun i H v H' _ q y => ?_⟩
  obtain ⟨T, x, h1, h2, h3, h4⟩ := y
  exact ⟨T, .int (i : Nat), x, h1, h2, h3, rfl, h4 xs q⟩
theorem walk_keysN {ws : List NEnt} : Walk (Itkn P w d o ws) ws.length (fun H => H d = some (.frz o (NDO P w d ws))) (fun i H x H' => H' = H ∧ ∃ e : NEnt, ws[i]? = some e ∧ x = .ref e.2.1) :=
  ⟨fun _ _ hi q => ⟨q, hi⟩, fun _ q => ⟨q, Nat.le_refl _⟩, fun _ _ _ _ _ _ y => y⟩
end
end S1

/-! K12: comprehensions read at once; what else stands, stays -/
namespace S1
open PySem PySem.Spec L2 PyProof.Rows RZ
section
variable {P : Program} {w : World} {K : PySem.W.Frag} {J : It} {n : Nat} {G : Hp → Prop} {Y : Nat → Hp → V → Hp → Prop}
theorem walk_zipT {a b : Addr} {xs ys : List V} {n : Nat} (hn : n = min xs.length ys.length) : Walk (ItzT K a b) n (fun H => SqT K H a xs ∧ SqT K H b ys) (YPair (fun i => xs[i]?) (fun i => ys[i]?)) := by
  subst hn
  refine ⟨fun i _ hi q => ?_, fun _ q => ⟨xs, ys, q.1, q.2, by omega⟩, fun i H v H' _ q y => ?_⟩
  · have h1 : i < xs.length := by omega
    have h2 : i < ys.length := by omega
    exact ⟨xs, ys, xs[i], ys[i], q.1, q.2, by simp [h1], by simp [h2]⟩
  · obtain ⟨T, x, z, h1, h2, h3, h4, h5⟩ := y
    exact ⟨T, x, z, h1, h2, h3, h4 xs q.1, h5 ys q.2⟩
/-- what a walk of this program hands out: the heap as it was, or with a new tuple -/
def Mild (Y : Nat → Hp → V → Hp → Prop) : Prop := ∀ i H x H', Y i H x H' → Same H H'
theorem mild_at (xs : List V) : Mild (YAt xs) := fun i H x H' h => by obtain ⟨rfl, _⟩ := h; exact fun _ _ e => e
theorem mild_fn (f : Nat → V) : Mild (YFn f) := fun i H x H' h => by obtain ⟨rfl, _⟩ := h; exact fun _ _ e => e
theorem mild_pair (xs ys : Nat → Option V) : Mild (YPair xs ys) := fun i H x H' h => by
  obtain ⟨T, y, z, _, hn, rfl, _⟩ := h
  exact same_upd _ hn
/-- [.. for .. in ..]: all but m and the new list stays; R: what is known behind i turns -/
theorem lc_keep (wk : Walk J n G Y) {g : TG} {tt : TT} {te : TE} {vs : List Nat} {σ : L2.St} {H1 : Hp} {D : Addr} {Qd : Hp → Prop} (m : List Addr) (hm : ∀ b ∈ m, H1 b ≠ none) (hn : n ≤ 1000000) (hD : H1 D = none) (hG : ∀ H, Keep m H1 H → G H) (R : Nat → Hp → List V → Prop) (h0 : R 0 (upd H1 D (.lst [])) [])
    (hs : ∀ i x H H' acc (Kf : V → Hp → Prop) (Nx : Hp → Prop), i < n → Keep m H1 H → H D = some (.lst acc) → acc.length ≤ i → R i H acc → Y i H x H' → (∀ y H4, Keep m H H4 → R (i + 1) (upd H4 D (.lst (acc ++ [y]))) (acc ++ [y]) → Kf y H4) → (∀ H4, Keep m H H4 → R (i + 1) H4 acc → Nx H4) →
      g x (wipe σ vs) H' fun σ2 H2 => wipe σ2 vs = wipe σ vs ∧ tt σ2 H2 fun b H3 => if b = true then te σ2 H3 Kf else Nx H3)
    (hd : ∀ H acc, Keep m H1 H → H D = some (.lst acc) → acc.length ≤ n → R n H acc → Qd H) :
    ∃ W : Nat → Nat → Hp → Prop, (∃ m, W 0 m (upd H1 D (.lst []))) ∧ ∀ i m H, W i m H →
      (J.stop i H ∧ Qd H) ∨ (J.go i H ∧ ∃ Nx : Hp → Prop, (∀ H', Nx H' → ∃ m', m' < m ∧ W (i + 1) m' H') ∧ ∀ x H', J.yld i H x H' → g x (wipe σ vs) H' fun σ2 H2 => wipe σ2 vs = wipe σ vs ∧ tt σ2 H2 fun b H3 =>
        if b = true then te σ2 H3 fun y H4 => ∃ acc, H4 D = some (.lst acc) ∧ acc.length < sizeLine ∧ Nx (upd H4 D (.lst (acc ++ [y]))) else Nx H3) := by
  have nD : D ∉ m := fun z => hm D z hD
  refine lc_it wk (fun i H => Keep m H1 H ∧ ∃ acc, H D = some (.lst acc) ∧ acc.length ≤ i ∧ R i H acc) ⟨fun b o e _ => ?_, [], upd_same, Nat.le_refl _, h0⟩ (fun i H _ p => hG H p.1) (fun i x H H' hi ⟨k, acc, hacc, hl, r⟩ y => ?_) fun H ⟨k, acc, hacc, hl, r⟩ => hd H acc k hacc hl r
  · rw [upd_ne (ne_of_none e hD)]; exact e
  · refine hs i x H H' acc _ _ hi k hacc hl r y (fun y H4 k4 r4 => ⟨acc, k4 D _ hacc nD, by rw [sizeLine_eq]; omega, fun b o e nb => ?_, acc ++ [y], upd_same, by simp; omega, r4⟩) (fun H4 k4 r4 => ⟨k.trans k4, acc, k4 D _ hacc nD, by omega, r4⟩)
    rw [upd_ne (ne_of_none e hD)]
    exact k4 b o (k b o e nb) nb
/-- .. without tests -/
theorem lc_map (wk : Walk J n G Y) {g : TG} {te : TE} {vs : List Nat} {σ : L2.St} {H1 : Hp} {D : Addr} {Qd : Hp → Prop} (m : List Addr) (hm : ∀ b ∈ m, H1 b ≠ none) (hn : n ≤ 1000000) (hD : H1 D = none) (hG : ∀ H, Keep m H1 H → G H) (R : Nat → Hp → List V → Prop) (h0 : R 0 (upd H1 D (.lst [])) [])
    (hs : ∀ i x H H' acc (Kf : V → Hp → Prop), i < n → Keep m H1 H → H D = some (.lst acc) → acc.length ≤ i → R i H acc → Y i H x H' → (∀ y H4, Keep m H H4 → R (i + 1) (upd H4 D (.lst (acc ++ [y]))) (acc ++ [y]) → Kf y H4) →
      g x (wipe σ vs) H' fun σ2 H2 => wipe σ2 vs = wipe σ vs ∧ te σ2 H2 Kf)
    (hd : ∀ H acc, Keep m H1 H → H D = some (.lst acc) → acc.length ≤ n → R n H acc → Qd H) :
    ∃ W : Nat → Nat → Hp → Prop, (∃ m, W 0 m (upd H1 D (.lst []))) ∧ ∀ i m H, W i m H →
      (J.stop i H ∧ Qd H) ∨ (J.go i H ∧ ∃ Nx : Hp → Prop, (∀ H', Nx H' → ∃ m', m' < m ∧ W (i + 1) m' H') ∧ ∀ x H', J.yld i H x H' → g x (wipe σ vs) H' fun σ2 H2 => wipe σ2 vs = wipe σ vs ∧ tYes σ2 H2 fun b H3 =>
        if b = true then te σ2 H3 fun y H4 => ∃ acc, H4 D = some (.lst acc) ∧ acc.length < sizeLine ∧ Nx (upd H4 D (.lst (acc ++ [y]))) else Nx H3) :=
  lc_keep (tt := tYes) wk m hm hn hD hG R h0 (fun i x H H' acc Kf Nx a b c d e f k _ => hs i x H H' acc Kf a b c d e f k) hd
/-- a dict comprehension with nested keys, over a walk -/
theorem dc_keep (wk : Walk J n G Y) {g : TG} {tt : TT} {tk tv : TE} {vs : List Nat} {σ : L2.St} {H1 : Hp} {D : Addr} {Qd : Hp → Prop} (hn : n ≤ 1000000) (hD : H1 D = none) (hG : ∀ H, Same H1 H → G H) (R : Nat → List (NestedKey × V) → Prop) (h0 : R 0 [])
    (hs : ∀ i x H H' kvs (Kf : V → V → Hp → Prop) (Nx : Hp → Prop), i < n → Same H1 H → ND P w H D kvs → R i kvs → Y i H x H' → (∀ z a k H5, Same H H5 → NK H5 k (.ref a) → k.depth ≤ 8 → R (i + 1) (putK kvs k z) → Kf (.ref a) z H5) →
      g x (wipe σ vs) H' fun σ2 H2 => wipe σ2 vs = wipe σ vs ∧ tt σ2 H2 fun b H3 => if b = true then tk σ2 H3 fun y H4 => tv σ2 H4 fun z H5 => Kf y z H5 else Nx H3)
    (hd : ∀ H kvs, Same H1 H → ND P w H D kvs → R n kvs → Qd H) :
    ∃ W : Nat → Nat → Hp → Prop, (∃ m, W 0 m (upd H1 D (NDO P w D []))) ∧ ∀ i m H, W i m H →
      (J.stop i H ∧ Qd H) ∨ (J.go i H ∧ ∃ Nx : Hp → Prop, (∀ H', Nx H' → ∃ m', m' < m ∧ W (i + 1) m' H') ∧ ∀ x H', J.yld i H x H' → g x (wipe σ vs) H' fun σ2 H2 => wipe σ2 vs = wipe σ vs ∧ tt σ2 H2 fun b H3 =>
        if b = true then tk σ2 H3 fun y H4 => tv σ2 H4 fun z H5 => ∃ kvs a k, y = .ref a ∧ ND P w H5 D kvs ∧ NK H5 k (.ref a) ∧ k.depth ≤ 8 ∧ kvs.length < sizeLine ∧ (∀ H', Keep [D] H5 H' → ND P w H' D (putK kvs k z) → Nx H') else Nx H3) := by
  refine ⟨fun i m H => m = n - i ∧ i ≤ n ∧ Same H1 H ∧ ∃ kvs, ND P w H D kvs ∧ kvs.length ≤ i ∧ R i kvs, ⟨n, by simp, Nat.zero_le _, same_upd _ hD, [], ⟨[], upd_same, rfl, fun x hx => nomatch hx⟩, Nat.le_refl _, h0⟩, ?_⟩
  rintro i m H ⟨rfl, hi, sm, kvs, nd, hl, r⟩
  have q := hG H sm
  by_cases hlt : i < n
  · refine .inr ⟨wk.goes i H hlt q, fun H => Same H1 H ∧ ∃ kvs, ND P w H D kvs ∧ kvs.length ≤ i + 1 ∧ R (i + 1) kvs, fun H' p' => ⟨n - (i + 1), by omega, rfl, hlt, p'⟩, fun x H' y => ?_⟩
    refine hs i x H H' kvs _ _ hlt sm nd r (wk.yields i H x H' hlt q y) fun z a k H5 s5 hk hd r5 => ⟨kvs, a, k, rfl, nd.mono (KeepT.of_same s5) (fun o e => s5 D o e), hk, hd, by rw [sizeLine_eq]; omega, fun H6 k6 n6 => ⟨fun b o e => ?_, _, n6, ?_, r5⟩⟩
    · exact k6 b o (s5 b o (sm b o e)) (by rw [List.mem_singleton]; exact ne_of_none e hD)
    · have := length_putK kvs k z; omega
  · have e : i = n := by omega
    subst e
    exact .inl ⟨wk.stops H q, hd H kvs sm nd r⟩
/-- .. without tests -/
theorem dc_map (wk : Walk J n G Y) {g : TG} {tk tv : TE} {vs : List Nat} {σ : L2.St} {H1 : Hp} {D : Addr} {Qd : Hp → Prop} (hn : n ≤ 1000000) (hD : H1 D = none) (hG : ∀ H, Same H1 H → G H) (R : Nat → List (NestedKey × V) → Prop) (h0 : R 0 [])
    (hs : ∀ i x H H' kvs (Kf : V → V → Hp → Prop), i < n → Same H1 H → ND P w H D kvs → R i kvs → Y i H x H' → (∀ z a k H5, Same H H5 → NK H5 k (.ref a) → k.depth ≤ 8 → R (i + 1) (putK kvs k z) → Kf (.ref a) z H5) →
      g x (wipe σ vs) H' fun σ2 H2 => wipe σ2 vs = wipe σ vs ∧ tk σ2 H2 fun y H4 => tv σ2 H4 fun z H5 => Kf y z H5)
    (hd : ∀ H kvs, Same H1 H → ND P w H D kvs → R n kvs → Qd H) :
    ∃ W : Nat → Nat → Hp → Prop, (∃ m, W 0 m (upd H1 D (NDO P w D []))) ∧ ∀ i m H, W i m H →
      (J.stop i H ∧ Qd H) ∨ (J.go i H ∧ ∃ Nx : Hp → Prop, (∀ H', Nx H' → ∃ m', m' < m ∧ W (i + 1) m' H') ∧ ∀ x H', J.yld i H x H' → g x (wipe σ vs) H' fun σ2 H2 => wipe σ2 vs = wipe σ vs ∧ tYes σ2 H2 fun b H3 =>
        if b = true then tk σ2 H3 fun y H4 => tv σ2 H4 fun z H5 => ∃ kvs a k, y = .ref a ∧ ND P w H5 D kvs ∧ NK H5 k (.ref a) ∧ k.depth ≤ 8 ∧ kvs.length < sizeLine ∧ (∀ H', Keep [D] H5 H' → ND P w H' D (putK kvs k z) → Nx H') else Nx H3) :=
  dc_keep (tt := tYes) wk hn hD hG R h0 (fun i x H H' kvs Kf Nx a b c d e f => hs i x H H' kvs Kf a b c d e f) hd
end
end S1

/-! K13: a dict of lists, filled by setdefault and append -/
namespace S1
open PySem L2
def addKey (ks : List NestedKey) (k : NestedKey) : List NestedKey := if k ∈ ks then ks else ks ++ [k]
def addAt (G : NestedKey → List V) (k : NestedKey) (x : V) : NestedKey → List V := fun j => if j = k then G j ++ [x] else G j
/-- at d a dict with the keys ks, at k a list of its own holds G k; all of it younger than H0 -/
structure DL (P : Program) (w : World) (H0 H : Hp) (d : Addr) (ks : List NestedKey) (G : NestedKey → List V) (o : NestedKey → Addr) : Prop where
  nd : ND P w H d (ks.map fun k => (k, .ref (o k)))
  d0 : H0 d = none
  nod : ks.Nodup
  l0 : ∀ k ∈ ks, H0 (o k) = none
  at_ : ∀ k ∈ ks, H (o k) = some (.lst (G k))
  inj : ∀ k ∈ ks, ∀ j ∈ ks, o k = o j → k = j
  out : ∀ k, k ∉ ks → G k = []
theorem valV_map {ks : List NestedKey} {o : NestedKey → Addr} {k : NestedKey} : valV (ks.map fun k => (k, V.ref (o k))) k = if k ∈ ks then some (.ref (o k)) else none := by
  induction ks with
  | nil => rfl
  | cons j ks ih =>
    rw [List.map_cons]
    by_cases e : j = k
    · subst e
      rw [valV_pos rfl]; simp
    · have e' : ¬ k = j := fun z => e z.symm
      rw [valV_neg e, ih]
      simp [e']
theorem putK_map {ks : List NestedKey} {o : NestedKey → Addr} {k : NestedKey} {z : Addr} (h : k ∉ ks) : putK (ks.map fun k => (k, V.ref (o k))) k (.ref z) = (ks ++ [k]).map fun j => (j, V.ref (if j = k then z else o j)) := by
  unfold putK
  have e : ((ks.map fun k => (k, V.ref (o k))).any fun kv => decide (kv.1 = k)) = false := by
    rw [List.any_eq_false]
    intro p hp
    obtain ⟨j, hj, rfl⟩ := List.mem_map.mp hp
    simp only [decide_eq_true_eq]
    exact fun z => h (z ▸ hj)
  rw [e, if_neg (by decide), List.map_append]
  congr 1
  · refine List.map_congr_left fun j hj => ?_
    rw [if_neg fun z : j = k => h (z ▸ hj)]
  · simp
section
variable {P : Program} {w : World} {H0 H : Hp} {d a z : Addr} {ks : List NestedKey} {G : NestedKey → List V} {o : NestedKey → Addr} {k : NestedKey}
theorem DL.mono (D : DL P w H0 H d ks G o) {H' : Hp} (s : Same H H') : DL P w H0 H' d ks G o :=
  ⟨D.nd.mono (KeepT.of_same s) (fun u e => s _ u e), D.d0, D.nod, D.l0, fun k hk => s _ _ (D.at_ k hk), D.inj, D.out⟩
theorem DL.new {H : Hp} (s0 : Same H0 H) {p : Addr} {H' : Hp} (hp : H p = none) (nd : ND P w H' p []) : DL P w H0 H' p [] (fun _ => []) (fun _ => 0) :=
  ⟨nd, s0.free hp, List.nodup_nil, (by simp), (by simp), (by simp), fun _ _ => rfl⟩
/-- found.setdefault(key, []), then .append(x) -/
theorem dl_set {Hb : Hp} (Db : DL P w H0 Hb d ks G o) (sb : Same Hb H) (hzb : Hb z = none) (hk : NK H k (.ref a)) (hd : k.depth ≤ 8) (hz : H z = some (.lst [])) (hz0 : H0 z = none) (hl : ks.length < 1000000) {Q : VK}
    (q : ∀ l H1 o', H1 l = some (.lst (G k)) → H0 l = none → Keep [d] H H1 → (∀ x, DL P w H0 (upd H1 l (.lst (G k ++ [x]))) d (addKey ks k) (addAt G k x) o') → Q (.ref l) H1) :
    rNSetd P w (.ref d) [.ref a, .ref z] H Q := by
  have D := Db.mono sb
  have hzo : ∀ j ∈ ks, o j ≠ z := fun j hj e => by have := Db.at_ j hj; rw [e, hzb] at this; cases this
  have hsz : (ks.map fun k => (k, V.ref (o k))).length < sizeLine := by rw [List.length_map, sizeLine_eq]; omega
  have fin : ∀ {H1 : Hp} {ks' : List NestedKey} {o' : NestedKey → Addr}, k ∈ ks' → (∀ j ∈ ks, j ∈ ks') → (∀ j ∈ ks', j ∈ ks ∨ j = k) → ks'.Nodup → ND P w H1 d (ks'.map fun j => (j, V.ref (o' j))) → (∀ j ∈ ks', H0 (o' j) = none) → (∀ j ∈ ks', H1 (o' j) = some (.lst (G j))) → (∀ j ∈ ks', ∀ i ∈ ks', o' j = o' i → j = i) → ∀ x,
      DL P w H0 (upd H1 (o' k) (.lst (G k ++ [x]))) d ks' (addAt G k x) o' := fun {H1 ks' o'} m1 m2 m3 n1 nd h0 ha hi x => by
    obtain ⟨f, hf⟩ := nd.at
    have hne : d ≠ o' k := fun z => by rw [z, ha k m1] at hf; cases hf
    refine ⟨nd.mono (keepT_upd fun xs e => by rw [ha k m1] at e; cases e) (fun u e => by rw [upd_ne hne]; exact e), D.d0, n1, h0, fun j hj => ?_, hi, fun j hj => ?_⟩
    · unfold addAt
      by_cases e : j = k
      · subst e; rw [upd_same, if_pos rfl]
      · rw [if_neg e, upd_ne fun z => e (hi j hj k m1 z)]; exact ha j hj
    · unfold addAt
      rw [if_neg fun z : j = k => hj (z ▸ m1)]
      exact D.out j fun z => hj (m2 j z)
  refine ⟨d, a, k, _, .ref z, rfl, rfl, D.nd, hk, hd, hsz, fun v hv => ?_, fun hv H1 k1 nd1 => ?_⟩
  · rw [valV_map] at hv
    by_cases e : k ∈ ks
    · rw [if_pos e] at hv; cases hv
      have ek : addKey ks k = ks := by unfold addKey; rw [if_pos e]
      refine q (o k) H o (D.at_ k e) (D.l0 k e) (Keep.refl _ _) fun x => ?_
      rw [ek]
      exact fin e (fun _ h => h) (fun _ h => .inl h) D.nod D.nd D.l0 D.at_ D.inj x
    · rw [if_neg e] at hv; cases hv
  · rw [valV_map] at hv
    have e : k ∉ ks := fun e => by rw [if_pos e] at hv; cases hv
    have ek : addKey ks k = ks ++ [k] := by unfold addKey; rw [if_neg e]
    rw [putK_map e] at nd1
    obtain ⟨f, hf⟩ := D.nd.at
    have hzd : z ≠ d := fun q => by rw [q, hf] at hz; cases hz
    have hz1 : H1 z = some (.lst []) := k1 z _ hz (by simp [hzd])
    refine q z H1 (fun j => if j = k then z else o j) (by rw [D.out k e]; exact hz1) hz0 k1 fun x => ?_
    rw [ek]
    have := fin (H1 := H1) (ks' := ks ++ [k]) (o' := fun j => if j = k then z else o j) (by simp) (fun j h => by simp [h]) (fun j h => by simpa using h) (List.nodup_append.mpr ⟨D.nod, by simp, fun i hi j hj => by rw [List.mem_singleton.mp hj]; exact fun q => e (q ▸ hi)⟩) nd1 (fun j hj => ?_) (fun j hj => ?_) (fun j hj i hi => ?_) x
    · simp only [if_true] at this; exact this
    · by_cases c : j = k
      · simp only [c, if_true]; exact hz0
      · simp only [c, if_false]; exact D.l0 j (by simpa [c] using hj)
    · by_cases c : j = k
      · subst c; simp only [if_true]; rw [D.out j e]; exact hz1
      · simp only [c, if_false]
        have hj' : j ∈ ks := by simpa [c] using hj
        refine k1 _ _ (D.at_ j hj') ?_
        rw [List.mem_singleton]
        intro q; rw [← q, D.at_ j hj'] at hf; cases hf
    · have hj' : j = k ∨ j ∈ ks := by simpa [or_comm] using hj
      have hi' : i = k ∨ i ∈ ks := by simpa [or_comm] using hi
      rcases hj' with c | c <;> rcases hi' with c' | c'
      · intro _; rw [c, c']
      · have : ¬ i = k := fun z => e (z ▸ c')
        simp only [c, if_true, this, if_false]
        exact fun q => absurd q.symm (hzo i c')
      · have : ¬ j = k := fun z => e (z ▸ c)
        simp only [c', if_true, this, if_false]
        exact fun q => absurd q (hzo j c)
      · have h1 : ¬ j = k := fun z => e (z ▸ c)
        have h2 : ¬ i = k := fun z => e (z ▸ c')
        simp only [h1, h2, if_false]
        exact D.inj j c i c'
end
end S1

/-! K14: set(t) of a tuple of tuples of ints; tuple * int, said without the context -/
namespace S1
open PySem PySem.Spec L2 PyProof.Rows
section
variable {P : Program} {w : World} {A : Around} {E : Value → Shared → Prop} {s : Shared}
/-- a set as it is born -/
def born (w : World) : Obj := { cls := .type "set", dict := none, data := .set #[] 0 (.fresh 0 0 (!w.params.followText "set-order")) }
set_option maxRecDepth 100000 in
set_option maxHeartbeats 3200000 in
theorem set_of_tupT {t : Addr} {vs : Array Value} (ks : List (Addr × List Int)) {Q : Value → Shared → Prop} (hh : A.handled = none) (ht : s.heap.IsTuple t vs) (hvs : vs.toList = ks.map fun p => Value.ref p.1)
    (hk : ∀ p ∈ ks, IsT P w s.heap p.2 p.1) (few : ks.length < 64) (hu : A.units + 3 < cLine)
    (fin : ∀ (h2 : Heap) (tk : Nat) L es ep tb, SetTR P w h2 s.heap.objs.size L es ep tb → Got ks ks.length L → (∀ b o, s.heap.get? b = some o → h2.get? b = some o) → Q (.ref s.heap.objs.size) { s with heap := h2, toks := tk }) :
    wpAny (model P w) A (call (.type "set") [.ref t]) Q E s := by
  have size_vs : vs.size = ks.length := by
    have := congrArg List.length hvs
    simpa using this
  obtain ⟨_, _, mro⟩ := PySem.F.called_set.mro
  have made := PySem.F.called_set.made
  have sub := PySem.F.called_set.sub
  have nt := PySem.F.called_set.notType
  have cc := PySem.F.called_set.canCreate
  have tc := PySem.F.typeCall_set_1 (.ref t)
  have li := PySem.F.called_set.init.lookup
  have bi := PySem.F.called_set.init.bind (.ref s.heap.objs.size)
  refine wpAny_call (codeAny_of_tree ?_)
  show wpAny _ _ (callAny (.type "set") _) _ _ _
  refine wpAny_pure ⟨Code.quiet_builtin _ (by decide +kernel), codeAny_builtin PySem.F.entry_type_call ?_⟩
  rw [Around.under_plain (weight_type_call_type "set" [.ref t] []) rfl]
  repeat (any_goals (first | assumption | wp_step))
  refine codeAny_mono (code_set_led1 (.ref t) (E := E) (Q₁ := fun x s1 => x = .ref s.heap.objs.size ∧ s1 = { s with heap := s.heap.push (born w) }) ⟨rfl, rfl⟩) fun r s1 h1 => ?_
  match r, h1 with
  | .error _, h1 => exact h1
  | .ok .next, h1 => exact h1.elim
  | .ok .brk, h1 => exact h1.elim
  | .ok .cont, h1 => exact h1.elim
  | .ok (.ret x), ⟨ex, es1⟩ =>
    subst ex es1
    have here : (s.heap.push (born w)).get? s.heap.objs.size = some (born w) := Heap.get?_push_size _ rfl
    have ty : Shared.TypeIs { s with heap := s.heap.push (born w) } (.ref s.heap.objs.size) "set" := ⟨_, here, rfl⟩
    repeat (any_goals (first | assumption | wp_step))
    refine codeAny_mono (codeAny_call_builtin (R := wants (fun r s2 => r = .none ∧ ∃ h2 tk L es ep tb, s2 = { s with heap := h2, toks := tk } ∧ SetTR P w h2 s.heap.objs.size L es ep tb ∧ Got ks ks.length L ∧ ∀ b o, s.heap.get? b = some o → h2.get? b = some o) E) PySem.F.called_set.init.plain PySem.F.entry_set_init (check_set_init_1 ty ?_)) fun r2 s2 h2 => ?_
    · obtain ⟨⟨cl, dc, dt, sl⟩, at_, ec, n, ed⟩ := ht
      simp only at ec ed
      subst ec ed
      have at1 : (s.heap.push (born w)).get? t = some { cls := .type "tuple", dict := dc, data := .seq vs n, slots := sl } := Heap.get?_push_of_some _ at_
      have sub1 := PySem.F.sub_tuple_set
      have sub2 := PySem.F.sub_tuple_frozenset
      have ne : (Value.type "tuple" == Value.type "dict") = false := by decide
      have tup1 : (s.heap.push (born w)).IsTuple t vs := ⟨_, at1, rfl, n, rfl⟩
      unfold Builtin.«set.__init__» noKeywords Builtin.Frozenset.updateFrom
      generalize hPI : pyIter = PI
      wp_walk
      subst hPI
      refine wpAny_pyIter_tuple tup1 (wpAny_bind (wpAny_runValue ?_))
      have tS : t < s.heap.objs.size := Heap.lt_size at_
      have hh3 : A.in1.in1.in1.handled = none := by simp [hh]
      have size1 : (s.heap.push (born w)).objs.size = s.heap.objs.size + 1 := Heap.size_push ..
      have free : ∀ b, s.heap.objs.size ≤ b → s.heap.get? b = none := fun b hb => by
        cases e : s.heap.get? b with
        | none => rfl
        | some o => exact absurd (Nat.lt_of_lt_of_le (Heap.lt_size e) hb) (Nat.lt_irrefl _)
      have each : ∀ (i : Nat) (v : Value), vs[i]? = some v → ∃ p, ks[i]? = some p ∧ v = .ref p.1 := fun i v hv => by
        have e : vs.toList[i]? = some v := by rw [Array.getElem?_toList]; exact hv
        rw [hvs, List.getElem?_map] at e
        obtain ⟨p, hp, rfl⟩ := Option.map_eq_some_iff.mp e
        exact ⟨p, hp, rfl⟩
      have apart : t ≠ (s.heap.push (born w)).objs.size := by rw [size1]; exact Nat.ne_of_lt (Nat.lt_succ_of_lt tS)
      have out : s.heap.objs.size ∉ [(s.heap.push (born w)).objs.size, t] := by
        rw [size1]
        simp only [List.mem_cons, List.not_mem_nil, or_false, not_or]
        exact ⟨Nat.ne_of_lt (Nat.lt_succ_self _), Nat.ne_of_gt tS⟩
      refine set_update_tups ((Walks.tuple hh3 _ t apart vs).toS) s.heap.objs.size out ks size_vs few each s.heap hk (free _ (Nat.le_refl _)) (fun b hb => free b ?_) hu (vs.size - 0) 0 _ (by omega) (Nat.zero_le _)
        ⟨⟨_, Heap.get?_push_size _ rfl, rfl, rfl⟩, tup1.push _⟩ (fun b o e => Heap.get?_push_of_some _ (Heap.get?_push_of_some _ e)) ⟨[], #[], 0, _, setTR_fresh (Heap.get?_push_of_some _ here), Got.zero ks⟩ ?_
      · rw [List.mem_singleton.mp hb, size1]; exact Nat.le_succ _
      · intro s' L es ep tb hm hS g keep
        obtain ⟨h', gs, dr, tk, os⟩ := s'
        obtain rfl : gs = s.gens := hm.gens
        obtain rfl : dr = s.drawn := hm.drawn
        obtain rfl : os = s.os := hm.os
        refine wpAny_pure ?_
        show wpAny _ _ (ret Value.none) _ _ _
        rw [size_vs] at g
        exact wpAny_pure ⟨rfl, h', tk, L, es, ep, tb, rfl, hS, g, keep⟩
    · match r2, h2 with
      | .error _, h2 => exact h2
      | .ok .next, h2 => exact h2.elim
      | .ok .brk, h2 => exact h2.elim
      | .ok .cont, h2 => exact h2.elim
      | .ok (.ret y), ⟨ey, h', tk, L, es, ep, tb, es2, hS, g, keep⟩ =>
        subst ey es2
        repeat (any_goals (first | assumption | wp_step))
        exact fin _ _ _ _ _ _ hS g keep
end
section
variable {X : Cx}
def rSetTupT (K : PySem.W.Frag) (P : Program) (w : World) : List V → Hp → VK → Prop := fun xs H Q => ∃ (l : Addr) (ks : List (Addr × List Int)), xs = [V.ref l] ∧ SqT K H l (ks.map fun p => V.ref p.1) ∧ (∀ p ∈ ks, SqT K H p.1 (p.2.map V.int)) ∧ ks.length < 64 ∧
  ∀ a L, H a = none → (∀ p ∈ L, p ∈ ks) → (∀ p ∈ ks, p.2 ∈ L.map (·.2)) → Q (.ref a) (upd H a (SetTO P w a L))
theorem cr_setTupT (hc : X.calm = true) (hu : X.A.units + 64 < cLine) : CallR X (.type "set") (rSetTupT X.K X.prog X.w) := by
  intro pins s σ H xs us Q I r h
  obtain ⟨l, ks, rfl, hl, hk, hf, q⟩ := h
  obtain ⟨u, rfl, ru⟩ := r.one
  cases ru
  obtain ⟨its, rv, pl, hz⟩ := I.tuple hl
  refine set_of_tupT (P := X.prog) (w := X.w) ks (I.ok.hd hc) pl (by simpa using refs_of_vals rv) (fun p hp => I.isT (hk p hp)) hf (by omega) fun h' tk L es ep t R g k => ?_
  exact ⟨.ref s.heap.objs.size, upd H s.heap.objs.size (SetTO X.prog X.w s.heap.objs.size L), I.laid (t' := tk) k (Nat.le_refl _) (setTO_new R.t0), rfl, q _ L (I.hok.fresh (Nat.le_refl _)) (fun p hp => List.mem_of_mem_take (g.sub p hp)) fun p hp => g.all p (by rw [List.take_length]; exact hp)⟩
/-- tuple * int -/
def rRepF : R2 := fun x y H Q => ∃ (l : Addr) (k : Int) (xs : List V), x = .ref l ∧ y = .int k ∧ H l = some (.tup xs) ∧ xs ≠ [] ∧ 2 ≤ k ∧ k ≤ 1000 ∧ xs.length ≤ 1000 ∧ ∀ p, H p = none → Q (.ref p) (upd H p (.tup (List.replicate k.toNat xs).flatten))
theorem op_repF : OpR X (binaryOp .Mult) rRepF := by
  intro pins s σ H x y v u Q I rx ry h
  obtain ⟨l, k, xs, rfl, rfl, hl, h⟩ := h
  exact op_repT pins s σ H _ _ v u Q I rx ry ⟨l, k, xs, rfl, rfl, SqT.of hl, h⟩
end
end S1

/-! L0: the text by places, what the top has left -/
namespace S1
open PySem L2
def top (i : Nat) : Stmt := PySem.Challenge.pw_onesilent_k44_whole_tables_found_and_jud.main.body.getD i (.Pass ⟨0, 0, 0, 0⟩)
/-- what the module's names hold -/
structure Txt (K : PySem.W.Frag) (mg : Str → Option Value) (cT cR cS cA : Addr) : Prop where
  clT : Cls K cT
  clR : Cls K cR
  clS : Cls K cS
  clA : Cls K cA
  len : mg "len" = none
  range : mg "range" = none
  isinstance : mg "isinstance" = none
  all_ : mg "all" = none
  any_ : mg "any" = none
  tuple : mg "tuple" = none
  list : mg "list" = none
  sorted : mg "sorted" = none
  set : mg "set" = none
  dict : mg "dict" = none
  enumerate : mg "enumerate" = none
  zip : mg "zip" = none
  int : mg "int" = none
  abs : mg "abs" = none
  bool : mg "bool" = none
  LEAST_MANY : ∃ u, mg "LEAST_MANY" = some u ∧ RelV (.int 3) u
  MOST_MANY : ∃ u, mg "MOST_MANY" = some u ∧ RelV (.int 5) u
  MOST_ROUNDS : ∃ u, mg "MOST_ROUNDS" = some u ∧ RelV (.int 30) u
  MOST_VIEWED : ∃ u, mg "MOST_VIEWED" = some u ∧ RelV (.int 4) u
  MOST_RUNS : ∃ u, mg "MOST_RUNS" = some u ∧ RelV (.int 20000) u
  MOST_PAIRS : ∃ u, mg "MOST_PAIRS" = some u ∧ RelV (.int 400) u
  MOST_INPUTS : ∃ u, mg "MOST_INPUTS" = some u ∧ RelV (.int 60) u
  MOST_ROWS : ∃ u, mg "MOST_ROWS" = some u ∧ RelV (.int 60) u
  MOST_NUMBER : ∃ u, mg "MOST_NUMBER" = some u ∧ RelV (.int 9999) u
  nT_many : NoAttr K cT "many"
  nT_lots : NoAttr K cT "lots"
  nT_kept_lots : NoAttr K cT "kept_lots"
  nT_kept_completing : NoAttr K cT "kept_completing"
  nR_task : NoAttr K cR "task"
  nR_pairs : NoAttr K cR "pairs"
  nR_numbers : NoAttr K cR "numbers"
  nR_rows : NoAttr K cR "rows"
  nS_pair : NoAttr K cS "pair"
  nS_refusals : NoAttr K cS "refusals"
  nA_runs : NoAttr K cA "runs"
  nA_integers : NoAttr K cA "integers"
  nA_lets : NoAttr K cA "lets"
  nA_told : NoAttr K cA "told"
  nA_near : NoAttr K cA "near"
  nA_dead : NoAttr K cA "dead"
  nA_bars : NoAttr K cA "bars"
  nA_left : NoAttr K cA "left"
  nA_places : NoAttr K cA "places"
theorem ite_t {c : Bool} {a b : Prop} (h : c = true) (x : a) : if c = true then a else b := by rw [if_pos h]; exact x
theorem ite_f {c : Bool} {a b : Prop} (h : c = false) (x : b) : if c = true then a else b := by rw [if_neg (by rw [h]; decide)]; exact x
/-! a def's scope, checked at once -/
def scC (N ps : List Str) (sc : Scope) : Bool := decide (sc.kind = .function) && !sc.isCoroutine && !sc.isGenerator && decide N.Nodup && decide (N.take ps.length = ps) && ps.all (fun x => sc.names.lookup x == some .local || sc.names.lookup x == some .cell) && sc.names.all fun y => y.2 != .free
theorem sc_by {N ps : List Str} {sc : Scope} (h : scC N ps sc = true) : FnScope N ps sc := by
  simp only [scC, Bool.and_eq_true, Bool.not_eq_true', decide_eq_true_eq, List.all_eq_true, Bool.or_eq_true, beq_iff_eq, bne_iff_ne, ne_eq] at h
  obtain ⟨⟨⟨⟨⟨⟨h1, h2⟩, h3⟩, h4⟩, h5⟩, h6⟩, h7⟩ := h
  exact ⟨h1, h2, h3, h4, h5, h6, h7⟩
theorem hu1_of {A : Around} {k : Nat} (hr : Room k A) : A.units + 1 < cLine := by have := hr.un; omega
/-! small steps -/
theorem at_nat {xs : List V} {k : Nat} {v : V} (h : xs[k]? = some v) : atI xs (k : Int) = some v := by
  have hlt := (List.getElem?_eq_some_iff.mp h).1
  unfold atI ixN
  rw [if_pos (by omega), if_pos (by omega)]
  simpa using h
theorem ixN_nat {n k : Nat} (h : k < n) : ixN n (k : Int) = some k := by
  unfold ixN
  rw [if_pos (by omega), if_pos (by omega)]; simp
theorem same_lst {H1 H : Hp} {D : Addr} {o : HO} (hD : H1 D = none) (s : Same H1 H) : Same H1 (upd H D o) := fun b u e => by
  rw [upd_ne (ne_of_none e hD)]; exact s b u e
theorem pe_gc {X : Cx} {v : V} {x : Str} {pos : Pos} (hg : Gl X x) (h : ∃ u, X.mg x = some u ∧ RelV v u) (hd : (x == ("__debug__" : Str)) = false := by decide) : PE X (.Name x pos) (tC v) := by
  obtain ⟨u, hm, r⟩ := h
  exact pe_glob hg hm r hd
/-! ### the task's data -/
/-- a row of three cells, each 0, 1 or 2 -/
def Row3 (r : List Int) : Prop := r.length = 3 ∧ ∀ x ∈ r, 0 ≤ x ∧ x ≤ 2
def Rising (ls : List (List Int)) : Prop := ls.Pairwise fun a b => HT.lexLt a b = true
structure LotOk (l : List (List Int)) : Prop where
  pos : 1 ≤ l.length
  few : l.length ≤ 40
  rows : ∀ r ∈ l, Row3 r
  rise : Rising l
abbrev Lots := List (List Int × List (List Int))
structure LotsOk (L : Lots) : Prop where
  pos : 1 ≤ L.length
  few : L.length ≤ 4
  ins : ∀ p ∈ L, Row3 p.1
  lots : ∀ p ∈ L, LotOk p.2
  rise : Rising (L.map (·.1))
def lotK (l : List (List Int)) : NestedKey := .tup (l.map rowK)
def lotsK (L : Lots) : NestedKey := .tup (L.map fun p => .tup [rowK p.1, lotK p.2])
theorem rising_at {ls : List (List Int)} (h : Rising ls) {i : Nat} {a b : List Int} (ha : ls[i]? = some a) (hb : ls[i + 1]? = some b) : HT.lexLt a b = true := by
  obtain ⟨h1, rfl⟩ := List.getElem?_eq_some_iff.mp ha
  obtain ⟨h2, rfl⟩ := List.getElem?_eq_some_iff.mp hb
  exact List.pairwise_iff_getElem.mp h i (i + 1) h1 h2 (by omega)
theorem NKs.atK {H : Hp} {α : Type} {f : α → NestedKey} {xs : List α} {vs : List V} {i : Nat} {v : V} (h : NKs H (xs.map f) vs) (hv : vs[i]? = some v) : ∃ x, xs[i]? = some x ∧ NK H (f x) v := by
  obtain ⟨k, hk, nk⟩ := h.at hv
  rw [List.getElem?_map] at hk
  obtain ⟨x, hx, rfl⟩ := Option.map_eq_some_iff.mp hk
  exact ⟨x, hx, nk⟩
theorem NKs.toK {H : Hp} {α : Type} {f : α → NestedKey} {xs : List α} {vs : List V} {i : Nat} {x : α} (h : NKs H (xs.map f) vs) (hx : xs[i]? = some x) : ∃ v, vs[i]? = some v ∧ NK H (f x) v :=
  h.at' (by rw [List.getElem?_map, hx]; rfl)
theorem NKs.lenK {H : Hp} {α : Type} {f : α → NestedKey} {xs : List α} {vs : List V} (h : NKs H (xs.map f) vs) : vs.length = xs.length := by rw [h.len, List.length_map]
theorem NK.rowI {H : Hp} {r : List Int} {v : V} (h : NK H (rowK r) v) : ∃ a, v = .ref a ∧ H a = some (.tup (r.map V.int)) := NK.row.mp h
/-! ### rules that name no part of the context -/
section
variable {X : Cx}
def rL : R2 := fun x y H Q => ∃ (p : Addr) (xs : List V) (k : Nat) (v : V), x = .ref p ∧ y = .int k ∧ H p = some (.lst xs) ∧ xs[k]? = some v ∧ Q v H
def rT : R2 := fun x y H Q => ∃ (p : Addr) (xs : List V) (k : Nat) (v : V), x = .ref p ∧ y = .int k ∧ H p = some (.tup xs) ∧ xs[k]? = some v ∧ Q v H
def rLast : R2 := fun x y H Q => ∃ (p : Addr) (xs : List V) (v : V), x = .ref p ∧ y = .int (-1) ∧ H p = some (.lst xs) ∧ xs.getLast? = some v ∧ Q v H
theorem ixl : IxR X rL := by
  intro value slice pins s σ H x y v u Q I rx ry h hs
  obtain ⟨p, xs, k, z, rfl, rfl, hp, hv, q⟩ := h
  exact ix_list value slice pins s σ H _ _ v u Q I rx ry ⟨p, xs, k, z, rfl, rfl, SqL.of hp, atI_nat hv, q⟩ hs
theorem ixt : IxR X rT := by
  intro value slice pins s σ H x y v u Q I rx ry h hs
  obtain ⟨p, xs, k, z, rfl, rfl, hp, hv, q⟩ := h
  exact ix_tup value slice pins s σ H _ _ v u Q I rx ry ⟨p, xs, k, z, rfl, rfl, SqT.of hp, atI_nat hv, q⟩ hs
theorem ixlast : IxR X rLast := by
  intro value slice pins s σ H x y v u Q I rx ry h hs
  obtain ⟨p, xs, z, rfl, rfl, hp, hv, q⟩ := h
  refine ix_list value slice pins s σ H _ _ v u Q I rx ry ⟨p, xs, -1, z, rfl, rfl, SqL.of hp, ?_, q⟩ hs
  rw [List.getLast?_eq_getElem?] at hv
  have hlt := (List.getElem?_eq_some_iff.mp hv).1
  unfold atI ixN
  rw [if_neg (by omega), if_pos (by omega)]
  show xs[((-1 : Int) + (xs.length : Int)).toNat]? = some z
  rw [show ((-1 : Int) + (xs.length : Int)).toNat = xs.length - 1 by omega]
  exact hv
theorem lenF : CallR X (.builtin "len") (fun xs H Q => ∃ p ys, xs = [.ref p] ∧ (H p = some (.lst ys) ∨ H p = some (.tup ys)) ∧ Q (.int ys.length) H) := by
  intro pins s σ H xs us Q I r h
  obtain ⟨p, ys, rfl, hp, q⟩ := h
  exact call_len_seq pins s σ H _ us Q I r ⟨p, ys, rfl, hp.elim (fun z => .inl (SqL.of z)) fun z => .inr (SqT.of z), q⟩
theorem allF (hc : X.calm = true) : CallR X (.builtin "all") (fun xs H Q => ∃ (p : Addr) (bs : List Bool), xs = [.ref p] ∧ H p = some (.lst (bs.map V.bl)) ∧ Q (.bl (bs.all id)) H) := by
  intro pins s σ H xs us Q I r h
  obtain ⟨p, bs, rfl, hp, q⟩ := h
  exact cr_all hc pins s σ H _ us Q I r ⟨p, bs, rfl, SqL.of hp, q⟩
theorem anyF (hc : X.calm = true) : CallR X (.builtin "any") (fun xs H Q => ∃ (p : Addr) (bs : List Bool), xs = [.ref p] ∧ H p = some (.lst (bs.map V.bl)) ∧ Q (.bl (bs.any id)) H) := by
  intro pins s σ H xs us Q I r h
  obtain ⟨p, bs, rfl, hp, q⟩ := h
  exact cr_any hc pins s σ H _ us Q I r ⟨p, bs, rfl, SqL.of hp, q⟩
def rLtF : R2 := fun x y H Q => ∃ a b ns ms, x = .ref a ∧ y = .ref b ∧ H a = some (.tup (ns.map V.int)) ∧ H b = some (.tup (ms.map V.int)) ∧ Q (.bl (HT.lexLt ns ms)) H
theorem op_ltF (hu : X.A.units < cLine) : OpR X (compareOp .Lt) rLtF := by
  intro pins s σ H x y v u Q I rx ry h
  obtain ⟨a, b, ns, ms, rfl, rfl, ha, hb, q⟩ := h
  exact op_ltT hu pins s σ H _ _ v u Q I rx ry ⟨a, b, ns, ms, rfl, rfl, SqT.of ha, SqT.of hb, q⟩
/-- a tuple taken apart -/
def gTu (n : Nat) (t : TGs) : TG := fun v σ H Q => ∃ a xs, v = .ref a ∧ H a = some (.tup xs) ∧ xs.length = n ∧ t xs σ H Q
theorem pg_tu {es : List Expr} {k : Nat} {pos : Pos} {t : TGs} (n : Nat) (hc : X.calm = true) (h : PGs X es t) (hn : (assignEach es X.env).length = n := by rfl) (hs : (assignEach es X.env).findIdx? (·.1) = none := by rfl) : PG X (.Tuple es k pos) (gTu n t) := by
  refine ⟨fun pins s σ H v u Q I r hw => ?_⟩
  obtain ⟨a, xs, rfl, ha, hl, q⟩ := hw
  exact (pg_tup (k := k) (pos := pos) hc h hn hs).run pins s σ H (.ref a) u Q I r ⟨a, xs, rfl, SqT.of ha, hl, q⟩
/-- o.f of an instance of the class at C -/
def tFl (C : Addr) (ta : TE) (f : Str) : TE := fun σ H Q => ta σ H fun x H1 => ∃ a dx fs v, x = .ref a ∧ H1 a = some (.ins C dx fs) ∧ fs.lookup f = some v ∧ Q v H1
theorem pe_fl {e : Expr} {f : Str} {pos : Pos} {C : Addr} {ta : TE} (c : Cls X.K C) (n : NoAttr X.K C f) (he : PE X e ta) (hb : attributeBase e f X.env (eval e X.env) = eval e X.env := by rfl) : PE X (.Attribute e f pos) (tFl C ta f) := by
  refine ⟨fun pins s σ H Q I h => ?_⟩
  refine attr_of hb (thn (he.run pins s σ H _ I h) fun u s1 ⟨x, H1, I1, rx, a, dx, fs, v, ex, ea, l, q⟩ => ?_)
  subst ex
  obtain rfl : u = Value.ref a := rx
  exact getattr_ok I1 ea c n l fun u' s2 I2 ru => ⟨v, H1, I2, ru, q⟩
/-- o.f = e -/
def sFl (C : Addr) (ta tv : TE) (f : Str) : TS := fun D σ H => tv σ H fun y H1 => ta σ H1 fun x H2 => ∃ a dx fs, x = .ref a ∧ H2 a = some (.ins C dx fs) ∧ fs.length < 1000 ∧ D.nx σ (upd H2 a (.ins C dx (putF f y fs)))
theorem ps_fl {o value : Expr} {f : Str} {pos pos' : Pos} {C : Addr} {ta tv : TE} (c : Cls X.K C) (n : NoAttr X.K C f) (ha : PE X o ta) (hv : PE X value tv) (hs : swapsWith value (some (.Attribute o f pos')) pos.line X.env = pure false) : PS X (.Assign [.Attribute o f pos'] value pos) (sFl C ta tv f) := by
  refine ⟨fun pins s σ H D I h => ?_⟩
  refine plainObj_wpAny_Assign_Attribute (thn (hv.run pins s σ H _ I h) fun u s1 ⟨y, H1, I1, ry, q⟩ => thn (ha.run pins s1 σ H1 _ I1 q) fun ov s2 ⟨x, H2, I2, rx, a, dx, fs, ex, ea, l, q2⟩ => ?_) hs
  subst ex
  obtain rfl : ov = Value.ref a := rx
  exact setattr_ok I2 ea c n l ry fun s3 I3 => ⟨σ, _, I3, q2⟩
theorem pe_ngetP {a b : Expr} {ta tb : TE} {pos : Pos} (P : Program) (w : World) (hu : X.A.units + 9 < cLine) (ha : PE X a ta) (hb : PE X b tb) (hs : NoSl b) (hP : X.prog = P := by rfl) (hw : X.w = w := by rfl) : PE X (.Subscript a b pos) (tOp (rNIx P w) ta tb) := by
  subst hP hw; exact pe_nget hu ha hb hs
theorem or_ninP (P : Program) (w : World) (hu : X.A.units + 9 < cLine) (hP : X.prog = P := by rfl) (hw : X.w = w := by rfl) : OpR X (compareOp .In) (rNIn P w false) := by subst hP hw; exact or_nin hu
theorem or_nninP (P : Program) (w : World) (hu : X.A.units + 9 < cLine) (hP : X.prog = P := by rfl) (hw : X.w = w := by rfl) : OpR X (compareOp .NotIn) (rNIn P w true) := by subst hP hw; exact or_nnotin hu
theorem ty_ndP (P : Program) (w : World) (hP : X.prog = P := by rfl) (hw : X.w = w := by rfl) : TyOk X "dict" (tyN P w) := by subst hP hw; exact ty_nd
theorem mt_nget2P (P : Program) (w : World) (hu : X.A.units + 9 < cLine) (hP : X.prog = P := by rfl) (hw : X.w = w := by rfl) : MtR X "dict.get" (rNGet2 P w) := by subst hP hw; exact mt_nget2 hu
def rInTF (neg : Bool) : R2 := fun x y H Q => ∃ a vs ks k, y = .ref a ∧ H a = some (.tup vs) ∧ NKs H ks vs ∧ NK H k x ∧ k.depth ≤ 8 ∧ Q (.bl (if neg then !decide (k ∈ ks) else decide (k ∈ ks))) H
theorem or_inTF (hu : X.A.units + 65 < cLine) : OpR X (compareOp .In) (rInTF false) := by
  intro pins s σ H x y v u Q I rx ry h
  obtain ⟨a, vs, ks, k, rfl, ha, h⟩ := h
  exact or_inT hu pins s σ H _ _ v u Q I rx ry ⟨a, vs, ks, k, rfl, SqT.of ha, h⟩
theorem or_notInTF (hu : X.A.units + 65 < cLine) : OpR X (compareOp .NotIn) (rInTF true) := by
  intro pins s σ H x y v u Q I rx ry h
  obtain ⟨a, vs, ks, k, rfl, ha, h⟩ := h
  exact or_notInT hu pins s σ H _ _ v u Q I rx ry ⟨a, vs, ks, k, rfl, SqT.of ha, h⟩
/-- x in a list of ints -/
def rInI (neg : Bool) : R2 := fun x y H Q => ∃ (a : Addr) (ns : List Int) (n : Int), x = .int n ∧ y = .ref a ∧ H a = some (.lst (ns.map V.int)) ∧ Q (.bl (if neg then !decide (n ∈ ns) else decide (n ∈ ns))) H
theorem inV_ints {n : Int} : ∀ {ns : List Int}, inV (.int n) (ns.map V.int) = decide (n ∈ ns)
  | [] => rfl
  | m :: ns => by
    have ih := inV_ints (n := n) (ns := ns)
    unfold inV at ih ⊢
    rw [List.map_cons, List.any_cons, ih]
    have e : eqV (.int m) (.int n) = decide (n = m) := by
      show decide (m = n) = decide (n = m)
      by_cases h : m = n
      · simp [h]
      · have h' : ¬ n = m := fun z => h z.symm
        simp [h, h']
    rw [e]
    by_cases h : n = m <;> simp [h]
theorem flat_ints (ns : List Int) : (ns.map V.int).all flatV = true := by
  rw [List.all_map, List.all_eq_true]; intro x _; rfl
theorem or_inI : OpR X (compareOp .In) (rInI false) := by
  intro pins s σ H x y v u Q I rx ry h
  obtain ⟨a, ns, n, rfl, rfl, ha, q⟩ := h
  exact op_in_seq pins s σ H _ _ v u Q I rx ry ⟨a, _, rfl, .inl (SqL.of ha), rfl, flat_ints ns, by rw [inV_ints]; exact q⟩
theorem or_notInI : OpR X (compareOp .NotIn) (rInI true) := by
  intro pins s σ H x y v u Q I rx ry h
  obtain ⟨a, ns, n, rfl, rfl, ha, q⟩ := h
  exact op_notIn_seq pins s σ H _ _ v u Q I rx ry ⟨a, _, rfl, .inl (SqL.of ha), rfl, flat_ints ns, by rw [inV_ints]; exact q⟩
end
/-! ### walks, said simply -/
theorem walkR {n : Nat} : Walk (Itr 0 n) n (fun _ => True) (YFn fun i => .int (i : Nat)) := walk_range.mono (fun _ h => h) fun i H x H' _ _ y => ⟨y.1, y.2.trans (by simp)⟩
def YZ (xs ys : List V) : Nat → Hp → V → Hp → Prop := fun i H v H' => ∃ T x y, v = .ref T ∧ H T = none ∧ H' = upd H T (.tup [x, y]) ∧ xs[i]? = some x ∧ ys[i]? = some y
def YE (xs : List V) : Nat → Hp → V → Hp → Prop := fun i H v H' => ∃ T x, v = .ref T ∧ H T = none ∧ H' = upd H T (.tup [.int (i : Nat), x]) ∧ xs[i]? = some x
section
variable {K : PySem.W.Frag} {a b : Addr} {xs ys : List V}
theorem walkZ {n : Nat} (hn : n = min xs.length ys.length) : Walk (RZ.ItzT K a b) n (fun H => H a = some (.tup xs) ∧ H b = some (.tup ys)) (YZ xs ys) :=
  (walk_zipT hn).mono (fun H h => ⟨SqT.of h.1, SqT.of h.2⟩) fun i H x H' _ _ y => y
theorem walkE : Walk (Ite K a) xs.length (fun H => H a = some (.lst xs)) (YE xs) :=
  walk_enum.mono (fun H h => SqL.of h) fun i H x H' _ _ y => let ⟨T, u, v, h1, h2, h3, h4, h5⟩ := y; ⟨T, v, h1, h2, by cases h4; exact h3, h5⟩
theorem walkET : Walk (Iet K a) xs.length (fun H => H a = some (.tup xs)) (YE xs) :=
  walk_enumT.mono (fun H h => SqT.of h) fun i H x H' _ _ y => let ⟨T, u, v, h1, h2, h3, h4, h5⟩ := y; ⟨T, v, h1, h2, by cases h4; exact h3, h5⟩
theorem walkL : Walk (Itl K a) xs.length (fun H => H a = some (.lst xs)) (YAt xs) := walk_list.mono (fun H h => SqL.of h) fun _ _ _ _ _ _ y => y
theorem walkT : Walk (Itt K a) xs.length (fun H => H a = some (.tup xs)) (YAt xs) := walk_tup.mono (fun H h => SqT.of h) fun _ _ _ _ _ _ y => y
end
/-! ### slices and sums of tuples, said simply -/
section
variable {X : Cx}
theorem cut_all {xs : List V} {lo hi : Option Int} (h : HT.sIx xs.length 0 lo = 0 ∧ HT.sIx xs.length xs.length hi = xs.length) : cutV xs lo hi = xs := by
  unfold cutV
  rw [h.1, h.2]; simp
theorem cut_take (xs : List V) (i : Nat) : cutV xs none (some (i : Int)) = xs.take i := by
  unfold cutV
  rw [HT.sIx_none, HT.sIx_nat]
  simp only [List.drop_zero, Nat.sub_zero]
  by_cases h : i ≤ xs.length
  · rw [Nat.min_eq_left h]
  · rw [Nat.min_eq_right (by omega), List.take_of_length_le (Nat.le_refl _), List.take_of_length_le (by omega)]
theorem cut_drop (xs : List V) (i : Nat) : cutV xs (some (i : Int)) none = xs.drop i := by
  unfold cutV
  rw [HT.sIx_none, HT.sIx_nat]
  by_cases h : i ≤ xs.length
  · rw [Nat.min_eq_left h, List.take_of_length_le (by simp)]
  · rw [Nat.min_eq_right (by omega), List.drop_of_length_le (Nat.le_refl _), List.drop_of_length_le (by omega)]; simp
def rSlI : V → Option Int → Option Int → Hp → VK → Prop := fun x lo hi H Q => ∃ a xs, x = .ref a ∧ H a = some (.tup xs) ∧ ∀ p H', Same H H' → H' p = some (.tup (cutV xs lo hi)) → Q (.ref p) H'
theorem sl_imm : SlR X rSlI := by
  intro pins s σ H x v vl vu lo hi sl Q I rx hs pl pu h
  obtain ⟨a, xs, rfl, ha, q⟩ := h
  exact sl_tupA pins s σ H (.ref a) v vl vu lo hi sl Q I rx hs pl pu ⟨a, xs, rfl, SqT.of ha, fun z => q a H (Same.refl _) (by rw [cut_all z]; exact ha), fun _ p hp => q p _ (same_upd _ hp) upd_same⟩
def rCatI : R2 := fun x y H Q => ∃ a b xs ys, x = .ref a ∧ y = .ref b ∧ H a = some (.tup xs) ∧ H b = some (.tup ys) ∧ xs.length + ys.length ≤ sizeLine ∧ ∀ p H', Same H H' → H' p = some (.tup (xs ++ ys)) → Q (.ref p) H'
theorem op_catI : OpR X (binaryOp .Add) rCatI := by
  intro pins s σ H x y v u Q I rx ry h
  obtain ⟨a, b, xs, ys, rfl, rfl, ha, hb, hl, q⟩ := h
  exact op_catA pins s σ H (.ref a) (.ref b) v u Q I rx ry ⟨a, b, xs, ys, rfl, rfl, SqT.of ha, SqT.of hb, hl, fun e => q b H (Same.refl _) (by rw [e]; exact hb), fun _ e => q a H (Same.refl _) (by rw [e]; simpa using ha), fun _ _ p hp => q p _ (same_upd _ hp) upd_same⟩
/-- tuple(list), list stays -/
theorem call_tupL : CallR X (.type "tuple") (fun xs H Q => ∃ p ys, xs = [.ref p] ∧ H p = some (.lst ys) ∧ ∀ l H', Same H H' → H' l = some (.tup ys) → Q (.ref l) H') := by
  intro pins s σ H xs us Q I r h
  obtain ⟨p, ys, rfl, hp, q⟩ := h
  exact call_tuple_of pins s σ H [.ref p] us Q I r ⟨p, ys, rfl, .inl ⟨SqL.of hp, fun l hl => q l _ (same_upd _ hl) upd_same⟩⟩
end
end S1

/-! L1: the checks -/
namespace S1
open PySem L2
section
variable {P : Program} {w : World} {K : PySem.W.Frag} {mg : Str → Option Value} {base : Heap} {cT cR cS cA : Addr}
abbrev s_is_integer : Stmt := top 3
def sp_is_integer (P : Program) (w : World) (K : PySem.W.Frag) : Sp := fun vs H Q _ => ∃ x t, vs = [x] ∧ Ty P w K H x t ∧ Q (.bl (t == "int")) H
theorem ok_is_integer {f : Addr} {fd : FuncData} (F : Fun K "is_integer" "is_integer" s_is_integer f fd) (T : Txt K mg cT cR cS cA) : FnOk P w K mg base CX0 1 f fd ["thing"] (sp_is_integer P w K) := by
  have sc : FnScope ["thing"] ["thing"] (defScope s_is_integer) := sc_by (by decide +kernel)
  refine F.ok sc (fun vs H Q E h => ?_) (fun cdv A outer s H vs Q E hr h => ?_)
  · obtain ⟨_, _, rfl, _⟩ := h; rfl
  · obtain ⟨x, t, rfl, ty, q⟩ := h
    have hu := hu9 hr
    have hu65 := hu65 hr
    have hu1 := hu1_of hr
    refine ⟨_, (pss_one (ps_ret (pe_and (pe_callB call_isT (by rfl) T.isinstance (by decide +kernel) (pa_cons (pv 0) (pa_cons (pe_bltn (v := .ty "int") rfl T.int (by decide +kernel) rfl) pa_nil))) (pe_one (pe_not (pe_callB call_isT (by rfl) T.isinstance (by decide +kernel) (pa_cons (pv 0) (pa_cons (pe_bltn (v := .ty "bool") rfl T.bool (by decide +kernel) rfl) pa_nil)))))))), ?_⟩
    refine ⟨_, rfl, ?_⟩
    cases ty with
    | non => exact ⟨_, _, _, false, rfl, .non, kit_ty (by decide +kernel), _, rfl, q⟩
    | bl b => exact ⟨_, _, _, true, rfl, .bl b, kit_ty (by decide +kernel), _, rfl, _, rfl, _, _, _, true, rfl, .bl b, kit_ty (by decide +kernel), _, rfl, q⟩
    | int i => exact ⟨_, _, _, true, rfl, .int i, kit_ty (by decide +kernel), _, rfl, _, rfl, _, _, _, false, rfl, .int i, kit_ty (by decide +kernel), _, rfl, q⟩
    | str z => exact ⟨_, _, _, false, rfl, .str z, kit_ty (by decide +kernel), _, rfl, q⟩
    | tup e => exact ⟨_, _, _, false, rfl, .tup e, kit_ty (by decide +kernel), _, rfl, q⟩
    | lst e => exact ⟨_, _, _, false, rfl, .lst e, kit_ty (by decide +kernel), _, rfl, q⟩
    | nd e => exact ⟨_, _, _, false, rfl, .nd e, kit_ty (by decide +kernel), _, rfl, q⟩

abbrev s_is_within : Stmt := top 4
def sp_is_within : Sp := fun vs H Q _ => ∃ x a b : Int, vs = [.int x, .int a, .int b] ∧ Q (.bl (decide (a ≤ x) && decide (x ≤ b))) H
theorem ok_is_within {f : Addr} {fd : FuncData} (F : Fun K "is_within" "is_within" s_is_within f fd) (T : Txt K mg cT cR cS cA) (G_is_integer : Fn P w K mg base 1 "is_integer" ["thing"] (sp_is_integer P w K)) : FnOk P w K mg base CX0 2 f fd ["thing", "least", "most"] sp_is_within := by
  have sc : FnScope ["thing", "least", "most"] ["thing", "least", "most"] (defScope s_is_within) := sc_by (by decide +kernel)
  refine F.ok sc (fun vs H Q E h => ?_) (fun cdv A outer s H vs Q E hr h => ?_)
  · obtain ⟨_, _, _, rfl, _⟩ := h; rfl
  · obtain ⟨x, a, b, rfl, q⟩ := h
    have hu := hu9 hr
    have hu65 := hu65 hr
    have hu1 := hu1_of hr
    refine ⟨_, (pss_one (ps_ret (pe_and (pe_fn G_is_integer (hr.mono (by decide)) rfl (pa_cons (pv 0) pa_nil)) (pe_one (pe_chain op_le op_le (pv 1) (pv 0) (pv 2)))))), ?_⟩
    refine ⟨_, rfl, _, "int", rfl, .int x, true, rfl, ite_t rfl ?_⟩
    refine ⟨_, rfl, _, rfl, _, _, rfl, rfl, _, rfl, ?_⟩
    by_cases e : a ≤ x
    · rw [if_pos (by simpa using e)]
      refine ⟨_, rfl, _, _, rfl, rfl, ?_⟩
      simpa [e] using q
    · rw [if_neg (by simpa using e)]
      simpa [e] using q

abbrev s_is_many : Stmt := top 5
def sp_is_many : Sp := fun vs H Q _ => ∃ n : Int, vs = [.int n] ∧ Q (.bl (decide (3 ≤ n) && decide (n ≤ 5))) H
theorem ok_is_many {f : Addr} {fd : FuncData} (F : Fun K "is_many" "is_many" s_is_many f fd) (T : Txt K mg cT cR cS cA) (G_is_within : Fn P w K mg base 2 "is_within" ["thing", "least", "most"] sp_is_within) : FnOk P w K mg base CX0 3 f fd ["thing"] sp_is_many := by
  have sc : FnScope ["thing"] ["thing"] (defScope s_is_many) := sc_by (by decide +kernel)
  refine F.ok sc (fun vs H Q E h => ?_) (fun cdv A outer s H vs Q E hr h => ?_)
  · obtain ⟨_, rfl, _⟩ := h; rfl
  · obtain ⟨n, rfl, q⟩ := h
    have hu := hu9 hr
    have hu65 := hu65 hr
    have hu1 := hu1_of hr
    refine ⟨_, (pss_one (ps_ret (pe_fn G_is_within (hr.mono (by decide)) rfl (pa_cons (pv 0) (pa_cons (pe_gc (by rfl) T.LEAST_MANY) (pa_cons (pe_gc (by rfl) T.MOST_MANY) pa_nil)))))), ?_⟩
    exact ⟨_, rfl, n, 3, 5, rfl, q⟩

abbrev s_is_sized : Stmt := top 6
def sp_is_sized : Sp := fun vs H Q _ => ∃ (a : Addr) (xs : List V) (lo hi : Int), vs = [.ref a, .int lo, .int hi] ∧ H a = some (.tup xs) ∧ Q (.bl (decide (lo ≤ xs.length) && decide ((xs.length : Int) ≤ hi))) H
theorem ok_is_sized {f : Addr} {fd : FuncData} (F : Fun K "is_sized" "is_sized" s_is_sized f fd) (T : Txt K mg cT cR cS cA) : FnOk P w K mg base CX0 1 f fd ["thing", "least", "most"] sp_is_sized := by
  have sc : FnScope ["thing", "least", "most"] ["thing", "least", "most"] (defScope s_is_sized) := sc_by (by decide +kernel)
  refine F.ok sc (fun vs H Q E h => ?_) (fun cdv A outer s H vs Q E hr h => ?_)
  · obtain ⟨_, _, _, _, rfl, _⟩ := h; rfl
  · obtain ⟨a, xs, lo, hi, rfl, h, q⟩ := h
    have hu := hu9 hr
    have hu65 := hu65 hr
    have hu1 := hu1_of hr
    refine ⟨_, (pss_one (ps_ret (pe_and (pe_callB call_isT (by rfl) T.isinstance (by decide +kernel) (pa_cons (pv 0) (pa_cons (pe_bltn (v := .ty "tuple") rfl T.tuple (by decide +kernel) rfl) pa_nil))) (pe_one (pe_chain op_le op_le (pv 1) (pe_callB lenF (by rfl) T.len (by decide +kernel) (pa_cons (pv 0) pa_nil)) (pv 2)))))), ?_⟩
    refine ⟨_, rfl, _, _, _, true, rfl, .tup h, kit_ty (by decide +kernel), _, rfl, ite_t rfl ?_⟩
    refine ⟨_, rfl, _, rfl, a, _, rfl, .inr h, _, _, rfl, rfl, _, rfl, ?_⟩
    by_cases e : lo ≤ (xs.length : Int)
    · rw [if_pos (by simpa using e)]
      refine ⟨_, rfl, _, _, rfl, rfl, ?_⟩
      simpa [e] using q
    · rw [if_neg (by simpa using e)]
      simpa [e] using q

abbrev s_is_pair : Stmt := top 7
def sp_is_pair : Sp := fun vs H Q _ => ∃ (a : Addr) (x y : V), vs = [.ref a] ∧ H a = some (.tup [x, y]) ∧ Q (.bl true) H
theorem ok_is_pair {f : Addr} {fd : FuncData} (F : Fun K "is_pair" "is_pair" s_is_pair f fd) (T : Txt K mg cT cR cS cA) (G_is_sized : Fn P w K mg base 1 "is_sized" ["thing", "least", "most"] sp_is_sized) : FnOk P w K mg base CX0 2 f fd ["thing"] sp_is_pair := by
  have sc : FnScope ["thing"] ["thing"] (defScope s_is_pair) := sc_by (by decide +kernel)
  refine F.ok sc (fun vs H Q E h => ?_) (fun cdv A outer s H vs Q E hr h => ?_)
  · obtain ⟨_, _, _, rfl, _⟩ := h; rfl
  · obtain ⟨a, x, y, rfl, h, q⟩ := h
    have hu := hu9 hr
    have hu65 := hu65 hr
    have hu1 := hu1_of hr
    refine ⟨_, (pss_one (ps_ret (pe_fn G_is_sized (hr.mono (by decide)) rfl (pa_cons (pv 0) (pa_cons pe_int (pa_cons pe_int pa_nil)))))), ?_⟩
    exact ⟨_, rfl, a, _, 2, 2, rfl, h, q⟩

abbrev s_is_row_of : Stmt := top 8
def sp_is_row_of : Sp := fun vs H Q _ => ∃ (a : Addr) (ns : List Int), vs = [.ref a, .int ns.length] ∧ H a = some (.tup (ns.map V.int)) ∧ ns.length ≤ 1000 ∧ ∀ H', Same H H' → Q (.bl true) H'
theorem ok_is_row_of {f : Addr} {fd : FuncData} (F : Fun K "is_row_of" "is_row_of" s_is_row_of f fd) (T : Txt K mg cT cR cS cA) (G_is_sized : Fn P w K mg base 1 "is_sized" ["thing", "least", "most"] sp_is_sized) (G_is_integer : Fn P w K mg base 1 "is_integer" ["thing"] (sp_is_integer P w K)) : FnOk P w K mg base CX0 2 f fd ["thing", "many"] sp_is_row_of := by
  have sc : FnScope ["thing", "many", "item"] ["thing", "many"] (defScope s_is_row_of) := sc_by (by decide +kernel)
  refine F.ok sc (fun vs H Q E h => ?_) (fun cdv A outer s H vs Q E hr h => ?_)
  · obtain ⟨_, _, rfl, _⟩ := h; rfl
  · obtain ⟨a, ns, rfl, h, hn, q⟩ := h
    have hu := hu9 hr
    have hu65 := hu65 hr
    have hu1 := hu1_of hr
    refine ⟨_, (pss_one (ps_ret (pe_and (pe_fn G_is_sized (hr.mono (by decide)) rfl (pa_cons (pv 0) (pa_cons (pv 1) (pa_cons (pv 1) pa_nil)))) (pe_one (pe_callB (allF rfl) (by rfl) T.all_ (by decide +kernel) (pa_cons (pe_lc (own := [("item", 2)]) rfl sc.nd (pi_tup (pv 0)) (blkOk_by (by kernel_rfl)) (fun _ _ _ _ _ => (pg_name (i := 2) sc.nd rfl (Or.inl rfl) (Or.inr rfl))) (fun _ _ _ _ _ => pts_nil) (fun _ _ _ _ _ => (pe_fn G_is_integer (hr.mono (by decide)) rfl (pa_cons (pv 2) pa_nil)))) pa_nil)))))), ?_⟩
    refine ⟨_, rfl, _, rfl, _, rfl, a, _, _, _, rfl, h, _, rfl, ?_⟩
    rw [if_pos (by simp)]
    refine ⟨_, rfl, a, rfl, ⟨_, SqT.of h⟩, fun D hD => lc_map (walkT (xs := ns.map V.int)) [] (by simp) (by simp; omega) hD (fun H' k => k a _ h (by simp)) (fun i _ acc => acc = (List.replicate i true).map V.bl) rfl (fun i x H1 H2 acc Kf hi k hacc hl hR hY hK => ?_) (fun H1 acc k hacc hl hR => ?_)⟩
    · obtain ⟨rfl, hx⟩ := hY
      rw [List.getElem?_map] at hx
      obtain ⟨n, _, rfl⟩ := Option.map_eq_some_iff.mp hx
      refine ⟨rfl, _, rfl, _, "int", rfl, .int n, hK _ _ (Keep.refl _ _) ?_⟩
      rw [hR]
      simp [List.replicate_succ', show ("int" == "int") = true from rfl]
    · refine ⟨_, _, rfl, hacc.trans (by rw [hR]), ?_⟩
      rw [show (List.replicate (ns.map V.int).length true).all id = true by simp]
      exact q _ (Keep.same k)

abbrev s_are_rising : Stmt := top 9
def sp_are_rising : Sp := fun vs H Q _ => ∃ (a : Addr) (rows : List (List Int)), vs = [.ref a] ∧ NK H (lotK rows) (.ref a) ∧ Rising rows ∧ rows.length ≤ 1000 ∧ ∀ H', Same H H' → Q (.bl true) H'
theorem ok_are_rising {f : Addr} {fd : FuncData} (F : Fun K "are_rising" "are_rising" s_are_rising f fd) (T : Txt K mg cT cR cS cA) : FnOk P w K mg base CX0 1 f fd ["things"] sp_are_rising := by
  have sc : FnScope ["things", "one", "other"] ["things"] (defScope s_are_rising) := sc_by (by decide +kernel)
  refine F.ok sc (fun vs H Q E h => ?_) (fun cdv A outer s H vs Q E hr h => ?_)
  · obtain ⟨_, _, rfl, _⟩ := h; rfl
  · obtain ⟨a, rows, rfl, h, hr2, hn, q⟩ := h
    have hu := hu9 hr
    have hu65 := hu65 hr
    have hu1 := hu1_of hr
    refine ⟨_, (pss_one (ps_ret (pe_callB (allF rfl) (by rfl) T.all_ (by decide +kernel) (pa_cons (pe_lc (own := [("one", 1), ("other", 2)]) rfl sc.nd (RZ.pi_zipA (by rfl) T.zip (pa_cons (pv 0) (pa_cons (pe_slice sl_imm (pv 0) (po_some pe_int) po_none) pa_nil))) (blkOk_by (by kernel_rfl)) (fun _ _ _ _ _ => (pg_tu 2 rfl (pgs_cons (pg_name (i := 1) sc.nd rfl (Or.inl rfl) (Or.inr rfl)) (pgs_cons (pg_name (i := 2) sc.nd rfl (Or.inl rfl) (Or.inr rfl)) pgs_nil)))) (fun _ _ _ _ _ => pts_nil) (fun _ _ _ _ _ => (pe_cmpR (by exact op_ltF hr.units0) (pv 1) (pv 2) (nomark _)))) pa_nil)))), ?_⟩
    obtain ⟨_, us, e, ha, hks⟩ := h
    cases e
    have hlu := hks.lenK
    refine ⟨_, rfl, _, rfl, 1, rfl, a, _, rfl, ha, fun p H1 s1 hp => ?_⟩
    rw [show (some (1 : Int)) = some ((1 : Nat) : Int) from rfl, cut_drop] at hp
    refine ⟨a, p, us, us.drop 1, rfl, .inr ⟨SqT.of (s1 _ _ ha), SqT.of hp, fun D hD => lc_map (walkZ (xs := us) (ys := us.drop 1) rfl) [] (by simp) (by simp; omega) hD (fun H' k => ⟨k a _ (s1 _ _ ha) (by simp), k p _ hp (by simp)⟩) (fun i _ acc => acc = (List.replicate i true).map V.bl) rfl (fun i x H1' H2 acc Kf hi k hacc hl hR hY hK => ?_) (fun H1' acc k hacc hl hR => ?_)⟩⟩
    · obtain ⟨t, x, y, rfl, ht, rfl, hx, hy⟩ := hY
      rw [List.getElem?_drop] at hy
      obtain ⟨r1, e1, n1⟩ := hks.atK hx
      obtain ⟨r2, e2, n2⟩ := hks.atK hy
      obtain ⟨b1, rfl, g1⟩ := n1.rowI
      obtain ⟨b2, rfl, g2⟩ := n2.rowI
      have st : Same H (upd H1' t (.tup [.ref b1, .ref b2])) := fun b o e => same_upd _ ht b o (k b o (s1 b o e) (by simp))
      refine ⟨t, _, rfl, upd_same, rfl, _, _, rfl, _, _, rfl, rfl, rfl, ?_⟩
      refine ⟨_, rfl, _, rfl, b1, b2, r1, r2, rfl, rfl, st _ _ g1, st _ _ g2, hK _ _ (Keep.of_same (same_upd _ ht)) ?_⟩
      rw [hR, rising_at hr2 e1 (by rw [Nat.add_comm]; exact e2)]
      simp [List.replicate_succ']
    · refine ⟨_, _, rfl, hacc.trans (by rw [hR]), ?_⟩
      rw [show (List.replicate (min us.length (us.drop 1).length) true).all id = true by simp]
      exact q _ (s1.trans (Keep.same k))

abbrev s_check_many : Stmt := top 17
def sp_check_many : Sp := fun vs H Q _ => ∃ n : Int, vs = [.int n] ∧ 3 ≤ n ∧ n ≤ 5 ∧ Q .non H
theorem ok_check_many {f : Addr} {fd : FuncData} (F : Fun K "check_many" "check_many" s_check_many f fd) (T : Txt K mg cT cR cS cA) (G_is_many : Fn P w K mg base 3 "is_many" ["thing"] sp_is_many) : FnOk P w K mg base CX0 4 f fd ["thing"] sp_check_many := by
  have sc : FnScope ["thing"] ["thing"] (defScope s_check_many) := sc_by (by decide +kernel)
  refine F.ok sc (fun vs H Q E h => ?_) (fun cdv A outer s H vs Q E hr h => ?_)
  · obtain ⟨_, rfl, _⟩ := h; rfl
  · obtain ⟨n, rfl, h1, h2, q⟩ := h
    have hu := hu9 hr
    have hu65 := hu65 hr
    have hu1 := hu1_of hr
    refine ⟨_, (pss_one (ps_if (pt_not (pt_val (pe_fn G_is_many (hr.mono (by decide)) rfl (pa_cons (pv 0) pa_nil))))
        pss_never
        pss_nil)), ?_⟩
    refine ⟨_, rfl, n, rfl, _, rfl, ?_⟩
    exact ite_f (by simp [h1, h2]) q

abbrev s_check_rounds : Stmt := top 18
def sp_check_rounds : Sp := fun vs H Q _ => ∃ n : Int, vs = [.int n] ∧ 0 ≤ n ∧ n ≤ 30 ∧ Q .non H
theorem ok_check_rounds {f : Addr} {fd : FuncData} (F : Fun K "check_rounds" "check_rounds" s_check_rounds f fd) (T : Txt K mg cT cR cS cA) (G_is_within : Fn P w K mg base 2 "is_within" ["thing", "least", "most"] sp_is_within) : FnOk P w K mg base CX0 3 f fd ["thing"] sp_check_rounds := by
  have sc : FnScope ["thing"] ["thing"] (defScope s_check_rounds) := sc_by (by decide +kernel)
  refine F.ok sc (fun vs H Q E h => ?_) (fun cdv A outer s H vs Q E hr h => ?_)
  · obtain ⟨_, rfl, _⟩ := h; rfl
  · obtain ⟨n, rfl, h1, h2, q⟩ := h
    have hu := hu9 hr
    have hu65 := hu65 hr
    have hu1 := hu1_of hr
    refine ⟨_, (pss_one (ps_if (pt_not (pt_val (pe_fn G_is_within (hr.mono (by decide)) rfl (pa_cons (pv 0) (pa_cons pe_int (pa_cons (pe_gc (by rfl) T.MOST_ROUNDS) pa_nil))))))
        pss_never
        pss_nil)), ?_⟩
    refine ⟨_, rfl, n, 0, 30, rfl, _, rfl, ?_⟩
    exact ite_f (by simp [h1, h2]) q

abbrev s_check_viewed : Stmt := top 31
def sp_check_viewed : Sp := fun vs H Q _ => ∃ n : Int, vs = [.int n] ∧ 0 ≤ n ∧ n ≤ 4 ∧ Q .non H
theorem ok_check_viewed {f : Addr} {fd : FuncData} (F : Fun K "check_viewed" "check_viewed" s_check_viewed f fd) (T : Txt K mg cT cR cS cA) (G_is_within : Fn P w K mg base 2 "is_within" ["thing", "least", "most"] sp_is_within) : FnOk P w K mg base CX0 3 f fd ["rounds"] sp_check_viewed := by
  have sc : FnScope ["rounds"] ["rounds"] (defScope s_check_viewed) := sc_by (by decide +kernel)
  refine F.ok sc (fun vs H Q E h => ?_) (fun cdv A outer s H vs Q E hr h => ?_)
  · obtain ⟨_, rfl, _⟩ := h; rfl
  · obtain ⟨n, rfl, h1, h2, q⟩ := h
    have hu := hu9 hr
    have hu65 := hu65 hr
    have hu1 := hu1_of hr
    refine ⟨_, (pss_one (ps_if (pt_not (pt_val (pe_fn G_is_within (hr.mono (by decide)) rfl (pa_cons (pv 0) (pa_cons pe_int (pa_cons (pe_gc (by rfl) T.MOST_VIEWED) pa_nil))))))
        pss_never
        pss_nil)), ?_⟩
    refine ⟨_, rfl, n, 0, 4, rfl, _, rfl, ?_⟩
    exact ite_f (by simp [h1, h2]) q

end
end S1

/-! L2: the task -/
namespace S1
open PySem L2
section
variable {P : Program} {w : World} {K : PySem.W.Frag} {mg : Str → Option Value} {base : Heap} {cT cR cS cA : Addr}
abbrev s_is_small_row : Stmt := top 43
def sp_is_small_row : Sp := fun vs H Q _ => ∃ (a : Addr) (ns : List Int), vs = [.ref a, .int 3] ∧ H a = some (.tup (ns.map V.int)) ∧ Row3 ns ∧ ∀ H', Same H H' → Q (.bl true) H'
theorem ok_is_small_row {f : Addr} {fd : FuncData} (F : Fun K "is_small_row" "is_small_row" s_is_small_row f fd) (T : Txt K mg cT cR cS cA) (G_is_row_of : Fn P w K mg base 2 "is_row_of" ["thing", "many"] sp_is_row_of) : FnOk P w K mg base CX0 3 f fd ["thing", "many"] sp_is_small_row := by
  have sc : FnScope ["thing", "many", "item"] ["thing", "many"] (defScope s_is_small_row) := sc_by (by decide +kernel)
  refine F.ok sc (fun vs H Q E h => ?_) (fun cdv A outer s H vs Q E hr h => ?_)
  · obtain ⟨_, _, rfl, _⟩ := h; rfl
  · obtain ⟨a, ns, rfl, h, h3, q⟩ := h
    have hu := hu9 hr
    have hu65 := hu65 hr
    have hu1 := hu1_of hr
    refine ⟨_, (pss_one (ps_ret (pe_and (pe_fn G_is_row_of (hr.mono (by decide)) rfl (pa_cons (pv 0) (pa_cons (pv 1) pa_nil))) (pe_one (pe_callB (allF rfl) (by rfl) T.all_ (by decide +kernel) (pa_cons (pe_lc (own := [("item", 2)]) rfl sc.nd (pi_tup (pv 0)) (blkOk_by (by kernel_rfl)) (fun _ _ _ _ _ => (pg_name (i := 2) sc.nd rfl (Or.inl rfl) (Or.inr rfl))) (fun _ _ _ _ _ => pts_nil) (fun _ _ _ _ _ => (pe_chain op_le op_le pe_int (pv 2) (pe_gc (by rfl) T.MOST_NUMBER)))) pa_nil)))))), ?_⟩
    have e3 := h3.1
    refine ⟨_, rfl, _, rfl, a, ns, by rw [e3]; rfl, h, by omega, fun H1 s1 => ⟨_, rfl, ite_t rfl ?_⟩⟩
    refine ⟨_, rfl, a, rfl, ⟨_, SqT.of (s1 _ _ h)⟩, fun D hD => lc_map (walkT (xs := ns.map V.int)) [] (by simp) (by simp [e3]) hD (fun H' k => k a _ (s1 _ _ h) (by simp)) (fun i _ acc => acc = (List.replicate i true).map V.bl) rfl (fun i x H1' H2 acc Kf hi k hacc hl hR hY hK => ?_) (fun H1' acc k hacc hl hR => ?_)⟩
    · obtain ⟨rfl, hx⟩ := hY
      rw [List.getElem?_map] at hx
      obtain ⟨n, hn, rfl⟩ := Option.map_eq_some_iff.mp hx
      have hb := h3.2 n (List.mem_of_getElem? hn)
      refine ⟨rfl, _, rfl, _, _, rfl, rfl, _, rfl, ite_t (by simpa using hb.1) ?_⟩
      refine ⟨_, _, rfl, rfl, hK _ _ (Keep.refl _ _) ?_⟩
      rw [hR]
      simp [List.replicate_succ', show n ≤ 9999 by omega]
    · refine ⟨_, _, rfl, hacc.trans (by rw [hR]), ?_⟩
      rw [show (List.replicate (ns.map V.int).length true).all id = true by simp]
      exact q _ (s1.trans (Keep.same k))

abbrev s_is_small_lot : Stmt := top 44
def sp_is_small_lot : Sp := fun vs H Q _ => ∃ (a : Addr) (l : List (List Int)), vs = [.ref a, .int 3] ∧ NK H (lotK l) (.ref a) ∧ LotOk l ∧ ∀ H', Same H H' → Q (.bl true) H'
theorem ok_is_small_lot {f : Addr} {fd : FuncData} (F : Fun K "is_small_lot" "is_small_lot" s_is_small_lot f fd) (T : Txt K mg cT cR cS cA) (G_is_sized : Fn P w K mg base 1 "is_sized" ["thing", "least", "most"] sp_is_sized) (G_is_small_row : Fn P w K mg base 3 "is_small_row" ["thing", "many"] sp_is_small_row) (G_are_rising : Fn P w K mg base 1 "are_rising" ["things"] sp_are_rising) : FnOk P w K mg base CX0 4 f fd ["thing", "many"] sp_is_small_lot := by
  have sc : FnScope ["thing", "many", "row"] ["thing", "many"] (defScope s_is_small_lot) := sc_by (by decide +kernel)
  refine F.ok sc (fun vs H Q E h => ?_) (fun cdv A outer s H vs Q E hr h => ?_)
  · obtain ⟨_, _, rfl, _⟩ := h; rfl
  · obtain ⟨a, l, rfl, h, hl, q⟩ := h
    have hu := hu9 hr
    have hu65 := hu65 hr
    have hu1 := hu1_of hr
    refine ⟨_, (pss_cons (ps_if (PW.pt (pw_or (pt_not (pt_val (pe_fn G_is_sized (hr.mono (by decide)) rfl (pa_cons (pv 0) (pa_cons pe_int (pa_cons (pe_gc (by rfl) T.MOST_ROWS) pa_nil)))))) (pw_or1 (pt_not (pt_val (pe_callB (allF rfl) (by rfl) T.all_ (by decide +kernel) (pa_cons (pe_lc (own := [("row", 2)]) rfl sc.nd (pi_tup (pv 0)) (blkOk_by (by kernel_rfl)) (fun _ _ _ _ _ => (pg_name (i := 2) sc.nd rfl (Or.inl rfl) (Or.inr rfl))) (fun _ _ _ _ _ => pts_nil) (fun _ _ _ _ _ => (pe_fn G_is_small_row (hr.mono (by decide)) rfl (pa_cons (pv 2) (pa_cons (pv 1) pa_nil))))) pa_nil)))))))
        (pss_one (ps_ret pe_bl))
        pss_nil)
      (pss_one (ps_ret (pe_fn G_are_rising (hr.mono (by decide)) rfl (pa_cons (pv 0) pa_nil))))), ?_⟩
    obtain ⟨_, us, e, ha, hks⟩ := id h
    cases e
    have hlu := hks.lenK
    have h1 := hl.pos
    have h2 := hl.few
    refine ⟨_, rfl, a, us, 1, 60, rfl, ha, _, rfl, ite_f (by simp; omega) ?_⟩
    refine ⟨_, rfl, a, rfl, ⟨_, SqT.of ha⟩, fun D hD => lc_map (walkT (xs := us)) [] (by simp) (by omega) hD (fun H' k => k a _ ha (by simp)) (fun i _ acc => acc = (List.replicate i true).map V.bl) rfl (fun i x H1' H2 acc Kf hi k hacc hl2 hR hY hK => ?_) (fun H1' acc k hacc hl2 hR => ?_)⟩
    · obtain ⟨rfl, hx⟩ := hY
      obtain ⟨r, er, nr⟩ := hks.atK hx
      obtain ⟨b, rfl, g⟩ := nr.rowI
      refine ⟨rfl, _, rfl, _, rfl, b, r, rfl, k _ _ g (by simp), hl.rows r (List.mem_of_getElem? er), fun H3 s3 => hK _ _ (Keep.of_same s3) ?_⟩
      rw [hR]
      simp [List.replicate_succ']
    · refine ⟨_, _, rfl, hacc.trans (by rw [hR]), _, rfl, ?_⟩
      rw [show (List.replicate us.length true).all id = true by simp]
      refine ite_f rfl ?_
      exact ⟨_, rfl, a, l, rfl, NK.mono (KeepT.of_same (Keep.same k)) _ _ h, hl.rise, by omega, fun H3 s3 => q _ ((Keep.same k).trans s3)⟩

abbrev s_is_inputs_with_lot : Stmt := top 45
def sp_is_inputs_with_lot : Sp := fun vs H Q _ => ∃ (a : Addr) (r : List Int) (l : List (List Int)), vs = [.ref a, .int 3] ∧ NK H (.tup [rowK r, lotK l]) (.ref a) ∧ Row3 r ∧ LotOk l ∧ ∀ H', Same H H' → Q (.bl true) H'
theorem ok_is_inputs_with_lot {f : Addr} {fd : FuncData} (F : Fun K "is_inputs_with_lot" "is_inputs_with_lot" s_is_inputs_with_lot f fd) (T : Txt K mg cT cR cS cA) (G_is_pair : Fn P w K mg base 2 "is_pair" ["thing"] sp_is_pair) (G_is_small_row : Fn P w K mg base 3 "is_small_row" ["thing", "many"] sp_is_small_row) (G_is_small_lot : Fn P w K mg base 4 "is_small_lot" ["thing", "many"] sp_is_small_lot) : FnOk P w K mg base CX0 5 f fd ["thing", "many"] sp_is_inputs_with_lot := by
  have sc : FnScope ["thing", "many"] ["thing", "many"] (defScope s_is_inputs_with_lot) := sc_by (by decide +kernel)
  refine F.ok sc (fun vs H Q E h => ?_) (fun cdv A outer s H vs Q E hr h => ?_)
  · obtain ⟨_, _, _, rfl, _⟩ := h; rfl
  · obtain ⟨a, r, l, rfl, h, h3, hl, q⟩ := h
    have hu := hu9 hr
    have hu65 := hu65 hr
    have hu1 := hu1_of hr
    refine ⟨_, (pss_one (ps_ret (pe_and (pe_fn G_is_pair (hr.mono (by decide)) rfl (pa_cons (pv 0) pa_nil)) (pe_and (pe_fn G_is_small_row (hr.mono (by decide)) rfl (pa_cons (pe_ix ixt (pv 0) pe_int (fun _ _ => rfl)) (pa_cons (pv 1) pa_nil))) (pe_one (pe_fn G_is_small_lot (hr.mono (by decide)) rfl (pa_cons (pe_ix ixt (pv 0) pe_int (fun _ _ => rfl)) (pa_cons (pv 1) pa_nil)))))))), ?_⟩
    obtain ⟨_, us, e, ha, hks⟩ := id h
    cases e
    obtain ⟨x, _, rfl, hx, y, _, rfl, hy, rfl⟩ := hks
    obtain ⟨b, rfl, g⟩ := hx.rowI
    refine ⟨_, rfl, a, _, _, rfl, ha, _, rfl, ite_t rfl ?_⟩
    refine ⟨_, rfl, a, _, 0, _, rfl, rfl, ha, rfl, _, rfl, b, r, rfl, g, h3, fun H1 s1 => ⟨_, rfl, ite_t rfl ?_⟩⟩
    obtain ⟨c, vs, rfl, hc, hcs⟩ := id hy
    exact ⟨_, rfl, a, _, 1, _, rfl, rfl, s1 _ _ ha, rfl, _, rfl, c, l, rfl, NK.mono (KeepT.of_same s1) _ _ hy, hl, fun H3 s3 => q _ (s1.trans s3)⟩

abbrev s_bad_part : Stmt := top 46
def sp_bad_part : Sp := fun vs H Q _ => ∃ (a : Addr) (L : Lots), vs = [.int 3, .ref a] ∧ NK H (lotsK L) (.ref a) ∧ LotsOk L ∧ ∀ H', Same H H' → Q .non H'
theorem ok_bad_part {f : Addr} {fd : FuncData} (F : Fun K "bad_part" "bad_part" s_bad_part f fd) (T : Txt K mg cT cR cS cA) (G_is_many : Fn P w K mg base 3 "is_many" ["thing"] sp_is_many) (G_is_sized : Fn P w K mg base 1 "is_sized" ["thing", "least", "most"] sp_is_sized) (G_is_inputs_with_lot : Fn P w K mg base 5 "is_inputs_with_lot" ["thing", "many"] sp_is_inputs_with_lot) : FnOk P w K mg base CX0 6 f fd ["many", "lots"] sp_bad_part := by
  have sc : FnScope ["many", "lots", "number", "thing"] ["many", "lots"] (defScope s_bad_part) := sc_by (by decide +kernel)
  refine F.ok sc (fun vs H Q E h => ?_) (fun cdv A outer s H vs Q E hr h => ?_)
  · obtain ⟨_, _, rfl, _⟩ := h; rfl
  · obtain ⟨a, L, rfl, h, hL, q⟩ := h
    have hu := hu9 hr
    have hu65 := hu65 hr
    have hu1 := hu1_of hr
    refine ⟨_, (pss_cons (ps_if (pt_not (pt_val (pe_fn G_is_many (hr.mono (by decide)) rfl (pa_cons (pv 0) pa_nil))))
        (pss_one (ps_ret pe_str))
        pss_nil)
      (pss_cons (ps_if (pt_not (pt_val (pe_fn G_is_sized (hr.mono (by decide)) rfl (pa_cons (pv 1) (pa_cons pe_int (pa_cons (pe_gc (by rfl) T.MOST_INPUTS) pa_nil))))))
        (pss_one (ps_ret pe_str))
        pss_nil)
      (pss_cons (ps_for PassesOwn.never rfl (pi_enumT (by rfl) T.enumerate (pa_cons (pv 1) pa_nil)) (pg_tu 2 rfl (pgs_cons (pg_name (i := 2) sc.nd rfl (Or.inl rfl) (Or.inl rfl)) (pgs_cons (pg_name (i := 3) sc.nd rfl (Or.inl rfl) (Or.inl rfl)) pgs_nil)))
        (pss_one (ps_if (PW.pt (pw_or (pt_not (pt_val (pe_fn G_is_inputs_with_lot (hr.mono (by decide)) rfl (pa_cons (pv 3) (pa_cons (pv 0) pa_nil))))) (pw_or1 (PW.pt (pw_and (pt_cmpR op_gt (pv 2) pe_int (nomark _)) (pw_and1 (pt_not (pt_cmpR (by exact op_ltF hr.units0) (pe_ix ixt (pe_ix ixt (pv 1) (pe_op op_sub (pv 2) pe_int) (fun _ _ => rfl)) pe_int (fun _ _ => rfl)) (pe_ix ixt (pv 3) pe_int (fun _ _ => rfl)) (nomark _)))))))))
            (pss_one (ps_ret (pv 2)))
            pss_nil)))
      (pss_one (ps_ret pe_non))))), ?_⟩
    obtain ⟨_, us, e, ha, hks⟩ := id h
    cases e
    have hlu := hks.lenK
    have h1 := hL.pos
    have h2 := hL.few
    refine ⟨_, rfl, 3, rfl, _, rfl, ite_f rfl ?_⟩
    refine ⟨_, rfl, a, us, 1, 60, rfl, ha, _, rfl, ite_f (by simp; omega) ?_⟩
    refine ⟨_, rfl, a, us, rfl, SqT.of ha, for_it walkET (fun i σ H' => ∃ v3 v4, σ = [some (.int 3), some (.ref a), v3, v4] ∧ Same H H') ⟨none, none, rfl, Same.refl H⟩ (fun i σ H' _ ⟨_, _, _, s⟩ => s _ _ ha) ?_ ?_⟩
    · rintro i x σ H1 H2 hi ⟨v3, v4, rfl, s1⟩ ⟨T0, y, rfl, hT, rfl, hy⟩
      obtain ⟨⟨r, l⟩, ep, np⟩ := hks.atK hy
      obtain ⟨b, ws, rfl, hb, hws⟩ := id np
      have hm := List.mem_of_getElem? ep
      have s2 : Same H (upd H1 T0 (.tup [.int i, .ref b])) := s1.trans (same_upd _ hT)
      refine ⟨T0, _, rfl, upd_same, rfl, _, _, rfl, _, _, rfl, rfl, ?_⟩
      refine ⟨_, rfl, _, rfl, b, r, l, rfl, NK.mono (KeepT.of_same s2) _ _ np, hL.ins _ hm, hL.lots _ hm, fun H3 s3 => ⟨_, rfl, ite_f rfl ?_⟩⟩
      have s4 := s2.trans s3
      refine ⟨_, rfl, _, _, rfl, rfl, _, rfl, ?_⟩
      by_cases h0 : i = 0
      · subst h0
        refine ite_f (by simp) (ite_f rfl ?_)
        exact ⟨_, _, rfl, s4⟩
      · refine ite_t (by simp; omega) ?_
        obtain ⟨j, rfl⟩ : ∃ j, i = j + 1 := ⟨i - 1, by omega⟩
        have hjl : j < us.length := by omega
        obtain ⟨⟨r', l'⟩, ep', np'⟩ := hks.atK (List.getElem?_eq_getElem hjl)
        obtain ⟨b', ws', eb', hb', hws'⟩ := id np'
        obtain ⟨x1, _, rfl, hx1, x2, _, rfl, hx2, rfl⟩ := id hws
        obtain ⟨x1', _, rfl, hx1', x2', _, rfl, hx2', rfl⟩ := id hws'
        obtain ⟨c, rfl, gc⟩ := hx1.rowI
        obtain ⟨c', rfl, gc'⟩ := hx1'.rowI
        refine ⟨_, rfl, _, rfl, _, _, rfl, rfl, a, us, j, .ref b', rfl, by show V.int ((j + 1 : Nat) - 1 : Int) = _; congr 1; omega, s4 _ _ ha, by rw [List.getElem?_eq_getElem hjl, eb'], b', _, 0, _, rfl, rfl, s4 _ _ hb', rfl, _, rfl, b, _, 0, _, rfl, rfl, s4 _ _ hb, rfl, c', c, r', r, rfl, rfl, s4 _ _ gc', s4 _ _ gc, _, rfl, ?_⟩
        have hlt : HT.lexLt r' r = true := rising_at hL.rise (i := j) (by rw [List.getElem?_map, ep']; rfl) (by rw [List.getElem?_map, ep]; rfl)
        rw [hlt]
        refine ite_f rfl ?_
        exact ⟨_, _, rfl, s4⟩
    · rintro σ H1 ⟨v3, v4, rfl, s1⟩
      exact q _ s1

abbrev s_raw_rest : Stmt := top 47
def sp_raw_rest : Sp := fun vs H Q _ => ∃ (a : Addr) (ns : List Int) (i : Nat), vs = [.ref a, .int i] ∧ H a = some (.tup (ns.map V.int)) ∧ ns.length ≤ 1000 ∧ ∀ p H', Same H H' → NK H' (.tup [.num i, rowK (ns.take i ++ ns.drop (i + 1))]) (.ref p) → Q (.ref p) H'
theorem ok_raw_rest {f : Addr} {fd : FuncData} (F : Fun K "raw_rest" "raw_rest" s_raw_rest f fd) (T : Txt K mg cT cR cS cA) : FnOk P w K mg base CX0 1 f fd ["row", "i"] sp_raw_rest := by
  have sc : FnScope ["row", "i"] ["row", "i"] (defScope s_raw_rest) := sc_by (by decide +kernel)
  refine F.ok sc (fun vs H Q E h => ?_) (fun cdv A outer s H vs Q E hr h => ?_)
  · obtain ⟨_, _, _, rfl, _⟩ := h; rfl
  · obtain ⟨a, ns, i, rfl, h, hn, q⟩ := h
    have hu := hu9 hr
    have hu65 := hu65 hr
    have hu1 := hu1_of hr
    refine ⟨_, (pss_one (ps_ret (pe_tup (pa_cons (pv 1) (pa_cons (pe_op op_catI (pe_slice sl_imm (pv 0) po_none (po_some (pv 1))) (pe_slice sl_imm (pv 0) (po_some (pe_op op_add (pv 1) pe_int)) po_none)) pa_nil))))), ?_⟩
    refine ⟨_, rfl, _, rfl, _, rfl, _, rfl, a, _, rfl, h, fun p1 H1 s1 h1 => ?_⟩
    rw [cut_take] at h1
    refine ⟨_, rfl, _, rfl, _, _, rfl, rfl, _, rfl, a, _, rfl, s1 _ _ h, fun p2 H2 s2 h2 => ?_⟩
    rw [show (some ((i : Int) + 1)) = some ((i + 1 : Nat) : Int) by simp, cut_drop] at h2
    refine ⟨p1, p2, _, _, rfl, rfl, s2 _ _ h1, h2, by simp [sizeLine_eq]; omega, fun p3 H3 s3 h3 => ?_⟩
    refine ⟨by show 2 ≤ sizeLine; decide, fun p hp => ?_⟩
    have s4 : Same H (upd H3 p (.tup [.int i, .ref p3])) := ((s1.trans s2).trans s3).trans (same_upd _ hp)
    refine q p _ s4 ⟨p, _, rfl, upd_same, _, _, rfl, rfl, _, _, rfl, NK.row.mpr ⟨p3, rfl, ?_⟩, rfl⟩
    rw [same_upd _ hp _ _ h3]
    simp [List.map_take, List.map_drop]

end
end S1

/-! L3: the task, made -/
namespace S1
open PySem L2
section
variable {P : Program} {w : World} {K : PySem.W.Frag} {mg : Str → Option Value} {base : Heap} {cT cR cS cA : Addr}
theorem addKey_len (ks : List NestedKey) (k : NestedKey) : (addKey ks k).length ≤ ks.length + 1 := by
  unfold addKey; split <;> simp
theorem addAt_len {G : NestedKey → List V} {n : Nat} (h : ∀ k, (G k).length ≤ n) (k : NestedKey) (x : V) : ∀ j, (addAt G k x j).length ≤ n + 1 := fun j => by
  have := h j
  unfold addAt
  split
  · rw [List.length_append, List.length_singleton]; omega
  · omega
theorem depth_row (r : List Int) : (rowK r).depth ≤ 2 := by
  have : ∀ l : List Int, NestedKey.depthAll (l.map NestedKey.num) ≤ 1 := by
    intro l
    induction l with
    | nil => simp [NestedKey.depthAll]
    | cons a l ih => simp only [List.map_cons, NestedKey.depthAll, NestedKey.depth]; omega
  have := this r
  show NestedKey.depthAll (r.map .num) + 1 ≤ 2
  omega
abbrev s_completing_of : Stmt := top 48
def sp_completing_of : Sp := fun vs H Q _ => ∃ (a : Addr) (L : Lots), vs = [.int 3, .ref a] ∧ NK H (lotsK L) (.ref a) ∧ LotsOk L ∧ ∀ v H', Same H H' → Q v H'
theorem ok_completing_of {f : Addr} {fd : FuncData} (F : Fun K "completing_of" "completing_of" s_completing_of f fd) (T : Txt K mg cT cR cS cA) (G_raw_rest : Fn P w K mg base 1 "raw_rest" ["row", "i"] sp_raw_rest) : FnOk P w K mg base CX0 2 f fd ["many", "lots"] sp_completing_of := by
  have sc : FnScope ["many", "lots", "found", "inputs", "lot", "i"] ["many", "lots"] (defScope s_completing_of) := sc_by (by decide +kernel)
  refine F.ok sc (fun vs H Q E h => ?_) (fun cdv A outer s H vs Q E hr h => ?_)
  · obtain ⟨_, _, rfl, _⟩ := h; rfl
  · obtain ⟨a, L, rfl, h, hL, q⟩ := h
    have hu := hu9 hr
    have hu65 := hu65 hr
    have hu1 := hu1_of hr
    refine ⟨_, (pss_cons (ps_set (i := 2) sc.nd rfl (Or.inl rfl) pe_dnewN)
      (pss_cons (ps_for PassesOwn.never rfl (pi_tup (pv 1)) (pg_tu 2 rfl (pgs_cons (pg_name (i := 3) sc.nd rfl (Or.inl rfl) (Or.inl rfl)) (pgs_cons (pg_name (i := 4) sc.nd rfl (Or.inl rfl) (Or.inl rfl)) pgs_nil)))
        (pss_one (ps_for PassesOwn.never rfl (pi_range1 (by rfl) T.range (pa_cons (pv 0) pa_nil)) (pg_name (i := 5) sc.nd rfl (Or.inl rfl) (Or.inl rfl))
            (pss_one (ps_expr (pe_bm PySem.F.plainAttrs_list PySem.F.slot_list_append PySem.F.type_list_append mt_append (pe_mG (ty_ndP P w) PySem.F.plainAttrs_dict PySem.F.slot_dict_setdefault PySem.F.type_dict_setdefault (mt_nsetd hu) (pv 2) (pa_cons (pe_fn G_raw_rest (hr.mono (by decide)) rfl (pa_cons (pv 3) (pa_cons (pv 5) pa_nil))) (pa_cons (pe_lst pa_nil) pa_nil))) (pa_cons (pv 3) pa_nil)))))))
      (pss_one (ps_ret (pv 2))))), ?_⟩
    obtain ⟨_, us, e, ha, hks⟩ := id h
    cases e
    have hlu := hks.lenK
    have h2 := hL.few
    refine fun p H1 hp s1 nd => ?_
    refine ⟨_, rfl, a, rfl, ⟨_, SqT.of (s1 _ _ ha)⟩, for_it walkT (fun i σ H' => ∃ ks G o v3 v4 v5, σ = [some (.int 3), some (.ref a), some (.ref p), v3, v4, v5] ∧ Same H H' ∧ DL P w H H' p ks G o ∧ ks.length ≤ 3 * i ∧ ∀ k, (G k).length ≤ 3 * i) ⟨[], _, _, none, none, none, rfl, s1, DL.new (Same.refl H) hp nd, Nat.zero_le _, fun k => Nat.zero_le _⟩ (fun i σ H' _ ⟨_, _, _, _, _, _, _, s, _⟩ => s _ _ ha) ?_ ?_⟩
    · rintro i x σ H2 H2' hi ⟨ks, G, o, v3, v4, v5, rfl, s2, dl, hkl, hgl⟩ ⟨rfl, hx⟩
      obtain ⟨⟨r, l⟩, ep, np⟩ := hks.atK hx
      obtain ⟨b, ws, rfl, hb, hws⟩ := id np
      obtain ⟨x1, _, rfl, hx1, x2, _, rfl, hx2, rfl⟩ := id hws
      obtain ⟨c, rfl, gc⟩ := hx1.rowI
      have hm := List.mem_of_getElem? ep
      have h3 := (hL.ins _ hm).1
      refine ⟨b, _, rfl, s2 _ _ hb, rfl, _, _, rfl, _, _, rfl, rfl, ?_⟩
      refine ⟨_, rfl, 3, rfl, by decide, by decide, for_it (n := 3) walkR (fun j σ H' => ∃ ks G o v5, σ = [some (.int 3), some (.ref a), some (.ref p), some (.ref c), some x2, v5] ∧ Same H H' ∧ DL P w H H' p ks G o ∧ ks.length ≤ 3 * i + j ∧ ∀ k, (G k).length ≤ 3 * i + j) ⟨ks, G, o, v5, rfl, s2, dl, hkl, hgl⟩ (fun _ _ _ _ _ => trivial) ?_ ?_⟩
      · rintro j x σ H3 H3' hj ⟨ks, G, o, v5, rfl, s3, dl, hkl, hgl⟩ ⟨rfl, rfl⟩
        refine ⟨_, rfl, ⟨p, _, rfl, dl.nd.rd⟩, _, rfl, _, rfl, c, r, j, rfl, s3 _ _ gc, by rw [h3]; decide, fun p1 H4 s4 n4 => ?_⟩
        refine ⟨Nat.zero_le _, fun z hz => ?_⟩
        have s5 : Same H4 (upd H4 z (.lst [])) := same_upd _ hz
        have hd : NestedKey.depth (.tup [.num j, rowK (r.take j ++ r.drop (j + 1))]) ≤ 8 := by
          have := depth_row (r.take j ++ r.drop (j + 1))
          simp only [NestedKey.depth, NestedKey.depthAll]; omega
        simp only [tNil]
        refine dl_set dl (s4.trans s5) (s4.free hz) (NK.mono (KeepT.of_same s5) _ _ n4) hd upd_same ((s3.trans s4).free hz) (by omega) (fun l H6 o' e6 e0 k6 fin => ?_)
        have hgk := hgl (.tup [.num j, rowK (r.take j ++ r.drop (j + 1))])
        refine ⟨.inl ⟨rfl, _, SqL.of e6⟩, _, rfl, l, _, _, rfl, rfl, e6, by rw [sizeLine_eq]; omega, _, _, o', _, rfl, ?_, fin _, ?_, ?_⟩
        · intro b' o1 e1
          have nb : b' ≠ l := fun z1 => by rw [z1, e0] at e1; cases e1
          rw [upd_ne nb]
          refine k6 _ _ (s5 _ _ (s4 _ _ (s3 _ _ e1))) ?_
          rw [List.mem_singleton]
          exact fun z1 => by rw [z1, dl.d0] at e1; cases e1
        · have := addKey_len ks (.tup [.num j, rowK (r.take j ++ r.drop (j + 1))]); omega
        · exact addAt_len hgl _ _
      · rintro σ H3 ⟨ks, G, o, v5, rfl, s3, dl, hkl, hgl⟩
        exact ⟨ks, G, o, _, _, v5, rfl, s3, dl, by omega, fun k => by have := hgl k; omega⟩
    · rintro σ H2 ⟨ks, G, o, v3, v4, v5, rfl, s2, dl, hkl, hgl⟩
      exact ⟨_, rfl, q _ _ s2⟩

/-- a task stands at p, its lots at a -/
def TaskAt (cT : Addr) (H : Hp) (p a : Addr) : Prop := ∃ dx fs, H p = some (.ins cT dx fs) ∧ fs.lookup ("many" : Str) = some (.int 3) ∧ fs.lookup ("lots" : Str) = some (.ref a)
theorem TaskAt.mono {H H' : Hp} {p a : Addr} (h : TaskAt cT H p a) (s : Same H H') : TaskAt cT H' p a := let ⟨dx, fs, e, r⟩ := h; ⟨dx, fs, s _ _ e, r⟩
abbrev s_Task_keep : Stmt := inClass (top 49) 1
def sp_Task_keep (cT : Addr) : Sp := fun vs H Q _ => ∃ (p dx a : Addr) (L : Lots), vs = [.ref p, .int 3, .ref a] ∧ H p = some (.ins cT dx []) ∧ NK H (lotsK L) (.ref a) ∧ LotsOk L ∧ ∀ H', Keep [p] H H' → TaskAt cT H' p a → Q .non H'
theorem ok_Task_keep {f : Addr} {fd : FuncData} (F : Fun K "keep" "Task.keep" s_Task_keep f fd) (T : Txt K mg cT cR cS cA) (G_completing_of : Fn P w K mg base 2 "completing_of" ["many", "lots"] sp_completing_of) : FnOk P w K mg base CX0 3 f fd ["self", "many", "lots"] (sp_Task_keep cT) := by
  have sc : FnScope ["self", "many", "lots", "inputs", "lot"] ["self", "many", "lots"] (defScope s_Task_keep) := sc_by (by decide +kernel)
  refine F.ok sc (fun vs H Q E h => ?_) (fun cdv A outer s H vs Q E hr h => ?_)
  · obtain ⟨_, _, _, _, rfl, _⟩ := h; rfl
  · obtain ⟨p, dx, a, L, rfl, hp, h, hL, q⟩ := h
    have hu := hu9 hr
    have hu65 := hu65 hr
    have hu1 := hu1_of hr
    refine ⟨_, (pss_cons (ps_fl T.clT T.nT_many (pv 0) (pv 1) rfl)
      (pss_cons (ps_fl T.clT T.nT_lots (pv 0) (pv 2) rfl)
      (pss_cons (ps_fl T.clT T.nT_kept_lots (pv 0) (pe_dcN (own := [("inputs", 3), ("lot", 4)]) hu rfl sc.nd (pi_tup (pv 2)) (blkOk_by (by kernel_rfl)) (fun _ _ _ _ _ => (pg_tu 2 rfl (pgs_cons (pg_name (i := 3) sc.nd rfl (Or.inl rfl) (Or.inr rfl)) (pgs_cons (pg_name (i := 4) sc.nd rfl (Or.inl rfl) (Or.inr rfl)) pgs_nil)))) (fun _ _ _ _ _ => pts_nil) (fun _ _ _ _ _ => (pv 3)) (fun _ _ _ _ _ => (pv 4))) rfl)
      (pss_one (ps_fl T.clT T.nT_kept_completing (pv 0) (pe_fn G_completing_of (hr.mono (by decide)) rfl (pa_cons (pv 1) (pa_cons (pv 2) pa_nil))) rfl))))), ?_⟩
    obtain ⟨_, us, e, ha, hks⟩ := id h
    cases e
    have hlu := hks.lenK
    have h2 := hL.few
    have nap : a ≠ p := fun z => by rw [z, hp] at ha; cases ha
    refine ⟨_, rfl, _, rfl, p, dx, [], rfl, hp, by decide, ?_⟩
    refine ⟨_, rfl, _, rfl, p, dx, _, rfl, upd_same, of_decide_eq_true (by kernel_rfl), ?_⟩
    generalize hH2 : upd (upd H p (.ins cT dx (putF "many" (.int 3) []))) p _ = H2
    have e2 : H2 p = some (.ins cT dx (putF "lots" (.ref a) (putF "many" (.int 3) []))) := by rw [← hH2, upd_same]
    have k2 : Keep [p] H H2 := fun b o e n => by rw [← hH2, upd_ne (by simpa using n), upd_ne (by simpa using n)]; exact e
    have ha2 : H2 a = some (.tup us) := k2 _ _ ha (by simpa using nap)
    refine ⟨_, rfl, a, rfl, ⟨_, SqT.of ha2⟩, fun D hD => dc_map walkT (by omega) hD (fun H' s => s _ _ ha2) (fun _ _ => True) trivial (fun i x H3 H4 kvs Kf hi sm nd r hY hK => ?_) (fun H3 kvs sm nd r => ?_)⟩
    · obtain ⟨rfl, hx⟩ := hY
      obtain ⟨⟨r, l⟩, ep, np⟩ := hks.atK hx
      obtain ⟨b, ws, rfl, hb, hws⟩ := id np
      obtain ⟨x1, _, rfl, hx1, x2, _, rfl, hx2, rfl⟩ := id hws
      obtain ⟨c, rfl, gc⟩ := hx1.rowI
      have nt : ∀ b ys, H b = some (.tup ys) → H4 b = some (.tup ys) := fun b ys e => sm _ _ (k2 _ _ e (by rw [List.mem_singleton]; exact fun z => by rw [z, hp] at e; cases e))
      refine ⟨b, _, rfl, nt _ _ hb, rfl, _, _, rfl, _, _, rfl, rfl, rfl, ?_⟩
      exact ⟨_, rfl, _, rfl, hK _ _ _ _ (Same.refl _) (NK.row.mpr ⟨c, rfl, nt _ _ gc⟩) (by have := depth_row r; show (rowK r).depth ≤ 8; omega) trivial⟩
    · refine ⟨_, rfl, p, dx, _, rfl, sm _ _ e2, of_decide_eq_true (by kernel_rfl), ?_⟩
      generalize hH4 : upd H3 p _ = H4
      have e4 : H4 p = some (.ins cT dx (putF "kept_lots" (.ref D) (putF "lots" (.ref a) (putF "many" (.int 3) [])))) := by rw [← hH4, upd_same]
      have k4 : Keep [p] H H4 := fun b o e n => by rw [← hH4, upd_ne (by simpa using n)]; exact sm _ _ (k2 b o e n)
      refine ⟨_, rfl, _, rfl, a, L, rfl, NK.mono (k4.keepT fun b hb ys e => by rw [List.mem_singleton.mp hb, hp] at e; cases e) _ _ h, hL, fun v H5 s5 => ?_⟩
      refine ⟨_, rfl, p, dx, _, rfl, s5 _ _ e4, of_decide_eq_true (by kernel_rfl), ?_⟩
      refine q _ (fun b o e n => ?_) ⟨dx, _, upd_same, by kernel_rfl, by kernel_rfl⟩
      rw [upd_ne (by simpa using n)]
      exact s5 _ _ (k4 b o e n)

abbrev s_Task___init__ : Stmt := inClass (top 49) 0
def sp_Task___init__ (cT : Addr) : Sp := fun vs H Q _ => ∃ (p dx a : Addr) (L : Lots), vs = [.ref p, .int 3, .ref a] ∧ H p = some (.ins cT dx []) ∧ NK H (lotsK L) (.ref a) ∧ LotsOk L ∧ ∀ H', Keep [p] H H' → TaskAt cT H' p a → Q .non H'
theorem ok_Task___init__ {f : Addr} {fd : FuncData} (F : Fun K "__init__" "Task.__init__" s_Task___init__ f fd) (T : Txt K mg cT cR cS cA) (G_bad_part : Fn P w K mg base 6 "bad_part" ["many", "lots"] sp_bad_part) (G_keep : Me P w K mg base 3 cT "keep" ["self", "many", "lots"] (sp_Task_keep cT)) : FnOk P w K mg base CX0 7 f fd ["self", "many", "lots"] (sp_Task___init__ cT) := by
  have sc : FnScope ["self", "many", "lots", "part"] ["self", "many", "lots"] (defScope s_Task___init__) := sc_by (by decide +kernel)
  refine F.ok sc (fun vs H Q E h => ?_) (fun cdv A outer s H vs Q E hr h => ?_)
  · obtain ⟨_, _, _, _, rfl, _⟩ := h; rfl
  · obtain ⟨p, dx, a, L, rfl, hp, h, hL, q⟩ := h
    have hu := hu9 hr
    have hu65 := hu65 hr
    have hu1 := hu1_of hr
    refine ⟨_, (pss_cons (ps_set (i := 3) sc.nd rfl (Or.inl rfl) (pe_fn G_bad_part (hr.mono (by decide)) rfl (pa_cons (pv 1) (pa_cons (pv 2) pa_nil))))
      (pss_cons (ps_if (pt_cmp (pc_notN (pv 3)))
        pss_never
        pss_nil)
      (pss_one (ps_expr (pe_me G_keep T.clT (hr.mono (by decide)) (pv 0) (pa_cons (pv 1) (pa_cons (pv 2) pa_nil))))))), ?_⟩
    refine ⟨_, rfl, _, rfl, a, L, rfl, h, hL, fun H1 s1 => ?_⟩
    refine ⟨_, rfl, _, rfl, ite_f rfl ?_⟩
    exact ⟨_, rfl, p, dx, [], rfl, s1 _ _ hp, rfl, _, rfl, _, rfl, p, dx, a, L, rfl, s1 _ _ hp, NK.mono (KeepT.of_same s1) _ _ h, hL, fun H2 k2 t2 => q _ (fun b o e n => k2 b o (s1 _ _ e) n) t2⟩

end
end S1

/-! L4: patterns and views -/
namespace S1
open PySem L2
/-- the figures of n to the base 3, m of them, the one worth most first -/
def figN (m n : Nat) : List Nat := ((List.range m).map fun j => n / 3 ^ j % 3).reverse
def missK (me f : Nat) : NestedKey := if f = 0 then .none else if f ≤ me then .num ((f : Int) - 1) else .num f
def missV (me f : Nat) : V := if f = 0 then .non else if f ≤ me then .int ((f : Int) - 1) else .int f
abbrev Pat := List (List NestedKey)
def patL (r n : Nat) : Pat := (List.range r).map fun i => (List.range 3).map fun me => missK me ((figN (3 * r) n).getD (3 * i + me) 0)
def patK (p : Pat) : NestedKey := .tup (p.map .tup)
/-- behind one round -/
def stepK (views : List NestedKey) (misses : List NestedKey) : List NestedKey := misses.map fun missed => .tup (views.mapIdx fun other v => if missed = .num other then .none else v)
def viewsK (r : List Int) (p : Pat) : List NestedKey := p.foldl stepK (r.map fun x => .tup [.num x])
theorem missNK {H : Hp} {me f : Nat} : NK H (missK me f) (missV me f) := by
  unfold missK missV
  split
  · rfl
  · split <;> rfl
section
variable {P : Program} {w : World} {K : PySem.W.Frag} {mg : Str → Option Value} {base : Heap} {cT cR cS cA : Addr}
abbrev s_raw_count : Stmt := top 19
def sp_raw_count : Sp := fun vs H Q _ => ∃ r : Nat, vs = [.int 3, .int r] ∧ r ≤ 1 ∧ Q (.int ((3 ^ (3 * r) : Nat) : Int)) H
theorem ok_raw_count {f : Addr} {fd : FuncData} (F : Fun K "raw_count" "raw_count" s_raw_count f fd) (T : Txt K mg cT cR cS cA) : FnOk P w K mg base CX0 1 f fd ["many", "rounds"] sp_raw_count := by
  have sc : FnScope ["many", "rounds", "found", "turn"] ["many", "rounds"] (defScope s_raw_count) := sc_by (by decide +kernel)
  refine F.ok sc (fun vs H Q E h => ?_) (fun cdv A outer s H vs Q E hr h => ?_)
  · obtain ⟨_, rfl, _⟩ := h; rfl
  · obtain ⟨r, rfl, hr1, q⟩ := h
    have hu := hu9 hr
    have hu65 := hu65 hr
    have hu1 := hu1_of hr
    refine ⟨_, (pss_cons (ps_set (i := 2) sc.nd rfl (Or.inl rfl) pe_int)
      (pss_cons (ps_for PassesOwn.never rfl (pi_range1 (by rfl) T.range (pa_cons (pe_op op_mul (pv 0) (pv 1)) pa_nil)) (pg_name (i := 3) sc.nd rfl (Or.inl rfl) (Or.inl rfl))
        (pss_one (ps_set (i := 2) sc.nd rfl (Or.inl rfl) (pe_op op_mul (pv 2) (pv 0)))))
      (pss_one (ps_ret (pv 2))))), ?_⟩
    refine ⟨_, rfl, _, rfl, _, _, rfl, rfl, .inl ⟨by decide, by decide⟩, ((3 * r : Nat) : Int), by push_cast; rfl, by omega, by omega, for_it (n := 3 * r) walkR (fun i σ H' => ∃ v, σ = [some (.int 3), some (.int r), some (.int ((3 ^ i : Nat) : Int)), v] ∧ H' = H) ⟨none, rfl, rfl⟩ (fun _ _ _ _ _ => trivial) ?_ ?_⟩
    · rintro i x σ H2 H2' hi ⟨v, rfl, rfl⟩ ⟨rfl, rfl⟩
      refine ⟨_, rfl, _, rfl, _, _, rfl, rfl, .inr ⟨by decide, by decide⟩, some (.int i), ?_, rfl⟩
      show [some (V.int 3), some (.int r), some (.int (((3 ^ i : Nat) : Int) * 3)), some (.int i)] = _
      rw [Nat.pow_succ]
      push_cast; rfl
    · rintro σ H2 ⟨v, rfl, rfl⟩
      exact ⟨_, rfl, q⟩

abbrev s_count_patterns : Stmt := top 20
def sp_count_patterns : Sp := fun vs H Q _ => ∃ r : Nat, vs = [.int 3, .int r] ∧ r ≤ 1 ∧ Q (.int ((3 ^ (3 * r) : Nat) : Int)) H
theorem ok_count_patterns {f : Addr} {fd : FuncData} (F : Fun K "count_patterns" "count_patterns" s_count_patterns f fd) (T : Txt K mg cT cR cS cA) (G_check_many : Fn P w K mg base 4 "check_many" ["thing"] sp_check_many) (G_check_rounds : Fn P w K mg base 3 "check_rounds" ["thing"] sp_check_rounds) (G_raw_count : Fn P w K mg base 1 "raw_count" ["many", "rounds"] sp_raw_count) : FnOk P w K mg base CX0 5 f fd ["many", "rounds"] sp_count_patterns := by
  have sc : FnScope ["many", "rounds"] ["many", "rounds"] (defScope s_count_patterns) := sc_by (by decide +kernel)
  refine F.ok sc (fun vs H Q E h => ?_) (fun cdv A outer s H vs Q E hr h => ?_)
  · obtain ⟨_, rfl, _⟩ := h; rfl
  · obtain ⟨r, rfl, hr1, q⟩ := h
    have hu := hu9 hr
    have hu65 := hu65 hr
    have hu1 := hu1_of hr
    refine ⟨_, (pss_cons (ps_expr (pe_fn G_check_many (hr.mono (by decide)) rfl (pa_cons (pv 0) pa_nil)))
      (pss_cons (ps_expr (pe_fn G_check_rounds (hr.mono (by decide)) rfl (pa_cons (pv 1) pa_nil)))
      (pss_one (ps_ret (pe_fn G_raw_count (hr.mono (by decide)) rfl (pa_cons (pv 0) (pa_cons (pv 1) pa_nil))))))), ?_⟩
    exact ⟨_, rfl, 3, rfl, by decide, by decide, _, rfl, r, rfl, by omega, by omega, _, rfl, _, rfl, r, rfl, hr1, q⟩

abbrev s_figures_of : Stmt := top 21
def sp_figures_of : Sp := fun vs H Q _ => ∃ m n : Nat, vs = [.int 3, .int m, .int n] ∧ m ≤ 3 ∧ ∀ p H', Same H H' → H' p = some (.lst ((figN m n).map fun x => V.int (x : Nat))) → Q (.ref p) H'
theorem ok_figures_of {f : Addr} {fd : FuncData} (F : Fun K "figures_of" "figures_of" s_figures_of f fd) (T : Txt K mg cT cR cS cA) : FnOk P w K mg base CX0 1 f fd ["base", "places", "number"] sp_figures_of := by
  have sc : FnScope ["base", "places", "number", "found", "place"] ["base", "places", "number"] (defScope s_figures_of) := sc_by (by decide +kernel)
  refine F.ok sc (fun vs H Q E h => ?_) (fun cdv A outer s H vs Q E hr h => ?_)
  · obtain ⟨_, _, rfl, _⟩ := h; rfl
  · obtain ⟨m, n, rfl, hm, q⟩ := h
    have hu := hu9 hr
    have hu65 := hu65 hr
    have hu1 := hu1_of hr
    refine ⟨_, (pss_cons (ps_set (i := 3) sc.nd rfl (Or.inl rfl) (pe_lst pa_nil))
      (pss_cons (ps_for PassesOwn.never rfl (pi_range1 (by rfl) T.range (pa_cons (pv 1) pa_nil)) (pg_name (i := 4) sc.nd rfl (Or.inl rfl) (Or.inl rfl))
        (pss_cons (ps_expr (pe_bm PySem.F.plainAttrs_list PySem.F.slot_list_append PySem.F.type_list_append mt_append (pv 3) (pa_cons (pe_op op_mod (pv 2) (pv 0)) pa_nil)))
          (pss_one (ps_aug (i := 2) sc.nd rfl (Or.inl rfl) (pv 0) iop_fdiv))))
      (pss_one (ps_ret (pe_revL (pv 3)))))), ?_⟩
    refine ⟨Nat.zero_le _, fun p hp => ?_⟩
    refine ⟨_, rfl, (m : Int), rfl, by omega, by omega, for_it (n := m) walkR (fun i σ H' => ∃ v, σ = [some (.int 3), some (.int m), some (.int ((n / 3 ^ i : Nat) : Int)), some (.ref p), v] ∧ Same H H' ∧ H' p = some (.lst ((List.range i).map fun j => V.int ((n / 3 ^ j % 3 : Nat) : Int)))) ⟨none, by rw [Nat.pow_zero, Nat.div_one]; rfl, same_upd _ hp, upd_same⟩ (fun _ _ _ _ _ => trivial) ?_ ?_⟩
    · rintro i x σ H2 H2' hi ⟨v, rfl, s2, e2⟩ ⟨rfl, rfl⟩
      refine ⟨_, rfl, .inl ⟨rfl, _, SqL.of e2⟩, _, rfl, _, rfl, _, _, rfl, rfl, (by decide : (0 : Int) < 3), _, _, _, rfl, rfl, e2, by simp [sizeLine_eq]; omega, ?_⟩
      refine ⟨_, rfl, _, rfl, _, _, rfl, rfl, ⟨by decide, by decide⟩, some (.int i), ?_, same_lst hp s2, ?_⟩
      · show [some (V.int 3), some (.int m), some (.int (((n / 3 ^ i : Nat) : Int) / 3)), some (.ref p), some (.int i)] = _
        rw [Nat.pow_succ, ← Nat.div_div_eq_div_mul]
        push_cast; rfl
      · rw [upd_same, List.range_succ, List.map_append]
        simp
    · rintro σ H2 ⟨v, rfl, s2, e2⟩
      refine ⟨_, rfl, p, _, rfl, SqL.of e2, fun p2 hp2 => q _ _ (s2.trans (same_upd _ hp2)) ?_⟩
      rw [upd_same]
      simp [figN, List.map_reverse]

abbrev s_miss_of : Stmt := top 22
def sp_miss_of : Sp := fun vs H Q _ => ∃ me f : Nat, vs = [.int me, .int f] ∧ Q (missV me f) H
theorem ok_miss_of {f : Addr} {fd : FuncData} (F : Fun K "miss_of" "miss_of" s_miss_of f fd) (T : Txt K mg cT cR cS cA) : FnOk P w K mg base CX0 1 f fd ["me", "figure"] sp_miss_of := by
  have sc : FnScope ["me", "figure"] ["me", "figure"] (defScope s_miss_of) := sc_by (by decide +kernel)
  refine F.ok sc (fun vs H Q E h => ?_) (fun cdv A outer s H vs Q E hr h => ?_)
  · obtain ⟨_, _, rfl, _⟩ := h; rfl
  · obtain ⟨me, f, rfl, q⟩ := h
    have hu := hu9 hr
    have hu65 := hu65 hr
    have hu1 := hu1_of hr
    refine ⟨_, (pss_cons (ps_if (pt_cmpR op_eq (pv 1) pe_int (nomark _))
        (pss_one (ps_ret pe_non))
        pss_nil)
      (pss_one (ps_ret (pe_ifExp (pt_cmpR op_le (pv 1) (pv 0) (nomark _)) (pe_op op_sub (pv 1) pe_int) (pv 1))))), ?_⟩
    unfold missV at q
    refine ⟨_, rfl, rfl, ?_⟩
    by_cases h0 : f = 0
    · subst h0
      exact ⟨_, rfl, ite_t rfl q⟩
    · refine ⟨_, rfl, ite_f (by simp; omega) ?_⟩
      rw [if_neg h0] at q
      refine ⟨_, rfl, _, rfl, _, _, rfl, rfl, ?_⟩
      by_cases h1 : f ≤ me
      · rw [if_pos h1] at q
        refine ⟨_, rfl, ite_t (by simp; omega) ?_⟩
        exact ⟨_, rfl, _, _, rfl, rfl, q⟩
      · rw [if_neg h1] at q
        refine ⟨_, rfl, ite_f (by simp; omega) ?_⟩
        exact ⟨_, rfl, q⟩

abbrev s_raw_pattern : Stmt := top 23
def sp_raw_pattern : Sp := fun vs H Q _ => ∃ r n : Nat, vs = [.int 3, .int r, .int n] ∧ r ≤ 1 ∧ ∀ v H', Same H H' → NK H' (patK (patL r n)) v → Q v H'
theorem ok_raw_pattern {f : Addr} {fd : FuncData} (F : Fun K "raw_pattern" "raw_pattern" s_raw_pattern f fd) (T : Txt K mg cT cR cS cA) (G_figures_of : Fn P w K mg base 1 "figures_of" ["base", "places", "number"] sp_figures_of) (G_miss_of : Fn P w K mg base 1 "miss_of" ["me", "figure"] sp_miss_of) : FnOk P w K mg base CX0 2 f fd ["many", "rounds", "number"] sp_raw_pattern := by
  have sc : FnScope ["many", "rounds", "number", "figures", "found", "at", "me"] ["many", "rounds", "number"] (defScope s_raw_pattern) := sc_by (by decide +kernel)
  refine F.ok sc (fun vs H Q E h => ?_) (fun cdv A outer s H vs Q E hr h => ?_)
  · obtain ⟨_, _, rfl, _⟩ := h; rfl
  · obtain ⟨r, n, rfl, hr1, q⟩ := h
    have hu := hu9 hr
    have hu65 := hu65 hr
    have hu1 := hu1_of hr
    refine ⟨_, (pss_cons (ps_set (i := 3) sc.nd rfl (Or.inr rfl) (pe_fn G_figures_of (hr.mono (by decide)) rfl (pa_cons (pv 0) (pa_cons (pe_op op_mul (pv 0) (pv 1)) (pa_cons (pv 2) pa_nil)))))
      (pss_cons (ps_set (i := 4) sc.nd rfl (Or.inl rfl) (pe_lst pa_nil))
      (pss_cons (ps_for PassesOwn.never rfl (pi_range3 (by rfl) T.range (pa_cons pe_int (pa_cons (pe_callB lenF (by rfl) T.len (by decide +kernel) (pa_cons (pv 3) pa_nil)) (pa_cons (pv 0) pa_nil)))) (pg_name (i := 5) sc.nd rfl (Or.inr rfl) (Or.inl rfl))
        (pss_one (ps_expr (pe_bm PySem.F.plainAttrs_list PySem.F.slot_list_append PySem.F.type_list_append mt_append (pv 4) (pa_cons (pe_callTy call_tupL (by rfl) T.tuple (by decide +kernel) (pa_cons (pe_lc (own := [("me", 6)]) rfl sc.nd (pi_range1 (by rfl) T.range (pa_cons (pv 0) pa_nil)) (blkOk_by (by kernel_rfl)) (fun _ _ _ _ _ => (pg_name (i := 6) sc.nd rfl (Or.inl rfl) (Or.inr rfl))) (fun _ _ _ _ _ => pts_nil) (fun _ _ _ _ _ => (pe_fn G_miss_of (hr.mono (by decide)) rfl (pa_cons (pv 6) (pa_cons (pe_ix ixl (pv 3) (pe_op op_add (pv 5) (pv 6)) (fun _ _ => rfl)) pa_nil))))) pa_nil)) pa_nil)))))
      (pss_one (ps_ret (pe_callTy call_tupL (by rfl) T.tuple (by decide +kernel) (pa_cons (pv 4) pa_nil))))))), ?_⟩
    refine ⟨_, rfl, _, rfl, _, rfl, _, _, rfl, rfl, .inl ⟨by decide, by decide⟩, _, rfl, 3 * r, n, by push_cast; rfl, by omega, fun p H1 s1 e1 => ?_⟩
    refine ⟨Nat.zero_le _, fun p2 hp2 => ?_⟩
    have nep : p ≠ p2 := fun z => by rw [z, hp2] at e1; cases e1
    have hlen : (figN (3 * r) n).length = 3 * r := by simp [figN]
    refine ⟨_, rfl, p, _, rfl, .inl (by rw [upd_ne nep]; exact e1), _, rfl, 0, _, 3, r, rfl, ?_, for_it (n := r) walk_rangeC (fun i σ H' => ∃ v5 v6 vs, σ = [some (.int 3), some (.int r), some (.int n), some (.ref p), some (.ref p2), v5, v6] ∧ Same H1 H' ∧ H' p2 = some (.lst vs) ∧ vs.length = i ∧ NKs H' (((patL r n).take i).map .tup) vs) ⟨none, none, [], rfl, same_upd _ hp2, upd_same, rfl, rfl⟩ (fun _ _ _ _ _ => trivial) ?_ ?_⟩
    · rw [List.length_map, hlen]
      obtain rfl | rfl : r = 0 ∨ r = 1 := by omega
      · exact ⟨by decide, by decide, by decide, by decide⟩
      · exact ⟨by decide, by decide, by decide, by decide⟩
    · rintro i x σ H2 H2' hi ⟨v5, v6, vs, rfl, s2, e2, l2, k2⟩ ⟨rfl, rfl⟩
      refine ⟨_, rfl, .inl ⟨rfl, _, SqL.of e2⟩, ?_⟩
      refine ⟨_, rfl, 3, rfl, by decide, by decide, fun D hD => lc_map (walkR (n := 3)) [] (by simp) (by decide) hD (fun _ _ => trivial) (fun j _ acc => acc = (List.range j).map fun me => missV me ((figN (3 * r) n).getD (3 * i + me) 0)) rfl (fun j x H3 H4 acc Kf hj k3 hacc hl hR hY hK => ?_) (fun H3 acc k3 hacc hl hR => ?_)⟩
      · obtain ⟨rfl, rfl⟩ := hY
        have hlt : 3 * i + j < (figN (3 * r) n).length := by omega
        refine ⟨rfl, _, rfl, _, rfl, _, rfl, _, rfl, _, _, rfl, rfl, p, _, 3 * i + j, V.int (((figN (3 * r) n).getD (3 * i + j) 0 : Nat) : Int), rfl, ?_, k3 _ _ (s2 _ _ e1) (by simp), ?_, j, _, rfl, hK _ _ (Keep.refl _ _) ?_⟩
        · show V.int ((0 + (i : Int) * 3) + (j : Int)) = _
          congr 1; push_cast; omega
        · rw [List.getElem?_map, List.getElem?_eq_getElem hlt, List.getD_eq_getElem?_getD, List.getElem?_eq_getElem hlt]
          rfl
        · rw [hR, List.range_succ, List.map_append]; rfl
      · have s3 : Same H2' H3 := Keep.same k3
        refine ⟨D, _, rfl, hacc, fun t H5 s5 e5 => ?_⟩
        have ne : p2 ≠ D := fun z => by rw [← z, e2] at hD; cases hD
        have ne2 : p2 ≠ t := fun z => by rw [← z, s5 _ _ (s3 _ _ e2)] at e5; cases e5
        refine ⟨p2, _, _, rfl, rfl, s5 _ _ (s3 _ _ e2), by rw [sizeLine_eq]; omega, _, _, _, rfl, same_lst hp2 ((s2.trans s3).trans s5), upd_same, by simp [l2], ?_⟩
        have kt : KeepT H2' (upd H5 p2 (.lst (vs ++ [.ref t]))) := fun b xs e => by rw [upd_ne (fun z => by rw [z, e2] at e; cases e)]; exact s5 _ _ (s3 _ _ e)
        have hpl : (patL r n)[i]? = some ((List.range 3).map fun me => missK me ((figN (3 * r) n).getD (3 * i + me) 0)) := by simp [patL, hi]
        rw [List.take_add_one, hpl, List.map_append]
        refine NKs.snoc (NKs.mono kt _ _ k2) ⟨t, acc, rfl, by rw [upd_ne ne2.symm]; exact e5, ?_⟩
        rw [hR]
        exact ⟨_, _, rfl, missNK, _, _, rfl, missNK, _, _, rfl, missNK, rfl⟩
    · rintro σ H2 ⟨v5, v6, vs, rfl, s2, e2, l2, k2⟩
      rw [List.take_of_length_le (by simp [patL])] at k2
      refine ⟨_, rfl, p2, vs, rfl, e2, fun t H3 s3 e3 => q _ _ ((s1.trans s2).trans s3) ⟨t, vs, rfl, e3, NKs.mono (KeepT.of_same s3) _ _ k2⟩⟩

abbrev s_raw_views : Stmt := top 29
def sp_raw_views : Sp := fun vs H Q _ => ∃ (a b : Addr) (ns : List Int) (p : Pat), vs = [.ref a, .ref b] ∧ NK H (rowK ns) (.ref a) ∧ NK H (patK p) (.ref b) ∧ ns.length = 3 ∧ p.length ≤ 1 ∧ (∀ m ∈ p, m.length = 3 ∧ ∀ k ∈ m, k = .none ∨ ∃ x : Int, k = .num x) ∧ ∀ l H' vs', Same H H' → H l = none → H' l = some (.lst vs') → NKs H' (viewsK ns p) vs' → Q (.ref l) H'
theorem ok_raw_views {f : Addr} {fd : FuncData} (F : Fun K "raw_views" "raw_views" s_raw_views f fd) (T : Txt K mg cT cR cS cA) : FnOk P w K mg base CX0 1 f fd ["inputs", "pattern"] sp_raw_views := by
  have sc : FnScope ["inputs", "pattern", "views", "misses", "heard", "missed", "told", "other", "view"] ["inputs", "pattern"] (defScope s_raw_views) := sc_by (by decide +kernel)
  refine F.ok sc (fun vs H Q E h => ?_) (fun cdv A outer s H vs Q E hr h => ?_)
  · obtain ⟨_, _, _, _, rfl, _⟩ := h; rfl
  · obtain ⟨a, b, ns, p, rfl, ha, hb, h3, hp1, hm3, q⟩ := h
    have hu := hu9 hr
    have hu65 := hu65 hr
    have hu1 := hu1_of hr
    refine ⟨_, (pss_cons (ps_setLc (i := 2) (own := [("told", 6)]) rfl sc.nd rfl rfl (sw_true rfl rfl rfl (by decide +kernel)) (pi_tup (pv 0)) (blkOk_by (by kernel_rfl)) (fun _ _ _ _ _ => (pg_name (i := 6) sc.nd rfl (Or.inl rfl) (Or.inr rfl))) (fun _ _ _ _ _ => pts_nil) (fun _ _ _ _ _ => (pe_tup (pa_cons (pv 6) pa_nil))))
      (pss_cons (ps_for PassesOwn.never rfl (pi_tup (pv 1)) (pg_name (i := 3) sc.nd rfl (Or.inl rfl) (Or.inl rfl))
        (pss_cons (ps_set (i := 4) sc.nd rfl (Or.inl rfl) (pe_lst pa_nil))
          (pss_cons (ps_for PassesOwn.never rfl (pi_tup (pv 3)) (pg_name (i := 5) sc.nd rfl (Or.inr rfl) (Or.inl rfl))
            (pss_one (ps_expr (pe_bm PySem.F.plainAttrs_list PySem.F.slot_list_append PySem.F.type_list_append mt_append (pv 4) (pa_cons (pe_callTy call_tupL (by rfl) T.tuple (by decide +kernel) (pa_cons (pe_lc (own := [("other", 7), ("view", 8)]) rfl sc.nd (pi_enum (by rfl) T.enumerate (pa_cons (pv 2) pa_nil)) (blkOk_by (by kernel_rfl)) (fun _ _ _ _ _ => (pg_tu 2 rfl (pgs_cons (pg_name (i := 7) sc.nd rfl (Or.inl rfl) (Or.inr rfl)) (pgs_cons (pg_name (i := 8) sc.nd rfl (Or.inl rfl) (Or.inr rfl)) pgs_nil)))) (fun _ _ _ _ _ => pts_nil) (fun _ _ _ _ _ => (pe_ifExp (pt_cmpR op_eq (pv 7) (pv 5) (nomark _)) pe_non (pv 8)))) pa_nil)) pa_nil)))))
          (pss_one (ps_set (i := 2) sc.nd rfl (Or.inl rfl) (pv 4))))))
      (pss_one (ps_ret (pv 2))))), ?_⟩
    obtain ⟨a', ea, ga⟩ := ha.rowI
    cases ea
    obtain ⟨b', us, eb, gb, hks⟩ := id hb
    cases eb
    have hlu := hks.lenK
    refine ⟨_, rfl, a, rfl, ⟨_, SqT.of ga⟩, fun D hD => lc_map (walkT (xs := ns.map V.int)) [] (by simp) (by simp; omega) hD (fun H' k => k _ _ ga (by simp)) (fun i H' acc => NKs H' ((ns.take i).map fun x => .tup [.num x]) acc) rfl (fun i x H1' H2 acc Kf hi k hacc hl hR hY hK => ?_) (fun H1 vs1 k1 e1 hl1 k2 => ?_)⟩
    · obtain ⟨rfl, hx⟩ := hY
      rw [List.getElem?_map] at hx
      obtain ⟨n, en, rfl⟩ := Option.map_eq_some_iff.mp hx
      refine ⟨rfl, _, rfl, by show 1 ≤ sizeLine; decide, fun t ht => hK _ _ (Keep.of_same (same_upd _ ht)) ?_⟩
      have nt : D ≠ t := fun z => by rw [z, ht] at hacc; cases hacc
      rw [List.take_add_one, en, List.map_append]
      have k4 : KeepT H2 (upd (upd H2 t (.tup [.int n])) D (.lst (acc ++ [.ref t]))) := (KeepT.of_same (same_upd _ ht)).trans (keepT_upd fun xs e => by rw [upd_ne nt, hacc] at e; cases e)
      exact NKs.snoc (NKs.mono k4 _ _ hR) ⟨t, _, rfl, by rw [upd_ne nt.symm, upd_same], _, _, rfl, rfl, rfl⟩
    · have s1 := Keep.same k1
      rw [List.take_of_length_le (by simp)] at k2
      have l1 : vs1.length = 3 := by rw [k2.lenK, h3]
      refine ⟨_, rfl, b, rfl, ⟨_, SqT.of (s1 _ _ gb)⟩, for_it walkT (fun i σ H' => ∃ l vs v3 v4 v5 v6 v7 v8, σ = [some (.ref a), some (.ref b), some (.ref l), v3, v4, v5, v6, v7, v8] ∧ Same H H' ∧ H l = none ∧ H' l = some (.lst vs) ∧ vs.length = 3 ∧ NKs H' ((p.take i).foldl stepK (ns.map fun x => .tup [.num x])) vs) ⟨D, vs1, none, none, none, none, none, none, rfl, s1, hD, e1, l1, k2⟩ (fun i σ H' _ ⟨_, _, _, _, _, _, _, _, _, s, _⟩ => s _ _ gb) ?_ ?_⟩
      · rintro i x σ H2' H2 hi ⟨l, vs, v3, v4, v5, v6, v7, v8, rfl, s2, z2, e2, l2, n2⟩ ⟨rfl, hx⟩
        obtain ⟨m, em, nm⟩ := hks.atK hx
        obtain ⟨c, ms, rfl, gc, hms⟩ := id nm
        obtain ⟨hm, hmk⟩ := hm3 m (List.mem_of_getElem? em)
        have lms := hms.len
        refine ⟨Nat.zero_le _, fun t ht => ?_⟩
        have hlt : l ≠ t := fun z => by rw [z, ht] at e2; cases e2
        have st : Same H2 (upd H2 t (.lst [])) := same_upd _ ht
        generalize hcur : (p.take i).foldl stepK (ns.map fun x => .tup [.num x]) = cur at n2
        have lcur := n2.len
        refine ⟨_, rfl, c, rfl, ⟨_, SqT.of (st _ _ (s2 _ _ gc))⟩, for_it walkT (fun j σ H' => ∃ ws v5 v6 v7 v8, σ = [some (.ref a), some (.ref b), some (.ref l), some (.ref c), some (.ref t), v5, v6, v7, v8] ∧ Same H2 H' ∧ H' t = some (.lst ws) ∧ ws.length = j ∧ NKs H' ((stepK cur m).take j) ws) ⟨[], v5, v6, v7, v8, rfl, st, upd_same, rfl, rfl⟩ (fun i σ H' _ ⟨_, _, _, _, _, _, s, _⟩ => s _ _ (s2 _ _ gc)) ?_ ?_⟩
        · rintro j x σ H3' H3 hj ⟨ws, v5, v6, v7, v8, rfl, s3, e3, l3, n3⟩ ⟨rfl, hx⟩
          obtain ⟨k, ek, nk⟩ := hms.at hx
          have nk' := NK.mono (KeepT.of_same s2) _ _ nk
          refine ⟨_, rfl, .inl ⟨rfl, _, SqL.of e3⟩, ?_⟩
          refine ⟨_, rfl, l, vs, rfl, SqL.of (s3 _ _ e2), fun D2 hD2 => lc_map walkE [] (by simp) (by omega) hD2 (fun H' k => k _ _ (s3 _ _ e2) (by simp)) (fun o H' acc => NKs H' ((cur.mapIdx fun other v => if k = .num other then .none else v).take o) acc) rfl (fun o y H4 H4' acc Kf ho k4 hacc hl hR hY hK => ?_) (fun H4 vs4 k4 e4 hl4 n4 => ?_)⟩
          · obtain ⟨T0, z, rfl, hT, rfl, hz⟩ := hY
            obtain ⟨kz, ekz, nkz⟩ := n2.at hz
            have s4 := Keep.same k4
            have s5 : Same H4 (upd H4 T0 (.tup [.int o, z])) := same_upd _ hT
            refine ⟨T0, _, rfl, upd_same, rfl, _, _, rfl, _, _, rfl, rfl, rfl, _, rfl, _, rfl, ?_⟩
            have fin : ∀ y, NK H2 (if k = .num o then .none else kz) y → Kf y (upd H4 T0 (.tup [.int o, z])) := fun y hy => hK _ _ (Keep.of_same s5) (by
              have nt : D2 ≠ T0 := fun z => by rw [z, hT] at hacc; cases hacc
              have k6 : KeepT H4 (upd (upd H4 T0 (.tup [.int o, z])) D2 (.lst (acc ++ [y]))) := (KeepT.of_same s5).trans (keepT_upd fun xs e => by rw [upd_ne nt, hacc] at e; cases e)
              rw [List.take_add_one, List.getElem?_mapIdx, ekz]
              exact NKs.snoc (NKs.mono k6 _ _ hR) (NK.mono (((KeepT.of_same s3).trans (KeepT.of_same s4)).trans k6) _ _ hy))
            rcases hmk k (List.mem_of_getElem? ek) with rfl | ⟨w1, rfl⟩
            · obtain rfl : x = .non := nk
              refine ⟨rfl, _, rfl, ite_f rfl ?_⟩
              exact ⟨_, rfl, fin _ (by rw [if_neg (by simp)]; exact nkz)⟩
            · obtain rfl : x = .int w1 := nk
              refine ⟨rfl, _, rfl, ?_⟩
              by_cases hw : w1 = (o : Int)
              · subst hw
                exact ite_t (by simp) (fin _ (by rw [if_pos rfl]; rfl))
              · refine ite_f (by simp; omega) ?_
                exact ⟨_, rfl, fin _ (by rw [if_neg (by simpa using hw)]; exact nkz)⟩
          · have s4 := Keep.same k4
            refine ⟨D2, _, rfl, e4, fun t2 H5 s5 e5 => ?_⟩
            have ne2 : t ≠ t2 := fun z => by rw [← z, s5 _ _ (s4 _ _ e3)] at e5; cases e5
            have ne3 : D2 ≠ t := fun z => by rw [z, e3] at hD2; cases hD2
            refine ⟨t, _, _, rfl, rfl, s5 _ _ (s4 _ _ e3), by rw [sizeLine_eq]; omega, _, _, _, _, _, rfl, same_lst ht ((s3.trans s4).trans s5), upd_same, by simp [l3], ?_⟩
            have k6 : KeepT H5 (upd H5 t (.lst (ws ++ [.ref t2]))) := keepT_upd fun xs e => by rw [s5 _ _ (s4 _ _ e3)] at e; cases e
            rw [List.take_add_one, show (stepK cur m)[j]? = some (.tup (cur.mapIdx fun other v => if k = .num other then .none else v)) by unfold stepK; rw [List.getElem?_map, ek]; rfl]
            rw [List.take_of_length_le (by simp; omega)] at n4
            exact NKs.snoc (NKs.mono (((KeepT.of_same s4).trans (KeepT.of_same s5)).trans k6) _ _ n3) ⟨t2, _, rfl, by rw [upd_ne ne2.symm]; exact e5, NKs.mono ((KeepT.of_same s5).trans k6) _ _ n4⟩
        · rintro σ H3 ⟨ws, v5, v6, v7, v8, rfl, s3, e3, l3, n3⟩
          refine ⟨_, rfl, t, ws, _, _, _, _, _, _, rfl, s2.trans s3, s2.free ht, e3, by omega, ?_⟩
          rw [List.take_of_length_le (by simp [stepK]; omega)] at n3
          rw [List.take_add_one, em, List.foldl_append, hcur]
          exact n3
      · rintro σ H2 ⟨l, vs, v3, v4, v5, v6, v7, v8, rfl, s2, z2, e2, l2, n2⟩
        rw [hlu, List.take_of_length_le (Nat.le_refl _)] at n2
        exact ⟨_, rfl, q _ _ _ s2 z2 e2 n2⟩

end
end S1

/-! L5: all patterns told, runs -/
namespace S1
open PySem L2
abbrev s_ap : Stmt := top 24
def gnC (N ps : List Str) (sc : Scope) : Bool := decide (sc.kind = .function) && !sc.isCoroutine && sc.isGenerator && decide N.Nodup && decide (N.take ps.length = ps) && sc.names.all (fun y => y.2 != .cell && y.2 != .free) && N.all fun x => sc.names.lookup x == some .local
theorem cells_none : ∀ {ns : List (Str × NameKind)} (_ : ∀ y ∈ ns, y.2 ≠ .cell) (n : Nat), cellsFrom n ns [] = []
  | [], _, n => by unfold cellsFrom; rfl
  | (x, k) :: ns, h, n => by
    have ih := cells_none (ns := ns) (fun y hy => h y (List.mem_cons_of_mem _ hy))
    have hk : k ≠ .cell := h (x, k) List.mem_cons_self
    unfold cellsFrom
    split
    · rename_i e; simp at e; exact absurd e (by first | exact hk | simp_all)
    · exact ih n
theorem lookup_mem {x : Str} {k : NameKind} : ∀ {ns : List (Str × NameKind)}, ns.lookup x = some k → (x, k) ∈ ns
  | [], h => nomatch h
  | (y, j) :: ns, h => by
    rw [List.lookup_cons] at h
    split at h
    · rename_i e; cases h; rw [eq_of_beq e]; exact List.mem_cons_self
    · exact List.mem_cons_of_mem _ (lookup_mem h)
theorem gnames_by {N ps : List Str} {sc : Scope} (h : gnC N ps sc = true) : GNames N ps sc := by
  simp only [gnC, Bool.and_eq_true, Bool.not_eq_true', decide_eq_true_eq, List.all_eq_true, beq_iff_eq, bne_iff_ne] at h
  obtain ⟨⟨⟨⟨⟨⟨h1, h2⟩, h3⟩, h4⟩, h5⟩, h6⟩, h7⟩ := h
  exact ⟨h1, h2, h3, h4, h5, fun x k e => h6 (x, k) (lookup_mem e), h7, fun n => cells_none (fun y hy => (h6 y hy).1) n⟩
theorem gn_ap : GNames ["many", "rounds", "number"] ["many", "rounds"] (defScope s_ap) := gnames_by (by decide +kernel)
abbrev wiP : TI := iRng1 (tCons (tCall sp_raw_count [] E0 (tCons (tVar 0) (tCons (tVar 1) tNil))) tNil)
abbrev teP : TE := tCall sp_raw_pattern [] E0 (tCons (tVar 0) (tCons (tVar 1) (tCons (tVar 2) tNil)))
theorem ps_forPat {X : Cx} {gf : Addr} {gfd : FuncData} {y : Str} {p p1 pos pos' : Pos} {a1 : Expr} {as : List Expr} {body : List Stmt} {ta : TA} {g : TG} {tb : TS}
    (FG : Fun X.K "all_patterns" "all_patterns" s_ap gf gfd) (GP : Fn X.prog X.w X.K X.mg X.base 2 "raw_pattern" ["many", "rounds", "number"] sp_raw_pattern) (GC : Fn X.prog X.w X.K X.mg X.base 1 "raw_count" ["many", "rounds"] sp_raw_count)
    (hrg : X.mg "range" = none) (hmg : X.mg "all_patterns" = some (.ref gf)) (hgl : Gl X "all_patterns") (hc : X.calm = true) (hr : Room 4 X.A)
    (ha : PA X (a1 :: as) ta) (hg : PG (quietX X) (.Name y p1) g) (hbd : PSs (quietX X) body tb) (hp : PassesOwn (model X.prog X.w) X.A X.env X.xe)
    (hst : starEach (a1 :: as) X.env = (false, eval a1 X.env) :: starEach as X.env := by rfl) (hpl : (backTo pos' (starEach as X.env)).any (·.1) = false := by rfl) :
    PS X (.For (.Name y p1) (.Call (.Name "all_patterns" p) (a1 :: as) [] pos') body [] pos) (tForG ["many", "rounds"] ["many", "rounds", "number"] 2 wiP teP ta g tb) := by
  obtain ⟨oc, od, kV, doc, pm, an, cdv, ct, osl, rfl, lk, hcd⟩ := FG.ex
  have hb := FG.binds (ps := ["many", "rounds"]) fun _ _ _ _ _ _ us hl => match us, hl with | [_, _], _ => rfl
  refine ps_forG lk hcd hb FG.kp hgl hmg gn_ap (x := "number") rfl (by decide) hc (hr.mono (by decide)) ?_ ?_ ha hg hbd hp (fun _ _ => rfl) (by decide) hst hpl
  · intro L s H
    exact pi_range1 (by rfl) hrg (pa_cons (pe_fn GC ((hr.in1.deeper _).mono (by decide)) (by rfl) (pa_cons (pv 0) (pa_cons (pv 1) pa_nil))) pa_nil)
  · intro L s H
    exact pe_fn GP ((hr.in1.deeper _).mono (by decide)) (by rfl) (pa_cons (pv 0) (pa_cons (pv 1) (pa_cons (pv 2) pa_nil)))
/-- the reading of a loop over all patterns, its arguments read -/
theorem for_pat {r : Nat} (hr1 : r ≤ 1) {H1 : Hp} {σ : L2.St} {g : TG} {tb : TS} {D : Ends} (Pv : Nat → L2.St → Hp → Prop) (h0 : ∀ H2, Same H1 H2 → Pv 0 σ H2)
    (hs : ∀ i σ H, i < 3 ^ (3 * r) → Pv i σ H → ∀ x H', Same H H' → NK H' (patK (patL r i)) x → g x σ H' fun σ2 H2 => tb { D with nx := Pv (i + 1), ct := Pv (i + 1), bk := fun _ _ => False } σ2 H2) (hd : ∀ σ H, Pv (3 ^ (3 * r)) σ H → D.nx σ H) :
    [V.int 3, V.int (r : Int)].length = ["many", "rounds"].length ∧ ∃ (nn : Nat) (Pv : Nat → L2.St → Hp → Prop) (item : Nat → Hp → V → Hp → Prop),
      wiP (L2.start ["many", "rounds", "number"] [V.int 3, V.int (r : Int)]) H1 (fun J H2 => J = Itr 0 nn ∧ Keep [] H1 H2) ∧ (∀ i, i < nn → ∀ H, teP ((L2.start ["many", "rounds", "number"] [V.int 3, V.int (r : Int)]).set 2 (some (.int i))) H (item i H)) ∧ (∀ H2, Keep [] H1 H2 → Pv 0 σ H2) ∧
      (∀ i, i < nn → ∀ σ H, Pv i σ H → ∀ x H', item i H x H' → g x σ H' fun σ2 H2 => tb { D with nx := Pv (i + 1), ct := Pv (i + 1), bk := fun _ _ => False } σ2 H2) ∧ ∀ σ H, Pv nn σ H → D.nx σ H := by
  refine ⟨rfl, 3 ^ (3 * r), Pv, fun i H x H' => Same H H' ∧ NK H' (patK (patL r i)) x, ?_, fun i hi H => ?_, fun H2 k => h0 H2 (Keep.same k), fun i hi σ H p x H' y => hs i σ H hi p x H' y.1 y.2, hd⟩
  · have hb : 3 ^ (3 * r) ≤ 27 := by obtain rfl | rfl : r = 0 ∨ r = 1 := by omega
                                     · decide
                                     · decide
    exact ⟨_, rfl, _, rfl, r, rfl, hr1, ((3 ^ (3 * r) : Nat) : Int), rfl, Int.le_trans (by decide) (Int.natCast_nonneg _), Int.lt_of_le_of_lt (Int.ofNat_le.mpr hb) (by decide), rfl, Keep.refl _ _⟩
  · exact ⟨_, rfl, _, rfl, _, rfl, r, i, rfl, hr1, fun v H' s n => ⟨s, n⟩⟩
/-- the reading of for x in enumerate(list) -/
theorem forE_by {K : PySem.W.Frag} {a : Addr} {xs : List V} {g : TG} {tb : TS} {D : Ends} {σ : L2.St} {H1 : Hp} (Pv : Nat → L2.St → Hp → Prop) (h0 : Pv 0 σ H1) (hx : ∀ i σ H, Pv i σ H → H a = some (.lst xs))
    (hs : ∀ i x σ H T, xs[i]? = some x → Pv i σ H → H T = none → g (.ref T) σ (upd H T (.tup [.int (i : Nat), x])) fun σ2 H2 => tb { D with nx := fun σ' H' => Pv (i + 1) σ' H' ∧ KeepT (upd H T (.tup [.int (i : Nat), x])) H', ct := fun σ' H' => Pv (i + 1) σ' H' ∧ KeepT (upd H T (.tup [.int (i : Nat), x])) H', bk := D.nx } σ2 H2)
    (hd : ∀ σ H, Pv xs.length σ H → D.nx σ H) : (∃ xs, SqL K H1 a xs) ∧ ∃ W : Nat → Nat → L2.St → Hp → Prop, (∃ m, W 0 m σ H1) ∧ ∀ i m σ H, W i m σ H →
  (∃ xs, SqL K H a xs ∧ xs.length ≤ i ∧ D.nx σ H) ∨ ∃ xs x, SqL K H a xs ∧ xs[i]? = some x ∧ ∃ N : L2.St → Hp → Prop, (∀ σ' H', N σ' H' → ∃ m', m' < m ∧ W (i + 1) m' σ' H') ∧
    ∀ T, H T = none → g (.ref T) σ (upd H T (.tup [.int (i : Nat), x])) fun σ2 H2 => tb { D with nx := fun σ' H' => N σ' H' ∧ KeepT (upd H T (.tup [.int (i : Nat), x])) H', ct := fun σ' H' => N σ' H' ∧ KeepT (upd H T (.tup [.int (i : Nat), x])) H', bk := D.nx } σ2 H2 := by
  refine ⟨⟨xs, SqL.of (hx _ _ _ h0)⟩, fun i m σ H => m = xs.length - i ∧ i ≤ xs.length ∧ Pv i σ H, ⟨xs.length, by simp, Nat.zero_le _, h0⟩, ?_⟩
  rintro i m σ H ⟨rfl, hi, p⟩
  by_cases hlt : i < xs.length
  · exact .inr ⟨xs, xs[i], SqL.of (hx _ _ _ p), List.getElem?_eq_getElem hlt, Pv (i + 1), fun σ' H' p' => ⟨xs.length - (i + 1), by omega, rfl, hlt, p'⟩, fun T hT => hs i _ σ H T (List.getElem?_eq_getElem hlt) p hT⟩
  · obtain rfl : i = xs.length := by omega
    exact .inl ⟨xs, SqL.of (hx _ _ _ p), Nat.le_refl _, hd _ _ p⟩
/-! keys numbered as first met -/
def kvN (ks : List NestedKey) : List (NestedKey × V) := ks.map fun k => (k, V.int ((ks.idxOf k : Nat) : Int))
def numKs (ks ps : List NestedKey) : List NestedKey := ps.foldl addKey ks
theorem valV_mapV {f : NestedKey → V} {k : NestedKey} : ∀ {ks : List NestedKey}, valV (ks.map fun k => (k, f k)) k = if k ∈ ks then some (f k) else none
  | [] => rfl
  | j :: ks => by
    rw [List.map_cons]
    by_cases e : j = k
    · subst e
      rw [valV_pos rfl]; simp
    · have e' : ¬ k = j := fun z => e z.symm
      rw [valV_neg e, valV_mapV]
      simp [e']
theorem putK_mapV {ks : List NestedKey} {f g : NestedKey → V} {k : NestedKey} {v : V} (h : k ∉ ks) (hf : ∀ j ∈ ks, f j = g j) (hg : g k = v) : putK (ks.map fun k => (k, f k)) k v = (ks ++ [k]).map fun j => (j, g j) := by
  unfold putK
  have e : ((ks.map fun k => (k, f k)).any fun kv => decide (kv.1 = k)) = false := by
    rw [List.any_eq_false]
    intro p hp
    obtain ⟨j, hj, rfl⟩ := List.mem_map.mp hp
    simp only [decide_eq_true_eq]
    exact fun z => h (z ▸ hj)
  rw [e, if_neg (by decide), List.map_append]
  congr 1
  · exact List.map_congr_left fun j hj => by rw [hf j hj]
  · simp [hg]
theorem valV_kvN {ks : List NestedKey} {k : NestedKey} : valV (kvN ks) k = if k ∈ ks then some (.int ((ks.idxOf k : Nat) : Int)) else none := valV_mapV (f := fun k => V.int ((ks.idxOf k : Nat) : Int))
theorem putK_kvN {ks : List NestedKey} {k : NestedKey} (h : k ∉ ks) : putK (kvN ks) k (.int (ks.length : Int)) = kvN (ks ++ [k]) :=
  putK_mapV h (fun j hj => by rw [List.idxOf_append, if_pos hj]) (by rw [List.idxOf_append, if_neg h]; simp)
theorem addKey_ext (ks : List NestedKey) (k : NestedKey) : ∃ t, addKey ks k = ks ++ t := by
  unfold addKey; split
  · exact ⟨[], by simp⟩
  · exact ⟨[k], rfl⟩
theorem addKey_mem (ks : List NestedKey) (k : NestedKey) : k ∈ addKey ks k := by
  unfold addKey; split
  · assumption
  · simp
theorem addKey_sub {ks : List NestedKey} {k j : NestedKey} : j ∈ addKey ks k ↔ j ∈ ks ∨ j = k := by
  unfold addKey; split
  · constructor
    · exact .inl
    · rintro (h | rfl) <;> assumption
  · simp
theorem addKey_nodup {ks : List NestedKey} {k : NestedKey} (h : ks.Nodup) : (addKey ks k).Nodup := by
  unfold addKey; split
  · exact h
  · rename_i e; exact List.nodup_append.mpr ⟨h, by simp, fun i hi j hj => by rw [List.mem_singleton.mp hj]; exact fun q => e (q ▸ hi)⟩
theorem numKs_ext : ∀ (ps ks : List NestedKey), ∃ t, numKs ks ps = ks ++ t
  | [], ks => ⟨[], by simp [numKs]⟩
  | p :: ps, ks => by
    obtain ⟨t, e⟩ := addKey_ext ks p
    obtain ⟨u, f⟩ := numKs_ext ps (addKey ks p)
    exact ⟨t ++ u, by show numKs (addKey ks p) ps = _; rw [f, e, List.append_assoc]⟩
theorem numKs_mem {j : NestedKey} : ∀ {ps ks : List NestedKey}, j ∈ numKs ks ps ↔ j ∈ ks ∨ j ∈ ps
  | [], ks => by simp [numKs]
  | p :: ps, ks => by
    show j ∈ numKs (addKey ks p) ps ↔ _
    rw [numKs_mem, addKey_sub]; simp [or_assoc]
theorem numKs_nodup : ∀ {ps ks : List NestedKey}, ks.Nodup → (numKs ks ps).Nodup
  | [], _, h => h
  | p :: ps, ks, h => by
    show (numKs (addKey ks p) ps).Nodup
    exact numKs_nodup (addKey_nodup h)
theorem numKs_len : ∀ (ps ks : List NestedKey), (numKs ks ps).length ≤ ks.length + ps.length
  | [], ks => Nat.le_refl _
  | p :: ps, ks => by
    have h1 := numKs_len ps (addKey ks p)
    have h2 := addKey_len ks p
    show (numKs (addKey ks p) ps).length ≤ _
    simp only [List.length_cons]; omega
theorem numKs_app (ks ps qs : List NestedKey) : numKs ks (ps ++ qs) = numKs (numKs ks ps) qs := List.foldl_append
theorem idx_ext {ks t : List NestedKey} {k : NestedKey} (h : k ∈ ks) : (ks ++ t).idxOf k = ks.idxOf k := by rw [List.idxOf_append, if_pos h]
theorem keysU_depth : ∀ k ∈ keysU, k.depth ≤ 8 := by decide +kernel
def pairsOf (views : List NestedKey) : List NestedKey := views.mapIdx fun me v => .tup [.num me, v]
section
variable {P : Program} {w : World} {K : PySem.W.Frag} {mg : Str → Option Value} {base : Heap} {cT cR cS cA : Addr}
abbrev s_Runs_numbered : Stmt := inClass (top 30) 1
def sp_Runs_numbered (P : Program) (w : World) (cR : Addr) : Sp := fun vs H Q _ => ∃ (p dx l nd lp : Addr) (fs : List (Str × V)) (us pvs : List V) (views ks : List NestedKey), vs = [.ref p, .ref l] ∧ H p = some (.ins cR dx fs) ∧ fs.lookup ("numbers" : Str) = some (.ref nd) ∧ fs.lookup ("pairs" : Str) = some (.ref lp) ∧
  H l = some (.lst us) ∧ NKs H views us ∧ (∀ k ∈ pairsOf views, k ∈ keysU) ∧ ND P w H nd (kvN ks) ∧ H lp = some (.lst pvs) ∧ NKs H ks pvs ∧ l ≠ lp ∧ ks.length + views.length < 400 ∧
  ∀ t H' pvs', Keep [nd, lp] H H' → ND P w H' nd (kvN (numKs ks (pairsOf views))) → H' lp = some (.lst pvs') → NKs H' (numKs ks (pairsOf views)) pvs' → H' t = some (.tup ((pairsOf views).map fun k => V.int (((numKs ks (pairsOf views)).idxOf k : Nat) : Int))) → Q (.ref t) H'
theorem ok_Runs_numbered {f : Addr} {fd : FuncData} (F : Fun K "numbered" "Runs.numbered" s_Runs_numbered f fd) (T : Txt K mg cT cR cS cA) : FnOk P w K mg base CX0 1 f fd ["self", "views"] (sp_Runs_numbered P w cR) := by
  have sc : FnScope ["self", "views", "found", "pair"] ["self", "views"] (defScope s_Runs_numbered) := sc_by (by decide +kernel)
  refine F.ok sc (fun vs H Q E h => ?_) (fun cdv A outer s H vs Q E hr h => ?_)
  · obtain ⟨_, _, _, _, _, _, _, _, _, _, rfl, _⟩ := h; rfl
  · obtain ⟨p, dx, l, nd, lp, fs, us, pvs, views, ks, rfl, hp, hfn, hfp, hl, hus, hku, hnd, hlp, hks, nl, hlen, q⟩ := h
    have hu := hu9 hr
    have hu65 := hu65 hr
    have hu1 := hu1_of hr
    refine ⟨_, (pss_cons (ps_set (i := 2) sc.nd rfl (Or.inl rfl) (pe_lst pa_nil))
      (pss_cons (ps_forE PassesOwn.never rfl (by rfl) T.enumerate (pa_cons (pv 1) pa_nil) (pg_name (i := 3) sc.nd rfl (Or.inl rfl) (Or.inl rfl))
        (C8.pss_cut (ps_if (pt_cmpR (by exact or_nninP P w hu) (pv 3) (pe_fl T.clR T.nR_numbers (pv 0)) (by with_unfolding_all rfl))
            (pss_cons (ps_if (pt_cmpR op_eq (pe_callB lenF (by rfl) T.len (by decide +kernel) (pa_cons (pe_fl T.clR T.nR_pairs (pv 0)) pa_nil)) (pe_gc (by rfl) T.MOST_PAIRS) (nomark _))
                pss_never
                pss_nil)
              (pss_cons (ps_asg (pe_callB lenF (by rfl) T.len (by decide +kernel) (pa_cons (pe_fl T.clR T.nR_pairs (pv 0)) pa_nil)) (pg_sub (pe_fl T.clR T.nR_numbers (pv 0)) (pv 3) (by exact set_nd hu)))
              (pss_one (ps_expr (pe_bm PySem.F.plainAttrs_list PySem.F.slot_list_append PySem.F.type_list_append mt_append (pe_fl T.clR T.nR_pairs (pv 0)) (pa_cons (pv 3) pa_nil))))))
            pss_nil)
          (pss_one (ps_expr (pe_bm PySem.F.plainAttrs_list PySem.F.slot_list_append PySem.F.type_list_append mt_append (pv 2) (pa_cons (pe_ngetP P w hu (pe_fl T.clR T.nR_numbers (pv 0)) (pv 3) (fun _ _ => rfl)) pa_nil))))))
      (pss_one (ps_ret (pe_callTy call_tupL (by rfl) T.tuple (by decide +kernel) (pa_cons (pv 2) pa_nil)))))), ?_⟩
    refine ⟨Nat.zero_le _, fun t ht => ?_⟩
    generalize hps : pairsOf views = ps at *
    obtain ⟨fn, hfn2⟩ := hnd.at
    have ntn : nd ≠ t := fun z => by rw [z, ht] at hfn2; cases hfn2
    have ntl : lp ≠ t := fun z => by rw [z, ht] at hlp; cases hlp
    have ntl2 : l ≠ t := fun z => by rw [z, ht] at hl; cases hl
    have ntp : p ≠ t := fun z => by rw [z, ht] at hp; cases hp
    have npn : p ≠ nd := fun z => by rw [z, hfn2] at hp; cases hp
    have npl : p ≠ lp := fun z => by rw [z, hlp] at hp; cases hp
    have nln : l ≠ nd := fun z => by rw [z, hfn2] at hl; cases hl
    have nnl : nd ≠ lp := fun z => by rw [z, hlp] at hfn2; cases hfn2
    have lps : ps.length = views.length := by rw [← hps]; simp [pairsOf]
    have lus := hus.len
    have s0 : Same H (upd H t (.lst [])) := same_upd _ ht
    refine ⟨_, rfl, l, rfl, forE_by (xs := us) (fun i σ H' => ∃ v3 pvs', σ = [some (.ref p), some (.ref l), some (.ref t), v3] ∧ Keep [nd, lp] H H' ∧ ND P w H' nd (kvN (numKs ks (ps.take i))) ∧ H' lp = some (.lst pvs') ∧ NKs H' (numKs ks (ps.take i)) pvs' ∧ H' t = some (.lst ((ps.take i).map fun k => V.int (((numKs ks ps).idxOf k : Nat) : Int)))) ⟨none, pvs, rfl, Keep.of_same s0, hnd.mono (KeepT.of_same s0) (fun o e => s0 _ _ e), s0 _ _ hlp, NKs.mono (KeepT.of_same s0) _ _ hks, upd_same⟩ (fun i σ H' ⟨v3, pvs', _, k, _⟩ => k _ _ hl (by simp [nl, nln])) ?_ ?_⟩
    · rintro i x σ H1 T0 hx ⟨v3, pvs', rfl, k1, nd1, lp1, nk1, t1⟩ hT
      obtain ⟨v, ev, nv⟩ := hus.at hx
      have epk : ps[i]? = some (.tup [.num i, v]) := by rw [← hps]; simp [pairsOf, ev]
      generalize hpk : NestedKey.tup [.num (i : Int), v] = pk at epk
      have hdep := keysU_depth pk (hku pk (List.mem_of_getElem? epk))
      have hil := (List.getElem?_eq_some_iff.mp hx).1
      have sT : Same H1 (upd H1 T0 (.tup [.int (i : Nat), x])) := same_upd _ hT
      have kt : KeepT H H1 := k1.keepT fun b hb ys e => by
        simp only [List.mem_cons, List.not_mem_nil, or_false] at hb
        rcases hb with rfl | rfl
        · rw [hfn2] at e; cases e
        · rw [hlp] at e; cases e
      have nkp : NK (upd H1 T0 (.tup [.int (i : Nat), x])) pk (.ref T0) := by
        rw [← hpk]
        exact ⟨T0, _, rfl, upd_same, _, _, rfl, rfl, _, _, rfl, NK.mono (kt.trans (KeepT.of_same sT)) _ _ nv, rfl⟩
      generalize hHT : upd H1 T0 (.tup [.int (i : Nat), x]) = HT at *
      have ndT := nd1.mono (KeepT.of_same sT) (fun o e => sT _ _ e)
      have lpT := sT _ _ lp1
      have nkT := NKs.mono (KeepT.of_same sT) _ _ nk1
      have kT : Keep [nd, lp] H HT := k1.trans (Keep.of_same sT)
      have hpT := kT _ _ hp (by simp [npn, npl])
      have tT := sT _ _ t1
      obtain ⟨fT, hfT⟩ := ndT.at
      have e1 : ps.take (i + 1) = ps.take i ++ [pk] := by rw [List.take_add_one, epk]; rfl
      have e2 : numKs ks (ps.take (i + 1)) = addKey (numKs ks (ps.take i)) pk := by rw [e1, numKs_app]; rfl
      have hkl : (numKs ks (ps.take i)).length ≤ ks.length + i := Nat.le_trans (numKs_len _ _) (by rw [List.length_take]; omega)
      have hpv := nkT.len
      refine ⟨fun σ' H' => σ' = [some (.ref p), some (.ref l), some (.ref t), some (.ref T0)] ∧ Keep [nd, lp] HT H' ∧ ND P w H' nd (kvN (numKs ks (ps.take (i + 1)))) ∧ ∃ pvs', H' lp = some (.lst pvs') ∧ NKs H' (numKs ks (ps.take (i + 1))) pvs', ?_, ?_⟩
      · refine ⟨_, rfl, _, rfl, p, dx, fs, _, rfl, hpT, hfn, nd, _, T0, pk, rfl, rfl, ndT.rd, nkp, hdep, _, rfl, ?_⟩
        rw [valV_kvN]
        by_cases hin : pk ∈ numKs ks (ps.take i)
        · rw [if_pos hin]
          have e3 : numKs ks (ps.take (i + 1)) = numKs ks (ps.take i) := by rw [e2]; unfold addKey; rw [if_pos hin]
          refine ite_f rfl ⟨rfl, Keep.refl _ _, ?_, pvs', lpT, ?_⟩
          · rw [e3]; exact ndT
          · rw [e3]; exact nkT
        · rw [if_neg hin]
          have e3 : numKs ks (ps.take (i + 1)) = numKs ks (ps.take i) ++ [pk] := by rw [e2]; unfold addKey; rw [if_neg hin]
          refine ite_t rfl ?_
          refine ⟨_, rfl, p, dx, fs, _, rfl, hpT, hfp, lp, _, rfl, .inl lpT, rfl, _, rfl, ite_f ?_ ?_⟩
          · simp; omega
          refine ⟨_, rfl, p, dx, fs, _, rfl, hpT, hfp, lp, _, rfl, .inl lpT, _, rfl, p, dx, fs, _, rfl, hpT, hfn, _, rfl, nd, T0, pk, _, rfl, rfl, ndT, nkp, hdep, by simp [kvN, sizeLine_eq]; omega, fun H2 k2 nd2 => ?_⟩
          have lp2 := k2 _ _ lpT (by simp [nnl.symm])
          have k3 : KeepT H2 (upd H2 lp (.lst (pvs' ++ [.ref T0]))) := keepT_upd fun xs e => by rw [lp2] at e; cases e
          have k4 : KeepT HT H2 := ndT.keepT k2
          refine ⟨_, rfl, p, dx, fs, _, rfl, k2 _ _ hpT (by simp [npn]), hfp, .inl ⟨rfl, _, SqL.of lp2⟩, _, rfl, lp, _, _, rfl, rfl, lp2, by rw [sizeLine_eq]; omega, rfl, fun b o e n => ?_, ?_, _, upd_same, ?_⟩
          · rw [upd_ne (by simp at n; exact n.2)]
            exact k2 _ _ e (by simp at n; simp [n.1])
          · rw [hpv, putK_kvN hin, ← e3] at nd2
            exact nd2.mono k3 (fun o e => by rw [upd_ne nnl]; exact e)
          · rw [e3]
            exact NKs.snoc (NKs.mono (k4.trans k3) _ _ nkT) (NK.mono (k4.trans k3) _ _ nkp)
      · rintro σ' H' ⟨rfl, k2, nd2, pv2, lp2, nk2⟩
        have kt2 : KeepT HT H' := k2.keepT fun b hb ys e => by
          simp only [List.mem_cons, List.not_mem_nil, or_false] at hb
          rcases hb with rfl | rfl
          · rw [hfT] at e; cases e
          · rw [lpT] at e; cases e
        have t2 := k2 _ _ tT (by simp [ntn.symm, ntl.symm])
        have hmem : pk ∈ numKs ks (ps.take (i + 1)) := by rw [e2]; exact addKey_mem _ _
        have eidx : (numKs ks (ps.take (i + 1))).idxOf pk = (numKs ks ps).idxOf pk := by
          obtain ⟨u, eu⟩ := numKs_ext (ps.drop (i + 1)) (numKs ks (ps.take (i + 1)))
          rw [← numKs_app, List.take_append_drop] at eu
          rw [eu, idx_ext hmem]
        obtain ⟨f2, hf2⟩ := nd2.at
        refine ⟨_, rfl, .inl ⟨rfl, _, SqL.of t2⟩, _, rfl, p, dx, fs, _, rfl, k2 _ _ hpT (by simp [npn, npl]), hfn, _, rfl, nd, _, T0, pk, _, rfl, rfl, nd2.rd, NK.mono kt2 _ _ nkp, hdep, valV_kvN.trans (if_pos hmem), t, _, _, rfl, rfl, t2, by simp [sizeLine_eq]; omega, ⟨_, pv2, rfl, fun b o e n => ?_, ?_, ?_, ?_, ?_⟩, ?_⟩
        · by_cases z : b = t
          · rw [z, ht] at e; cases e
          · rw [upd_ne z]; exact k2 _ _ (kT _ _ e n) n
        · exact nd2.mono (keepT_upd fun xs e => by rw [t2] at e; cases e) (fun o e => by rw [upd_ne ntn]; exact e)
        · rw [upd_ne ntl]; exact lp2
        · exact NKs.mono (keepT_upd fun xs e => by rw [t2] at e; cases e) _ _ nk2
        · rw [upd_same, eidx, e1, List.map_append]; rfl
        · exact kt2.trans (keepT_upd fun xs e => by rw [t2] at e; cases e)
    · rintro σ H1 ⟨v3, pvs', rfl, k1, nd1, lp1, nk1, t1⟩
      rw [List.take_of_length_le (by omega)] at nd1 nk1 t1
      exact ⟨_, rfl, t, _, rfl, t1, fun t2 H2 s2 e2 => q _ _ _ (k1.trans (Keep.of_same s2)) (nd1.mono (KeepT.of_same s2) (fun o e => s2 _ _ e)) (s2 _ _ lp1) (NKs.mono (KeepT.of_same s2) _ _ nk1) e2⟩

/-! ### the runs, plainly -/
abbrev Run := Nat × Pat
def insAt (L : Lots) (i : Nat) : List Int := (L.getD i ([], [])).1
def lotAt (L : Lots) (i : Nat) : List (List Int) := (L.getD i ([], [])).2
def prsR (L : Lots) (u : Run) : List NestedKey := pairsOf (viewsK (insAt L u.1) u.2)
def runsUp (r i j : Nat) : List Run := ((List.range i).flatMap fun a => (List.range (3 ^ (3 * r))).map fun n => (a, patL r n)) ++ (List.range j).map fun n => (i, patL r n)
def runsL (L : Lots) (r : Nat) : List Run := runsUp r L.length 0
def ksOf (L : Lots) (us : List Run) : List NestedKey := us.foldl (fun ks u => numKs ks (prsR L u)) []
def pairsL (L : Lots) (r : Nat) : List NestedKey := ksOf L (runsL L r)
def rowK1 (L : Lots) (ks : List NestedKey) (u : Run) : NestedKey := .tup [.num u.1, patK u.2, .tup ((prsR L u).map fun k => .num ((ks.idxOf k : Nat) : Int))]
theorem runsUp_snoc (r i j : Nat) : runsUp r i (j + 1) = runsUp r i j ++ [(i, patL r j)] := by simp [runsUp, List.range_succ]
theorem runsUp_next (r i : Nat) : runsUp r i (3 ^ (3 * r)) = runsUp r (i + 1) 0 := by simp [runsUp, List.range_succ]
theorem runsUp_len (r : Nat) : ∀ i j, (runsUp r i j).length = i * 3 ^ (3 * r) + j
  | 0, j => by simp [runsUp]
  | i + 1, j => by
    have h := runsUp_len r i (3 ^ (3 * r))
    rw [runsUp_next] at h
    have e : runsUp r (i + 1) j = runsUp r (i + 1) 0 ++ (List.range j).map fun n => (i + 1, patL r n) := by simp [runsUp]
    rw [e, List.length_append, h]
    simp [Nat.succ_mul]
theorem runsUp_at {r i j : Nat} {u : Run} (h : u ∈ runsUp r i j) : u.1 ≤ i ∧ ∃ n, n < max j (3 ^ (3 * r)) ∧ u.2 = patL r n ∧ (u.1 < i ∨ n < j) := by
  simp only [runsUp, List.mem_append, List.mem_flatMap, List.mem_map, List.mem_range] at h
  rcases h with ⟨a, ha, n, hn, rfl⟩ | ⟨n, hn, rfl⟩
  · exact ⟨Nat.le_of_lt ha, n, by omega, rfl, .inl ha⟩
  · exact ⟨Nat.le_refl _, n, by omega, rfl, .inr hn⟩
theorem runsL_at {L : Lots} {r : Nat} {u : Run} (h : u ∈ runsL L r) : u.1 < L.length ∧ ∃ n, n < 3 ^ (3 * r) ∧ u.2 = patL r n := by
  simp only [runsL, runsUp, List.mem_append, List.mem_flatMap, List.mem_map, List.mem_range] at h
  rcases h with ⟨a, ha, n, hn, rfl⟩ | ⟨n, hn, rfl⟩
  · exact ⟨ha, n, hn, rfl⟩
  · exact absurd hn (Nat.not_lt_zero _)
theorem ksOf_snoc (L : Lots) (us : List Run) (u : Run) : ksOf L (us ++ [u]) = numKs (ksOf L us) (prsR L u) := by simp [ksOf]
theorem ksOf_nodup (L : Lots) : ∀ us : List Run, (ksOf L us).Nodup := by
  have : ∀ (us : List Run) (ks : List NestedKey), ks.Nodup → (us.foldl (fun ks u => numKs ks (prsR L u)) ks).Nodup := by
    intro us
    induction us with
    | nil => exact fun _ h => h
    | cons u us ih => exact fun ks h => ih _ (numKs_nodup h)
  exact fun us => this us [] List.nodup_nil
theorem ksOf_mem {L : Lots} {k : NestedKey} : ∀ {us : List Run}, k ∈ ksOf L us ↔ ∃ u ∈ us, k ∈ prsR L u := by
  have : ∀ (us : List Run) (ks : List NestedKey), k ∈ us.foldl (fun ks u => numKs ks (prsR L u)) ks ↔ k ∈ ks ∨ ∃ u ∈ us, k ∈ prsR L u := by
    intro us
    induction us with
    | nil => intro ks; simp
    | cons u us ih => intro ks; rw [List.foldl_cons, ih, numKs_mem]; simp [or_assoc]
  intro us
  unfold ksOf
  rw [this]; simp
theorem viewsK_len {r n : Nat} {ns : List Int} (h3 : ns.length = 3) : (viewsK ns (patL r n)).length = 3 := by
  have hp : ∀ m ∈ patL r n, m.length = 3 := by
    intro m hm
    simp only [patL, List.mem_map] at hm
    obtain ⟨i, _, rfl⟩ := hm
    simp
  have aux : ∀ (p : Pat) (xs : List NestedKey), (∀ m ∈ p, m.length = 3) → xs.length = 3 → (p.foldl stepK xs).length = 3 := by
    intro p
    induction p with
    | nil => exact fun _ _ h => h
    | cons m p ih => exact fun xs hp hl => ih _ (fun m hm => hp m (List.mem_cons_of_mem _ hm)) (by simp [stepK]; exact hp m List.mem_cons_self)
  exact aux _ _ hp (by simp [h3])
def rows3 : List (List Int) := [(0 : Int), 1, 2].flatMap fun a => [(0 : Int), 1, 2].flatMap fun b => [(0 : Int), 1, 2].map fun c => [a, b, c]
theorem row3_mem {ns : List Int} (h : Row3 ns) : ns ∈ rows3 := by
  obtain ⟨hl, hb⟩ := h
  match ns, hl with
  | [a, b, c], _ =>
    have m : ∀ x : Int, 0 ≤ x ∧ x ≤ 2 → x ∈ [(0 : Int), 1, 2] := fun x hx => by simp; omega
    simp only [rows3, List.mem_flatMap, List.mem_map]
    exact ⟨a, m _ (hb a (by simp)), b, m _ (hb b (by simp)), c, m _ (hb c (by simp)), rfl⟩
def missU : List NestedKey := [.none, .num 0, .num 1, .num 2]
theorem views_A : ∀ ns ∈ rows3, ∀ m ∈ missU, NestedKey.tup ((ns.map fun x => NestedKey.tup [.num x]).mapIdx fun o v => if m = .num o then .none else v) ∈ viewsU := by decide +kernel
theorem views_B : ∀ n ∈ List.range 27, ∀ m ∈ (patL 1 n).flatten, m ∈ missU := by decide +kernel
theorem views_C : ∀ ns ∈ rows3, ∀ x ∈ ns, NestedKey.tup [.num x] ∈ viewsU := by decide +kernel
theorem patL_miss {r n : Nat} (hr : r ≤ 1) (hn : n < 3 ^ (3 * r)) : ∀ ms ∈ patL r n, ms.length = 3 ∧ ∀ m ∈ ms, m ∈ missU := by
  intro ms hm
  obtain rfl | rfl : r = 0 ∨ r = 1 := by omega
  · simp [patL] at hm
  · refine ⟨?_, fun m h => views_B n (List.mem_range.mpr hn) m (List.mem_flatten.mpr ⟨ms, hm, h⟩)⟩
    simp only [patL, List.mem_map] at hm
    obtain ⟨i, _, rfl⟩ := hm
    simp
theorem views_U {ns : List Int} {r n : Nat} (h : Row3 ns) (hr : r ≤ 1) (hn : n < 3 ^ (3 * r)) : ∀ v ∈ viewsK ns (patL r n), v ∈ viewsU := by
  have hns := row3_mem h
  obtain rfl | rfl : r = 0 ∨ r = 1 := by omega
  · intro v hv
    simp only [viewsK, patL, Nat.mul_zero, List.range_zero, List.map_nil, List.foldl_nil, List.mem_map] at hv
    obtain ⟨x, hx, rfl⟩ := hv
    exact views_C ns hns x hx
  · intro v hv
    have e : ∃ ms, patL 1 n = [ms] := ⟨_, rfl⟩
    obtain ⟨ms, e⟩ := e
    rw [e] at hv
    simp only [viewsK, List.foldl_cons, List.foldl_nil, stepK, List.mem_map] at hv
    obtain ⟨m, hm, rfl⟩ := hv
    exact views_A ns hns m ((patL_miss hr hn ms (by rw [e]; simp)).2 m hm)
theorem prs_U {ns : List Int} {r n : Nat} (h : Row3 ns) (hr : r ≤ 1) (hn : n < 3 ^ (3 * r)) : ∀ k ∈ pairsOf (viewsK ns (patL r n)), k ∈ keysU := by
  intro k hk
  simp only [pairsOf, List.mem_mapIdx] at hk
  obtain ⟨i, hi, rfl⟩ := hk
  rw [viewsK_len h.1] at hi
  have hv := views_U h hr hn _ (List.getElem_mem (l := viewsK ns (patL r n)) (by rw [viewsK_len h.1]; exact hi))
  simp only [keysU, List.mem_flatMap, List.mem_map]
  refine ⟨(i : Int), ?_, _, hv, rfl⟩
  simp; omega
theorem insAt_ok {L : Lots} (hL : LotsOk L) {i : Nat} (h : i < L.length) : Row3 (insAt L i) := by
  unfold insAt
  rw [List.getD_eq_getElem?_getD, List.getElem?_eq_getElem h]
  exact hL.ins _ (List.getElem_mem h)
theorem prsR_U {L : Lots} {r : Nat} (hL : LotsOk L) (hr : r ≤ 1) {u : Run} (hu : u ∈ runsL L r) : ∀ k ∈ prsR L u, k ∈ keysU := by
  obtain ⟨h1, n, hn, e⟩ := runsL_at hu
  unfold prsR
  rw [e]
  exact prs_U (insAt_ok hL h1) hr hn
end
end S1

/-! L6: runs, made -/
namespace S1
open PySem L2
section
variable {P : Program} {w : World} {K : PySem.W.Frag} {mg : Str → Option Value} {base : Heap} {cT cR cS cA : Addr}
/-- all runs of the lots L stand at p -/
def RunsAt (cT cR : Addr) (H : Hp) (p t : Addr) (L : Lots) (r : Nat) : Prop := ∃ dx fs lp lr a pvs rs, H p = some (.ins cR dx fs) ∧ fs.lookup ("task" : Str) = some (.ref t) ∧ fs.lookup ("pairs" : Str) = some (.ref lp) ∧ fs.lookup ("rows" : Str) = some (.ref lr) ∧
  TaskAt cT H t a ∧ NK H (lotsK L) (.ref a) ∧ H lp = some (.lst pvs) ∧ NKs H (pairsL L r) pvs ∧ H lr = some (.lst rs) ∧ NKs H ((runsL L r).map (rowK1 L (pairsL L r))) rs
theorem RunsAt.mono {H H' : Hp} {p t : Addr} {L : Lots} {r : Nat} (h : RunsAt cT cR H p t L r) (s : Same H H') : RunsAt cT cR H' p t L r :=
  let ⟨dx, fs, lp, lr, a, pvs, rs, h1, h2, h3, h4, h5, h6, h7, h8, h9, h10⟩ := h
  ⟨dx, fs, lp, lr, a, pvs, rs, s _ _ h1, h2, h3, h4, h5.mono s, NK.mono (KeepT.of_same s) _ _ h6, s _ _ h7, NKs.mono (KeepT.of_same s) _ _ h8, s _ _ h9, NKs.mono (KeepT.of_same s) _ _ h10⟩
/-- the runs so far -/
structure RS (P : Program) (w : World) (cR : Addr) (H H' : Hp) (p dx nd lp lr : Addr) (fs : List (Str × V)) (L : Lots) (us : List Run) : Prop where
  k : Keep [p] H H'
  ins : H' p = some (.ins cR dx fs)
  nd_ : ND P w H' nd (kvN (ksOf L us))
  ps : ∃ pvs, H' lp = some (.lst pvs) ∧ NKs H' (ksOf L us) pvs
  rs : ∃ rs, H' lr = some (.lst rs) ∧ NKs H' (us.map (rowK1 L (ksOf L us))) rs
theorem ksOf_len {L : Lots} : ∀ us' : List Run, (∀ u ∈ us', (prsR L u).length = 3) → (ksOf L us').length ≤ 3 * us'.length := by
  have : ∀ (us : List Run) (ks : List NestedKey), (∀ u ∈ us, (prsR L u).length = 3) → (us.foldl (fun ks u => numKs ks (prsR L u)) ks).length ≤ ks.length + 3 * us.length := by
    intro us
    induction us with
    | nil => intro ks _; simp
    | cons u us ih =>
      intro ks h
      have h1 := ih (numKs ks (prsR L u)) fun v hv => h v (List.mem_cons_of_mem _ hv)
      have h2 := numKs_len (prsR L u) ks
      have h3 := h u List.mem_cons_self
      simp only [List.foldl_cons, List.length_cons]; omega
  intro us' h'
  have := this us' [] h'
  simpa [ksOf] using this
theorem RS.same {H H' H2 : Hp} {p dx nd lp lr : Addr} {fs : List (Str × V)} {L : Lots} {us : List Run} (R : RS P w cR H H' p dx nd lp lr fs L us) (s : Same H' H2) : RS P w cR H H2 p dx nd lp lr fs L us :=
  ⟨fun b o e n => s _ _ (R.k b o e n), s _ _ R.ins, R.nd_.mono (KeepT.of_same s) (fun o e => s _ _ e), let ⟨v, a, b⟩ := R.ps; ⟨v, s _ _ a, NKs.mono (KeepT.of_same s) _ _ b⟩, let ⟨v, a, b⟩ := R.rs; ⟨v, s _ _ a, NKs.mono (KeepT.of_same s) _ _ b⟩⟩
theorem rowK1_ext {L : Lots} {ks t : List NestedKey} {u : Run} (h : ∀ k ∈ prsR L u, k ∈ ks) : rowK1 L (ks ++ t) u = rowK1 L ks u := by
  unfold rowK1
  have : ((prsR L u).map fun k => NestedKey.num (((ks ++ t).idxOf k : Nat) : Int)) = (prsR L u).map fun k => NestedKey.num ((ks.idxOf k : Nat) : Int) := List.map_congr_left fun k hk => by rw [idx_ext (h k hk)]
  rw [this]
theorem prsR_len {L : Lots} {i r n : Nat} (h : (insAt L i).length = 3) : (prsR L (i, patL r n)).length = 3 := by
  unfold prsR pairsOf
  rw [List.length_mapIdx]; exact viewsK_len h
theorem insAt_eq {L : Lots} {i : Nat} {r : List Int} {l : List (List Int)} (h : L[i]? = some (r, l)) : insAt L i = r := by
  unfold insAt; rw [List.getD_eq_getElem?_getD, h]; rfl
theorem lotAt_eq {L : Lots} {i : Nat} {r : List Int} {l : List (List Int)} (h : L[i]? = some (r, l)) : lotAt L i = l := by
  unfold lotAt; rw [List.getD_eq_getElem?_getD, h]; rfl
abbrev s_Runs___init__ : Stmt := inClass (top 30) 0
def sp_Runs___init__ (cT cR : Addr) : Sp := fun vs H Q _ => ∃ (p dx t a : Addr) (L : Lots) (r : Nat), vs = [.ref p, .ref t, .int r] ∧ H p = some (.ins cR dx []) ∧ TaskAt cT H t a ∧ NK H (lotsK L) (.ref a) ∧ LotsOk L ∧ r ≤ 1 ∧ ∀ H', Keep [p] H H' → RunsAt cT cR H' p t L r → Q .non H'
theorem ok_Runs___init__ {f : Addr} {fd : FuncData} (F : Fun K "__init__" "Runs.__init__" s_Runs___init__ f fd) (T : Txt K mg cT cR cS cA) (G_raw_pattern : Fn P w K mg base 2 "raw_pattern" ["many", "rounds", "number"] sp_raw_pattern) (G_raw_count : Fn P w K mg base 1 "raw_count" ["many", "rounds"] sp_raw_count) (G_raw_views : Fn P w K mg base 1 "raw_views" ["inputs", "pattern"] sp_raw_views) (G_numbered : Me P w K mg base 1 cR "numbered" ["self", "views"] (sp_Runs_numbered P w cR)) {gf : Addr} {gfd : FuncData} (FG : Fun K "all_patterns" "all_patterns" s_ap gf gfd) (hAP : mg "all_patterns" = some (.ref gf)) : FnOk P w K mg base CX0 5 f fd ["self", "task", "rounds"] (sp_Runs___init__ cT cR) := by
  have sc : FnScope ["self", "task", "rounds", "at", "inputs", "lot", "pattern"] ["self", "task", "rounds"] (defScope s_Runs___init__) := sc_by (by decide +kernel)
  refine F.ok sc (fun vs H Q E h => ?_) (fun cdv A outer s H vs Q E hr h => ?_)
  · obtain ⟨_, _, _, _, _, _, rfl, _⟩ := h; rfl
  · obtain ⟨p, dx, t, a, L, r, rfl, hp, ht, h, hL, hr1, q⟩ := h
    have hu := hu9 hr
    have hu65 := hu65 hr
    have hu1 := hu1_of hr
    refine ⟨_, (pss_cons (ps_fl T.clR T.nR_task (pv 0) (pv 1) rfl)
      (pss_cons (ps_fl T.clR T.nR_pairs (pv 0) (pe_lst pa_nil) rfl)
      (pss_cons (ps_fl T.clR T.nR_numbers (pv 0) pe_dnewN rfl)
      (pss_cons (ps_fl T.clR T.nR_rows (pv 0) (pe_lst pa_nil) rfl)
      (pss_one (ps_for PassesOwn.never rfl (pi_enumT (by rfl) T.enumerate (pa_cons (pe_fl T.clT T.nT_lots (pv 1)) pa_nil)) (pg_tu 2 rfl (pgs_cons (pg_name (i := 3) sc.nd rfl (Or.inl rfl) (Or.inl rfl)) (pgs_cons (pg_tu 2 rfl (pgs_cons (pg_name (i := 4) sc.nd rfl (Or.inl rfl) (Or.inl rfl)) (pgs_cons (pg_name (i := 5) sc.nd rfl (Or.inl rfl) (Or.inl rfl)) pgs_nil))) pgs_nil)))
        (pss_one (ps_forPat FG G_raw_pattern G_raw_count T.range hAP (by rfl) rfl (hr.mono (by decide)) (pa_cons (pe_fl T.clT T.nT_many (pv 1)) (pa_cons (pv 2) pa_nil)) (pg_name (i := 6) sc.nd rfl (Or.inl rfl) (Or.inl rfl))
            (pss_one (ps_expr (pe_bm PySem.F.plainAttrs_list PySem.F.slot_list_append PySem.F.type_list_append mt_append (pe_fl T.clR T.nR_rows (pv 0)) (pa_cons (pe_tup (pa_cons (pv 3) (pa_cons (pv 6) (pa_cons (pe_me G_numbered T.clR (hr.mono (by decide)) (pv 0) (pa_cons (pe_fn G_raw_views (hr.mono (by decide)) rfl (pa_cons (pv 4) (pa_cons (pv 6) pa_nil))) pa_nil)) pa_nil)))) pa_nil)))) PassesOwn.never)))))))), ?_⟩
    obtain ⟨_, us, e, ha, hks⟩ := id h
    cases e
    obtain ⟨dxT, fT, htT, hfm, hfl⟩ := id ht
    have hlu := hks.lenK
    have h2 := hL.few
    have nap : a ≠ p := fun z => by rw [z, hp] at ha; cases ha
    have ntp : t ≠ p := fun z => by rw [z, hp] at htT; cases htT; cases hfm
    refine ⟨_, rfl, _, rfl, p, dx, [], rfl, hp, by decide, ?_⟩
    refine ⟨Nat.zero_le _, fun lp hlp => ?_⟩
    have nlp : lp ≠ p := fun z => by rw [z, upd_same] at hlp; cases hlp
    have hlp0 : H lp = none := by rwa [upd_ne nlp] at hlp
    refine ⟨_, rfl, p, dx, putF "task" (.ref t) [], rfl, by rw [upd_ne nlp.symm, upd_same], of_decide_eq_true (by kernel_rfl), ?_⟩
    generalize hH1 : upd (upd (upd H p _) lp _) p _ = H1
    have p1 : H1 p = some (.ins cR dx (putF "pairs" (.ref lp) (putF "task" (.ref t) []))) := by rw [← hH1, upd_same]
    have l1 : H1 lp = some (.lst []) := by rw [← hH1, upd_ne nlp, upd_same]
    have k1 : Keep [p] H H1 := fun b o e n => by
      have n' : b ≠ p := by simpa using n
      rw [← hH1, upd_ne n', upd_ne (ne_of_none e hlp0), upd_ne n']; exact e
    clear hH1
    refine fun nd H2 hnd s2 n2 => ?_
    have nnp : nd ≠ p := fun z => by rw [z, p1] at hnd; cases hnd
    have nnl : nd ≠ lp := fun z => by rw [z, l1] at hnd; cases hnd
    refine ⟨_, rfl, p, dx, _, rfl, s2 _ _ p1, of_decide_eq_true (by kernel_rfl), ?_⟩
    generalize hH3 : upd H2 p _ = H3
    have p3 : H3 p = some (.ins cR dx (putF "numbers" (.ref nd) (putF "pairs" (.ref lp) (putF "task" (.ref t) [])))) := by rw [← hH3, upd_same]
    have l3 : H3 lp = some (.lst []) := by rw [← hH3, upd_ne nlp]; exact s2 _ _ l1
    have n3 : ND P w H3 nd [] := by
      rw [← hH3]
      exact n2.mono (keepT_upd fun xs e => by rw [s2 _ _ p1] at e; cases e) (fun o e => by rw [upd_ne nnp]; exact e)
    have k3 : Keep [p] H H3 := fun b o e n => by
      have n' : b ≠ p := by simpa using n
      rw [← hH3, upd_ne n']; exact s2 _ _ (k1 _ _ e n)
    clear hH3
    refine ⟨Nat.zero_le _, fun lr hlr => ?_⟩
    have nrp : lr ≠ p := fun z => by rw [z, p3] at hlr; cases hlr
    have nrl : lr ≠ lp := fun z => by rw [z, l3] at hlr; cases hlr
    obtain ⟨f3, hf3⟩ := n3.at
    have nrn : lr ≠ nd := fun z => by rw [z, hf3] at hlr; cases hlr
    have z0 : ∀ b, b ≠ p → H3 b = none → H b = none := fun b n e => by
      cases e2 : H b with
      | none => rfl
      | some o => rw [k3 b o e2 (by simpa using n)] at e; cases e
    refine ⟨_, rfl, p, dx, _, rfl, by rw [upd_ne nrp.symm]; exact p3, of_decide_eq_true (by kernel_rfl), ?_⟩
    generalize hH4 : upd (upd H3 lr _) p _ = H4
    generalize hfs : putF "rows" (V.ref lr) (putF "numbers" (.ref nd) (putF "pairs" (.ref lp) (putF "task" (.ref t) []))) = fs at hH4
    have f1 : fs.lookup ("task" : Str) = some (.ref t) := by rw [← hfs]; kernel_rfl
    have f2 : fs.lookup ("pairs" : Str) = some (.ref lp) := by rw [← hfs]; kernel_rfl
    have f3 : fs.lookup ("numbers" : Str) = some (.ref nd) := by rw [← hfs]; kernel_rfl
    have f4 : fs.lookup ("rows" : Str) = some (.ref lr) := by rw [← hfs]; kernel_rfl
    have f5 : fs.lookup ("numbered" : Str) = none := by rw [← hfs]; kernel_rfl
    have R0 : RS P w cR H H4 p dx nd lp lr fs L [] := by
      have kk : KeepT H3 H4 := fun b xs e => by
        have n' : b ≠ p := fun z => by rw [z, p3] at e; cases e
        rw [← hH4, upd_ne n', upd_ne (ne_of_none e hlr)]; exact e
      refine ⟨fun b o e n => ?_, by rw [← hH4, upd_same], n3.mono kk (fun o e => ?_), ⟨[], ?_, rfl⟩, ⟨[], ?_, rfl⟩⟩
      · have n' : b ≠ p := by simpa using n
        rw [← hH4, upd_ne n', upd_ne (ne_of_none (k3 _ _ e n) hlr)]; exact k3 _ _ e n
      · rw [← hH4, upd_ne nnp, upd_ne nrn.symm]; exact e
      · rw [← hH4, upd_ne nlp, upd_ne nrl.symm]; exact l3
      · rw [← hH4, upd_ne nrp, upd_same]
    have hlr0 : H lr = none := z0 lr nrp hlr
    have hnd0 : H nd = none := by
      cases e2 : H nd with
      | none => rfl
      | some o => rw [k1 nd o e2 (by simpa using nnp)] at hnd; cases hnd
    clear hH4
    have kT : KeepT H H4 := R0.k.keepT fun b hb ys e => by rw [List.mem_singleton.mp hb, hp] at e; cases e
    refine ⟨_, rfl, t, dxT, fT, _, rfl, R0.k _ _ htT (by simpa using ntp), hfl, a, us, rfl, SqT.of (R0.k _ _ ha (by simpa using nap)), for_it walkET (fun i σ H' => ∃ v3 v4 v5 v6, σ = [some (.ref p), some (.ref t), some (.int r), v3, v4, v5, v6] ∧ RS P w cR H H' p dx nd lp lr fs L (runsUp r i 0)) ⟨none, none, none, none, rfl, R0⟩ (fun i σ H' _ ⟨_, _, _, _, _, R⟩ => R.k _ _ ha (by simpa using nap)) ?_ ?_⟩
    · rintro i x σ H5 H6 hi ⟨v3, v4, v5, v6, rfl, R5⟩ ⟨T0, y, rfl, hT, rfl, hy⟩
      obtain ⟨⟨ns, l⟩, ep, np⟩ := hks.atK hy
      obtain ⟨b, ws, rfl, hb, hws⟩ := id np
      obtain ⟨x1, _, rfl, hx1, x2, _, rfl, hx2, rfl⟩ := id hws
      obtain ⟨c, rfl, gc⟩ := hx1.rowI
      have h3 : Row3 ns := hL.ins _ (List.mem_of_getElem? ep)
      have eins := insAt_eq ep
      have hiL : i < L.length := by omega
      have tk : ∀ {H' : Hp}, Keep [p] H H' → KeepT H H' := fun k => k.keepT fun b hb ys e => by rw [List.mem_singleton.mp hb, hp] at e; cases e
      have sT : Same H5 (upd H5 T0 (.tup [.int i, .ref b])) := same_upd _ hT
      have R6 := R5.same sT
      refine ⟨T0, _, rfl, upd_same, rfl, _, _, rfl, _, _, rfl, b, _, rfl, tk R6.k _ _ hb, rfl, _, _, rfl, _, _, rfl, rfl, rfl, ?_⟩
      generalize upd H5 T0 (.tup [.int i, .ref b]) = H6 at R6
      refine ⟨_, rfl, t, dxT, fT, _, rfl, R6.k _ _ htT (by simpa using ntp), hfm, _, rfl, for_pat hr1 (fun j σ H' => ∃ v6, σ = [some (.ref p), some (.ref t), some (.int r), some (.int i), some (.ref c), some x2, v6] ∧ RS P w cR H H' p dx nd lp lr fs L (runsUp r i j)) (fun H2 s => ⟨v6, rfl, R6.same s⟩) ?_ ?_⟩
      · rintro j σ H7 hj ⟨v6, rfl, R7⟩ x H8 s8 n8
        have R8 := R7.same s8
        obtain ⟨d, ds, rfl, hd, hds⟩ := id n8
        obtain ⟨pvs, hpv, npv⟩ := R8.ps
        obtain ⟨rs, hrs, nrs⟩ := R8.rs
        have hn27 : 3 ^ (3 * r) ≤ 27 := by
          obtain rfl | rfl : r = 0 ∨ r = 1 := by omega
          · decide
          · decide
        have hlen : (runsUp r i j).length ≤ 107 := by
          rw [runsUp_len]
          have : i * 3 ^ (3 * r) ≤ 3 * 27 := Nat.mul_le_mul (by omega) hn27
          omega
        have hpl : ∀ u ∈ runsUp r i j, (prsR L u).length = 3 := fun u hu => by
          obtain ⟨h1, n, hn, e, _⟩ := runsUp_at hu
          obtain ⟨a1, a2⟩ := u
          simp only at e h1
          subst e
          exact prsR_len (insAt_ok hL (by omega)).1
        have hkl := ksOf_len (L := L) (runsUp r i j) hpl
        refine ⟨_, rfl, p, dx, fs, _, rfl, R8.ins, f4, .inl ⟨rfl, _, SqL.of hrs⟩, _, rfl, _, rfl, _, rfl, p, dx, fs, rfl, R8.ins, f5, _, rfl, _, rfl, c, d, ns, patL r j, rfl, NK.row.mpr ⟨c, rfl, tk R8.k _ _ gc⟩, n8, h3.1, by simp [patL]; omega, fun m hm => ⟨(patL_miss hr1 hj m hm).1, fun k hk => ?_⟩, fun l9 H9 vs9 s9 z9 e9 n9 => ?_⟩
        · have := (patL_miss hr1 hj m hm).2 k hk
          simp only [missU, List.mem_cons, List.not_mem_nil, or_false] at this
          rcases this with rfl | rfl | rfl | rfl
          · exact .inl rfl
          · exact .inr ⟨_, rfl⟩
          · exact .inr ⟨_, rfl⟩
          · exact .inr ⟨_, rfl⟩
        have R9 := R8.same s9
        have hprs : prsR L (i, patL r j) = pairsOf (viewsK ns (patL r j)) := by unfold prsR; rw [eins]
        refine ⟨p, dx, l9, nd, lp, fs, vs9, pvs, viewsK ns (patL r j), ksOf L (runsUp r i j), rfl, R9.ins, f3, f2, e9, n9, prs_U h3 hr1 hj, R9.nd_, s9 _ _ hpv, NKs.mono (KeepT.of_same s9) _ _ npv, ?_, by rw [viewsK_len h3.1]; omega, fun t2 H10 pvs' k10 nd10 lp10 nk10 e10 => ?_⟩
        · exact fun z => by rw [z, hpv] at z9; cases z9
        have nrl9 : H10 lr = some (.lst rs) := k10 _ _ (s9 _ _ hrs) (by simp [nrn, nrl])
        refine ⟨by show 3 ≤ sizeLine; decide, fun T1 hT1 => ?_⟩
        have ne1 : lr ≠ T1 := fun z => by rw [z, hT1] at nrl9; cases nrl9
        have s11 : Same H10 (upd H10 T1 (.tup [.int i, .ref d, .ref t2])) := same_upd _ hT1
        refine ⟨lr, _, _, rfl, rfl, s11 _ _ nrl9, ?_, _, rfl, ?_⟩
        · have := nrs.len; rw [sizeLine_eq]; simp at this; omega
        have kt12 : KeepT (upd H10 T1 (.tup [.int i, .ref d, .ref t2])) (upd (upd H10 T1 (.tup [.int i, .ref d, .ref t2])) lr (.lst (rs ++ [.ref T1]))) := keepT_upd fun xs e => by rw [s11 _ _ nrl9] at e; cases e
        obtain ⟨f9, hf9⟩ := R9.nd_.at
        have kt10 : KeepT H9 H10 := k10.keepT fun b hb ys e => by
          simp only [List.mem_cons, List.not_mem_nil, or_false] at hb
          rcases hb with rfl | rfl
          · rw [hf9] at e; cases e
          · rw [s9 _ _ hpv] at e; cases e
        have kt : KeepT H10 (upd (upd H10 T1 (.tup [.int i, .ref d, .ref t2])) lr (.lst (rs ++ [.ref T1]))) := (KeepT.of_same s11).trans kt12
        have ks1 : ksOf L (runsUp r i (j + 1)) = numKs (ksOf L (runsUp r i j)) (pairsOf (viewsK ns (patL r j))) := by rw [runsUp_snoc, ksOf_snoc, hprs]
        obtain ⟨tl, etl⟩ := numKs_ext (pairsOf (viewsK ns (patL r j))) (ksOf L (runsUp r i j))
        refine ⟨fun b o e n => ?_, ?_, ?_, ⟨pvs', ?_, ?_⟩, ⟨_, upd_same, ?_⟩⟩
        · rw [upd_ne (ne_of_none e hlr0)]
          exact s11 _ _ (k10 _ _ (R9.k _ _ e n) (by simp [ne_of_none e hnd0, ne_of_none e hlp0]))
        · rw [upd_ne nrp.symm]
          exact s11 _ _ (k10 _ _ R9.ins (by simp [nnp.symm, nlp.symm]))
        · rw [ks1]
          exact nd10.mono kt fun o e => by rw [upd_ne nrn.symm]; exact s11 _ _ e
        · rw [upd_ne nrl.symm]; exact s11 _ _ lp10
        · rw [ks1]; exact NKs.mono kt _ _ nk10
        · rw [runsUp_snoc, List.map_append, ← runsUp_snoc, ks1, etl]
          have ee : ((runsUp r i j).map (rowK1 L (ksOf L (runsUp r i j) ++ tl))) = (runsUp r i j).map (rowK1 L (ksOf L (runsUp r i j))) := List.map_congr_left fun u hu => rowK1_ext fun k hk => ksOf_mem.mpr ⟨u, hu, hk⟩
          rw [ee]
          refine NKs.snoc (NKs.mono (((KeepT.of_same s9).trans kt10).trans kt) _ _ nrs) ⟨T1, _, rfl, kt12 _ _ upd_same, _, _, rfl, rfl, _, _, rfl, NK.mono (((KeepT.of_same s9).trans kt10).trans kt) _ _ n8, _, _, rfl, ⟨t2, _, rfl, kt _ _ e10, ?_⟩, rfl⟩
          rw [hprs, ← etl]
          have := (NKs.ints (H := upd (upd H10 T1 (.tup [.int i, .ref d, .ref t2])) lr (.lst (rs ++ [.ref T1]))) (ns := (pairsOf (viewsK ns (patL r j))).map fun k => (((numKs (ksOf L (runsUp r i j)) (pairsOf (viewsK ns (patL r j)))).idxOf k : Nat) : Int))).mpr rfl
          simpa [List.map_map, Function.comp_def] using this
      · rintro σ H7 ⟨v6, rfl, R7⟩
        rw [runsUp_next] at R7
        exact ⟨_, _, _, _, rfl, R7⟩
    · rintro σ H5 ⟨v3, v4, v5, v6, rfl, R5⟩
      rw [hlu] at R5
      obtain ⟨pvs, hpv, nk⟩ := R5.ps
      obtain ⟨rs, hrs, nr⟩ := R5.rs
      exact q H5 R5.k ⟨dx, fs, lp, lr, a, pvs, rs, R5.ins, f1, f2, f4, ⟨dxT, fT, R5.k _ _ htT (by simpa using ntp), hfm, hfl⟩, NK.mono (R5.k.keepT fun b hb ys e => by rw [List.mem_singleton.mp hb, hp] at e; cases e) _ _ h, hpv, nk, hrs, nr⟩

end
end S1

/-! L7: checked runs, a machine's integers, what is let, splits -/
namespace S1
open PySem L2
/-- a walk, turn by turn -/
theorem walk_it {J : It} {n : Nat} {G : Hp → Prop} {Y : Nat → Hp → V → Hp → Prop} (wk : Walk J n G Y) {Qd : Hp → Prop} {B : (Hp → Prop) → V → Hp → Prop} {H0 : Hp} (Pv : Nat → Hp → Prop) (h0 : Pv 0 H0) (hG : ∀ i H, i ≤ n → Pv i H → G H)
    (hs : ∀ i x H H', i < n → Pv i H → Y i H x H' → B (Pv (i + 1)) x H') (hd : ∀ H, Pv n H → Qd H) : ∃ W : Nat → Nat → Hp → Prop, (∃ m, W 0 m H0) ∧ ∀ i m H, W i m H →
      (J.stop i H ∧ Qd H) ∨ (J.go i H ∧ ∃ Nx : Hp → Prop, (∀ H', Nx H' → ∃ m', m' < m ∧ W (i + 1) m' H') ∧ ∀ x H', J.yld i H x H' → B Nx x H') := by
  refine ⟨fun i m H => m = n - i ∧ i ≤ n ∧ Pv i H, ⟨n, by simp, Nat.zero_le _, h0⟩, ?_⟩
  rintro i m H ⟨rfl, hi, p⟩
  have q := hG i H hi p
  by_cases hlt : i < n
  · exact .inr ⟨wk.goes i H hlt q, Pv (i + 1), fun H' p' => ⟨n - (i + 1), by omega, rfl, hlt, p'⟩, fun x H' y => hs i x H H' hlt p (wk.yields i H x H' hlt q y)⟩
  · obtain rfl : i = n := by omega
    exact .inl ⟨wk.stops H q, hd H p⟩
theorem pi_tupP {X : Cx} {tg l : Expr} {tl : TE} (K : PySem.W.Frag) (he : PE X l tl) (hK : X.K = K := by rfl) : PI X tg l (iTup K tl) := by subst hK; exact pi_tup he
section
variable {P : Program} {w : World} {K : PySem.W.Frag} {mg : Str → Option Value} {base : Heap} {cT cR cS cA : Addr}
abbrev s_checked_runs : Stmt := top 32
def sp_checked_runs (cT cR : Addr) : Sp := fun vs H Q _ => ∃ (t a : Addr) (L : Lots) (r : Nat), vs = [.ref t, .int r] ∧ TaskAt cT H t a ∧ NK H (lotsK L) (.ref a) ∧ LotsOk L ∧ r ≤ 1 ∧ ∀ p H', Same H H' → RunsAt cT cR H' p t L r → Q (.ref p) H'
theorem ok_checked_runs {f : Addr} {fd : FuncData} (F : Fun K "checked_runs" "checked_runs" s_checked_runs f fd) (T : Txt K mg cT cR cS cA) (G_check_viewed : Fn P w K mg base 3 "check_viewed" ["rounds"] sp_check_viewed) (G_count_patterns : Fn P w K mg base 5 "count_patterns" ["many", "rounds"] sp_count_patterns) (G_Runs : Mk1 P w K mg base 5 "Runs" cR ["self", "task", "rounds"] (sp_Runs___init__ cT cR)) : FnOk P w K mg base CX0 7 f fd ["task", "rounds"] (sp_checked_runs cT cR) := by
  have sc : FnScope ["task", "rounds"] ["task", "rounds"] (defScope s_checked_runs) := sc_by (by decide +kernel)
  refine F.ok sc (fun vs H Q E h => ?_) (fun cdv A outer s H vs Q E hr h => ?_)
  · obtain ⟨_, _, _, _, rfl, _⟩ := h; rfl
  · obtain ⟨t, a, L, r, rfl, ht, h, hL, hr1, q⟩ := h
    have hu := hu9 hr
    have hu65 := hu65 hr
    have hu1 := hu1_of hr
    refine ⟨_, (pss_cons (ps_expr (pe_fn G_check_viewed (hr.mono (by decide)) rfl (pa_cons (pv 1) pa_nil)))
      (pss_cons (ps_if (pt_cmpR op_gt (pe_op op_mul (pe_callB lenF (by rfl) T.len (by decide +kernel) (pa_cons (pe_fl T.clT T.nT_lots (pv 0)) pa_nil)) (pe_fn G_count_patterns (hr.mono (by decide)) rfl (pa_cons (pe_fl T.clT T.nT_many (pv 0)) (pa_cons (pv 1) pa_nil)))) (pe_gc (by rfl) T.MOST_RUNS) (nomark _))
        pss_never
        pss_nil)
      (pss_one (ps_ret (pe_mk1 G_Runs (hr.mono (by decide)) rfl (pa_cons (pv 0) (pa_cons (pv 1) pa_nil))))))), ?_⟩
    obtain ⟨_, us, e, ha, hks⟩ := id h
    cases e
    obtain ⟨dxT, fT, htT, hfm, hfl⟩ := id ht
    have hlu := hks.lenK
    have h2 := hL.few
    have hn27 : 3 ^ (3 * r) ≤ 27 := by
      obtain rfl | rfl : r = 0 ∨ r = 1 := by omega
      · decide
      · decide
    refine ⟨_, rfl, r, rfl, by omega, by omega, ?_⟩
    refine ⟨_, rfl, t, dxT, fT, _, rfl, htT, hfl, a, us, rfl, .inr ha, _, rfl, t, dxT, fT, _, rfl, htT, hfm, _, rfl, r, rfl, hr1, _, _, rfl, rfl, ?_, _, _, rfl, rfl, _, rfl, ite_f ?_ ?_⟩
    · refine .inl ⟨by omega, by omega⟩
    · have : us.length * 3 ^ (3 * r) ≤ 4 * 27 := Nat.mul_le_mul (by omega) hn27
      have h5 : ((us.length * 3 ^ (3 * r) : Nat) : Int) ≤ 20000 := by omega
      rw [Int.natCast_mul] at h5
      simp only [decide_eq_false_iff_not, Int.not_lt]
      exact h5
    refine ⟨_, rfl, _, rfl, fun x dx hx hdx ndx => ?_⟩
    have s1 : Same H (upd (upd H dx (.own x)) x (.ins cR dx [])) := fun b o e => by rw [upd_ne (ne_of_none e hx), upd_ne (ne_of_none e hdx)]; exact e
    exact ⟨x, dx, t, a, L, r, rfl, upd_same, ht.mono s1, NK.mono (KeepT.of_same s1) _ _ h, hL, hr1, fun H' k R => ⟨rfl, q _ _ (fun b o e => k _ _ (s1 _ _ e) (by simpa using ne_of_none e hx)) R⟩⟩

/-! ### the integers of a machine -/
def intIn (L : Lots) (me : Nat) (k : Int) : Bool := L.any fun p => p.2.any fun row => row.getD me 0 == k
def intsL (L : Lots) (me : Nat) : List Int := ([0, 1, 2] : List Int).filter (intIn L me)
theorem sorted_unique : ∀ {l m : List Int}, l.Pairwise (· < ·) → m.Pairwise (· < ·) → (∀ k, k ∈ l ↔ k ∈ m) → l = m
  | [], [], _, _, _ => rfl
  | [], b :: m, _, _, h => absurd ((h b).mpr List.mem_cons_self) (by simp)
  | a :: l, [], _, _, h => absurd ((h a).mp List.mem_cons_self) (by simp)
  | a :: l, b :: m, hl, hm, h => by
    have hl' := List.pairwise_cons.mp hl
    have hm' := List.pairwise_cons.mp hm
    have e : a = b := by
      rcases List.mem_cons.mp ((h a).mp List.mem_cons_self) with e | e
      · exact e
      · rcases List.mem_cons.mp ((h b).mpr List.mem_cons_self) with e' | e'
        · exact e'.symm
        · have := hm'.1 a e; have := hl'.1 b e'; omega
    subst e
    congr 1
    refine sorted_unique hl'.2 hm'.2 fun k => ⟨fun hk => ?_, fun hk => ?_⟩
    · rcases List.mem_cons.mp ((h k).mp (List.mem_cons_of_mem _ hk)) with e | e
      · have := hl'.1 k hk; omega
      · exact e
    · rcases List.mem_cons.mp ((h k).mpr (List.mem_cons_of_mem _ hk)) with e | e
      · have := hm'.1 k hk; omega
      · exact e
theorem intIn_iff {L : Lots} {me : Nat} {k : Int} : intIn L me k = true ↔ ∃ p ∈ L, ∃ row ∈ p.2, row.getD me 0 = k := by
  simp [intIn, List.any_eq_true]
theorem row3_get {row : List Int} (h : Row3 row) {me : Nat} (hm : me < 3) : row[me]? = some (row.getD me 0) ∧ 0 ≤ row.getD me 0 ∧ row.getD me 0 ≤ 2 := by
  have hl : me < row.length := by rw [h.1]; exact hm
  rw [List.getD_eq_getElem?_getD, List.getElem?_eq_getElem hl]
  exact ⟨rfl, h.2 _ (List.getElem_mem hl)⟩
theorem intsL_sorted (L : Lots) (me : Nat) : (intsL L me).Pairwise (· < ·) := List.Pairwise.sublist List.filter_sublist (by decide)
theorem intsL_mem {L : Lots} (hL : LotsOk L) {me : Nat} (hm : me < 3) {k : Int} : k ∈ intsL L me ↔ intIn L me k = true := by
  unfold intsL
  rw [List.mem_filter]
  refine ⟨fun h => h.2, fun h => ⟨?_, h⟩⟩
  obtain ⟨p, hp, row, hr, e⟩ := intIn_iff.mp h
  have := (row3_get ((hL.lots p hp).rows row hr) hm).2
  simp; omega
abbrev s_integers_of : Stmt := top 33
def sp_integers_of (cT : Addr) : Sp := fun vs H Q _ => ∃ (t a : Addr) (L : Lots) (me : Nat), vs = [.ref t, .int me] ∧ me < 3 ∧ TaskAt cT H t a ∧ NK H (lotsK L) (.ref a) ∧ LotsOk L ∧ ∀ p H', Same H H' → H p = none → H' p = some (.lst ((intsL L me).map V.int)) → Q (.ref p) H'
theorem ok_integers_of {f : Addr} {fd : FuncData} (F : Fun K "integers_of" "integers_of" s_integers_of f fd) (T : Txt K mg cT cR cS cA) : FnOk P w K mg base CX0 1 f fd ["task", "me"] (sp_integers_of cT) := by
  have sc : FnScope ["task", "me", "inputs", "lot", "row"] ["task", "me"] (defScope s_integers_of) := sc_by (by decide +kernel)
  refine F.ok sc (fun vs H Q E h => ?_) (fun cdv A outer s H vs Q E hr h => ?_)
  · obtain ⟨_, _, _, _, rfl, _⟩ := h; rfl
  · obtain ⟨t, a, L, me, rfl, hme, ht, h, hL, q⟩ := h
    have hu := hu9 hr
    have hu65 := hu65 hr
    have hu1 := hu1_of hr
    refine ⟨_, (pss_one (ps_ret (pe_callB (cr_sortedSet rfl) (by rfl) T.sorted (by decide +kernel) (pa_cons (pe_sc2 (own := [("inputs", 2), ("lot", 3), ("row", 4)]) (vs1 := [4]) rfl sc.nd (pi_tup (pe_fl T.clT T.nT_lots (pv 0))) (blkOk_by (by kernel_rfl)) (by decide) (fun _ _ _ _ _ => (pg_tu 2 rfl (pgs_cons (pg_name (i := 2) sc.nd rfl (Or.inl rfl) (Or.inr rfl)) (pgs_cons (pg_name (i := 3) sc.nd rfl (Or.inl rfl) (Or.inr rfl)) pgs_nil)))) (fun _ _ _ _ _ => pts_nil) (fun _ _ _ _ _ => (pi_tupP K (pv 3))) (fun _ _ _ _ _ => (pg_name (i := 4) sc.nd rfl (Or.inl rfl) (Or.inr rfl))) (fun _ _ _ _ _ => pts_nil) (fun _ _ _ _ _ => (pe_ix ixt (pv 4) (pv 1) (fun _ _ => rfl)))) pa_nil)))), ?_⟩
    obtain ⟨_, us, e, ha, hks⟩ := id h
    cases e
    obtain ⟨dxT, fT, htT, hfm, hfl⟩ := id ht
    have hlu := hks.lenK
    have h2 := hL.few
    refine ⟨_, rfl, t, dxT, fT, _, rfl, htT, hfl, a, rfl, ⟨_, SqT.of ha⟩, fun D hD => ?_⟩
    refine walk_it (walkT (xs := us)) (fun i H' => Same H H' ∧ ∃ S n, H' D = some (SetO w D S n) ∧ (∀ k, S k = true ↔ k ∈ (L.take i).flatMap fun p => p.2.map fun row => row.getD me 0) ∧ n = (([0, 1, 2] : List Int).filter S).length) ⟨same_upd _ hD, _, _, upd_same, by simp, rfl⟩ (fun i H' _ p => p.1 _ _ ha) ?_ ?_
    · rintro i x H1 H2 hi ⟨s1, S, n, eD, hS, hn⟩ ⟨rfl, hx⟩
      obtain ⟨⟨ns, l⟩, ep, np⟩ := hks.atK hx
      obtain ⟨b, ws, rfl, hb, hws⟩ := id np
      obtain ⟨x1, _, rfl, hx1, x2, _, rfl, hx2, rfl⟩ := id hws
      obtain ⟨c, vs, rfl, hc, hcs⟩ := id hx2
      have hlot := hL.lots _ (List.mem_of_getElem? ep)
      refine ⟨b, _, rfl, s1 _ _ hb, rfl, _, _, rfl, _, _, rfl, rfl, rfl, ?_⟩
      refine ⟨_, rfl, c, rfl, ⟨_, SqT.of (s1 _ _ hc)⟩, ?_⟩
      refine walk_it (walkT (xs := vs)) (fun j H' => Same H H' ∧ ∃ S n, H' D = some (SetO w D S n) ∧ (∀ k, S k = true ↔ k ∈ ((L.take i).flatMap fun p => p.2.map fun row => row.getD me 0) ++ (l.take j).map fun row => row.getD me 0) ∧ n = (([0, 1, 2] : List Int).filter S).length) ⟨s1, S, n, eD, by simpa using hS, hn⟩ (fun j H' _ p => p.1 _ _ hc) ?_ ?_
      · rintro j x H3 H4 hj ⟨s3, S, n, eD, hS, hn⟩ ⟨rfl, hx⟩
        obtain ⟨row, er, nr⟩ := hcs.atK hx
        obtain ⟨d, rfl, gd⟩ := nr.rowI
        obtain ⟨g1, g2, g3⟩ := row3_get (hlot.rows row (List.mem_of_getElem? er)) hme
        refine ⟨rfl, _, rfl, _, rfl, d, _, me, V.int (row.getD me 0), rfl, rfl, s3 _ _ gd, by rw [List.getElem?_map, g1]; rfl, row.getD me 0, S, n, rfl, eD, ?_, fun b' o e => ?_, _, _, upd_same, fun k => ?_, ?_⟩
        · have h9 : n ≤ 3 := by rw [hn]; exact Nat.le_trans (List.length_filter_le _ _) (by decide)
          exact Nat.lt_of_le_of_lt (Nat.succ_le_succ h9) (by decide)
        · rw [upd_ne (ne_of_none e hD)]; exact s3 _ _ e
        · rw [List.take_add_one, er, List.map_append, ← List.append_assoc, Bool.or_eq_true, hS, List.mem_append (t := _)]
          simp [or_assoc]
        · generalize row.getD me 0 = v at g2 g3
          have hc3 : v = 0 ∨ v = 1 ∨ v = 2 := by omega
          rcases hc3 with rfl | rfl | rfl <;> cases e0 : S 0 <;> cases e1 : S 1 <;> cases e2 : S 2 <;> simp [e0, e1, e2, hn]
      · rintro H3 ⟨s3, S, n, eD, hS, hn⟩
        refine ⟨s3, S, n, eD, fun k => ?_, hn⟩
        rw [hS, (List.take_of_length_le (by rw [hcs.lenK]; exact Nat.le_refl _) : l.take vs.length = l), List.take_add_one, ep, List.flatMap_append]
        simp
    · rintro H1 ⟨s1, S, n, eD, hS, hn⟩
      refine ⟨D, S, n, rfl, eD, Nat.lt_of_le_of_lt (by rw [hn]; exact List.length_filter_le _ _) (by decide), fun ns p hsort hmem _ hp => ?_⟩
      have e : ns = intsL L me := sorted_unique hsort (intsL_sorted L me) fun k => by
        rw [hmem, hS, intsL_mem hL hme, intIn_iff, List.take_of_length_le (by omega)]
        simp
      rw [← e] at q
      exact q p _ (s1.trans (same_upd _ hp)) (s1.free hp) upd_same

/-! ### what is let -/
def letK (i me : Nat) (row : List Int) : NestedKey := .tup [.num i, .num me, rowK (row.take me ++ row.drop (me + 1))]
def eRow (i : Nat) (row : List Int) : List (NestedKey × V) := (List.range 3).map fun me => (letK i me row, V.int (row.getD me 0))
def eAll (L : Lots) (n : Nat) : List (NestedKey × V) := (List.range n).flatMap fun i => (lotAt L i).flatMap (eRow i)
/-- what was appended at k -/
def glist (es : List (NestedKey × V)) (k : NestedKey) : List V := (es.filter fun e => decide (e.1 = k)).map (·.2)
def gkeys (es : List (NestedKey × V)) : List NestedKey := (es.map (·.1)).foldl addKey []
theorem gkeys_snoc (es : List (NestedKey × V)) (e : NestedKey × V) : gkeys (es ++ [e]) = addKey (gkeys es) e.1 := by simp [gkeys]
theorem glist_snoc (es : List (NestedKey × V)) (e : NestedKey × V) : glist (es ++ [e]) = addAt (glist es) e.1 e.2 := by
  funext k
  unfold glist addAt
  rw [List.filter_append, List.map_append]
  by_cases h : k = e.1
  · subst h; simp
  · have h' : ¬ e.1 = k := fun z => h z.symm
    simp [h, h']
theorem gkeys_mem {es : List (NestedKey × V)} {k : NestedKey} : k ∈ gkeys es ↔ ∃ e ∈ es, e.1 = k := by
  have := numKs_mem (j := k) (ps := es.map (·.1)) (ks := [])
  unfold numKs at this
  unfold gkeys
  rw [this]; simp
theorem gkeys_len (es : List (NestedKey × V)) : (gkeys es).length ≤ es.length := by
  have := numKs_len (es.map (·.1)) []
  unfold numKs at this
  simpa [gkeys] using this
theorem glist_len (es : List (NestedKey × V)) (k : NestedKey) : (glist es k).length ≤ es.length := by
  unfold glist; rw [List.length_map]; exact List.length_filter_le _ _
theorem glist_mem {es : List (NestedKey × V)} {k : NestedKey} {x : V} : x ∈ glist es k ↔ (k, x) ∈ es := by
  unfold glist
  simp only [List.mem_map, List.mem_filter, decide_eq_true_eq]
  constructor
  · rintro ⟨⟨a, b⟩, ⟨h, rfl⟩, rfl⟩; exact h
  · intro h; exact ⟨_, ⟨h, rfl⟩, rfl⟩
theorem depth_let (i me : Nat) (row : List Int) : (letK i me row).depth ≤ 8 := by
  have := depth_row (row.take me ++ row.drop (me + 1))
  simp only [letK, NestedKey.depth, NestedKey.depthAll]; omega
abbrev s_lets_of : Stmt := top 34
def sp_lets_of (P : Program) (w : World) (cT : Addr) : Sp := fun vs H Q _ => ∃ (t a : Addr) (L : Lots), vs = [.ref t] ∧ TaskAt cT H t a ∧ NK H (lotsK L) (.ref a) ∧ LotsOk L ∧ ∀ p H' o, Same H H' → DL P w H H' p (gkeys (eAll L L.length)) (glist (eAll L L.length)) o → Q (.ref p) H'
theorem ok_lets_of {f : Addr} {fd : FuncData} (F : Fun K "lets_of" "lets_of" s_lets_of f fd) (T : Txt K mg cT cR cS cA) : FnOk P w K mg base CX0 1 f fd ["task"] (sp_lets_of P w cT) := by
  have sc : FnScope ["task", "found", "at", "inputs", "lot", "row", "me", "integer"] ["task"] (defScope s_lets_of) := sc_by (by decide +kernel)
  refine F.ok sc (fun vs H Q E h => ?_) (fun cdv A outer s H vs Q E hr h => ?_)
  · obtain ⟨_, _, _, rfl, _⟩ := h; rfl
  · obtain ⟨t, a, L, rfl, ht, h, hL, q⟩ := h
    have hu := hu9 hr
    have hu65 := hu65 hr
    have hu1 := hu1_of hr
    refine ⟨_, (pss_cons (ps_set (i := 1) sc.nd rfl (Or.inl rfl) pe_dnewN)
      (pss_cons (ps_for PassesOwn.never rfl (pi_enumT (by rfl) T.enumerate (pa_cons (pe_fl T.clT T.nT_lots (pv 0)) pa_nil)) (pg_tu 2 rfl (pgs_cons (pg_name (i := 2) sc.nd rfl (Or.inl rfl) (Or.inl rfl)) (pgs_cons (pg_tu 2 rfl (pgs_cons (pg_name (i := 3) sc.nd rfl (Or.inl rfl) (Or.inl rfl)) (pgs_cons (pg_name (i := 4) sc.nd rfl (Or.inl rfl) (Or.inl rfl)) pgs_nil))) pgs_nil)))
        (pss_one (ps_for PassesOwn.never rfl (pi_tup (pv 4)) (pg_name (i := 5) sc.nd rfl (Or.inl rfl) (Or.inl rfl))
            (pss_one (ps_for PassesOwn.never rfl (pi_enumT (by rfl) T.enumerate (pa_cons (pv 5) pa_nil)) (pg_tu 2 rfl (pgs_cons (pg_name (i := 6) sc.nd rfl (Or.inl rfl) (Or.inl rfl)) (pgs_cons (pg_name (i := 7) sc.nd rfl (Or.inl rfl) (Or.inl rfl)) pgs_nil)))
                (pss_one (ps_expr (pe_bm PySem.F.plainAttrs_list PySem.F.slot_list_append PySem.F.type_list_append mt_append (pe_mG (ty_ndP P w) PySem.F.plainAttrs_dict PySem.F.slot_dict_setdefault PySem.F.type_dict_setdefault (mt_nsetd hu) (pv 1) (pa_cons (pe_tup (pa_cons (pv 2) (pa_cons (pv 6) (pa_cons (pe_op op_catI (pe_slice sl_imm (pv 5) po_none (po_some (pv 6))) (pe_slice sl_imm (pv 5) (po_some (pe_op op_add (pv 6) pe_int)) po_none)) pa_nil)))) (pa_cons (pe_lst pa_nil) pa_nil))) (pa_cons (pv 7) pa_nil)))))))))
      (pss_one (ps_ret (pv 1))))), ?_⟩
    obtain ⟨_, us, e, ha, hks⟩ := id h
    cases e
    obtain ⟨dxT, fT, htT, hfm, hfl⟩ := id ht
    have hlu := hks.lenK
    have h2 := hL.few
    refine fun p H1 hp s1 nd => ?_
    refine ⟨_, rfl, t, dxT, fT, _, rfl, s1 _ _ htT, hfl, a, us, rfl, SqT.of (s1 _ _ ha), for_it walkET (fun i σ H' => ∃ o v2 v3 v4 v5 v6 v7, σ = [some (.ref t), some (.ref p), v2, v3, v4, v5, v6, v7] ∧ Same H H' ∧ DL P w H H' p (gkeys (eAll L i)) (glist (eAll L i)) o ∧ (eAll L i).length ≤ 120 * i) ⟨_, none, none, none, none, none, none, rfl, s1, DL.new (Same.refl H) hp nd, by simp [eAll]⟩ (fun i σ H' _ ⟨_, _, _, _, _, _, _, _, s, _⟩ => s _ _ ha) ?_ ?_⟩
    · rintro i x σ H2 H2' hi ⟨o, v2, v3, v4, v5, v6, v7, rfl, s2, dl, hel⟩ ⟨T0, y, rfl, hT, rfl, hy⟩
      obtain ⟨⟨ns, l⟩, ep, np⟩ := hks.atK hy
      obtain ⟨b, ws, rfl, hb, hws⟩ := id np
      obtain ⟨x1, _, rfl, hx1, x2, _, rfl, hx2, rfl⟩ := id hws
      obtain ⟨c, vs, rfl, hc, hcs⟩ := id hx2
      have elot := lotAt_eq ep
      have hlot := hL.lots _ (List.mem_of_getElem? ep)
      have hll : l.length ≤ 40 := hlot.few
      have sT : Same H2 (upd H2 T0 (.tup [.int i, .ref b])) := same_upd _ hT
      refine ⟨T0, _, rfl, upd_same, rfl, _, _, rfl, _, _, rfl, b, _, rfl, sT _ _ (s2 _ _ hb), rfl, _, _, rfl, _, _, rfl, rfl, rfl, ?_⟩
      generalize upd H2 T0 (.tup [.int i, .ref b]) = H3 at sT
      have s3 := s2.trans sT
      refine ⟨_, rfl, c, rfl, ⟨_, SqT.of (s3 _ _ hc)⟩, for_it walkT (fun j σ H' => ∃ o v5 v6 v7, σ = [some (.ref t), some (.ref p), some (.int i), some x1, some (.ref c), v5, v6, v7] ∧ Same H H' ∧ DL P w H H' p (gkeys (eAll L i ++ (l.take j).flatMap (eRow i))) (glist (eAll L i ++ (l.take j).flatMap (eRow i))) o ∧ (eAll L i ++ (l.take j).flatMap (eRow i)).length ≤ 120 * i + 3 * j) ⟨o, v5, v6, v7, rfl, s3, by simpa using dl.mono sT, by simpa using hel⟩ (fun i σ H' _ ⟨_, _, _, _, _, s, _⟩ => s _ _ hc) ?_ ?_⟩
      · rintro j x σ H4 H5 hj ⟨o, v5, v6, v7, rfl, s4, dl, hel⟩ ⟨rfl, hx⟩
        obtain ⟨row, er, nr⟩ := hcs.atK hx
        obtain ⟨d, rfl, gd⟩ := nr.rowI
        have hrow := hlot.rows row (List.mem_of_getElem? er)
        have hj' : j < l.length := (List.getElem?_eq_some_iff.mp er).1
        generalize hes : eAll L i ++ (l.take j).flatMap (eRow i) = es at dl hel
        refine ⟨_, rfl, d, _, rfl, SqT.of (s4 _ _ gd), for_it walkET (fun k σ H' => ∃ o v6 v7, σ = [some (.ref t), some (.ref p), some (.int i), some x1, some (.ref c), some (.ref d), v6, v7] ∧ Same H H' ∧ DL P w H H' p (gkeys (es ++ (eRow i row).take k)) (glist (es ++ (eRow i row).take k)) o) ⟨o, v6, v7, rfl, s4, by simpa using dl⟩ (fun i σ H' _ ⟨_, _, _, _, s, _⟩ => s _ _ gd) ?_ ?_⟩
        · rintro k x σ H6 H7 hk ⟨o, v6, v7, rfl, s6, dl⟩ ⟨T1, y, rfl, hT1, rfl, hy1⟩
          rw [List.getElem?_map] at hy1
          obtain ⟨v, ev, rfl⟩ := Option.map_eq_some_iff.mp hy1
          have hk3 : k < 3 := by simpa [hrow.1] using hk
          have sT1 : Same H6 (upd H6 T1 (.tup [.int k, .int v])) := same_upd _ hT1
          refine ⟨T1, _, rfl, upd_same, rfl, _, _, rfl, _, _, rfl, rfl, ?_⟩
          generalize upd H6 T1 (.tup [.int k, .int v]) = H7 at sT1
          have gd7 := sT1 _ _ (s6 _ _ gd)
          refine ⟨_, rfl, ⟨p, _, rfl, (dl.mono sT1).nd.rd⟩, _, rfl, _, rfl, _, rfl, _, rfl, _, rfl, d, _, rfl, gd7, fun p1 H8 s8 h8 => ?_⟩
          rw [cut_take] at h8
          refine ⟨_, rfl, _, rfl, _, _, rfl, rfl, _, rfl, d, _, rfl, s8 _ _ gd7, fun p2 H9 s9 h9 => ?_⟩
          rw [show (some ((k : Int) + 1)) = some ((k + 1 : Nat) : Int) by simp, cut_drop] at h9
          refine ⟨p1, p2, _, _, rfl, rfl, s9 _ _ h8, h9, by simp [sizeLine_eq, hrow.1]; omega, fun p3 H10 s10 h10 => ?_⟩
          refine ⟨by show 3 ≤ sizeLine; decide, fun p4 hp4 => ?_⟩
          have s11 : Same H10 (upd H10 p4 (.tup [.int i, .int k, .ref p3])) := same_upd _ hp4
          have n11 : NK (upd H10 p4 (.tup [.int i, .int k, .ref p3])) (letK i k row) (.ref p4) := by
            refine ⟨p4, _, rfl, upd_same, _, _, rfl, rfl, _, _, rfl, rfl, _, _, rfl, NK.row.mpr ⟨p3, rfl, ?_⟩, rfl⟩
            rw [s11 _ _ h10]; simp [List.map_take, List.map_drop]
          generalize upd H10 p4 (.tup [.int i, .int k, .ref p3]) = H11 at s11 n11
          have s12 : Same H6 H11 := (((sT1.trans s8).trans s9).trans s10).trans s11
          refine ⟨Nat.zero_le _, fun z hz => ?_⟩
          have s13 : Same H11 (upd H11 z (.lst [])) := same_upd _ hz
          simp only [tNil]
          have hkl : (gkeys (es ++ (eRow i row).take k)).length ≤ 1000 := Nat.le_trans (gkeys_len _) (by simp [eRow]; omega)
          refine dl_set dl (s12.trans s13) (s12.free hz) (NK.mono (KeepT.of_same s13) _ _ n11) (depth_let _ _ _) upd_same ((s6.trans s12).free hz) (by omega) (fun l9 H12 o' e12 e0 k12 fin => ?_)
          have hgl : (glist (es ++ (eRow i row).take k) (letK i k row)).length ≤ 1000 := Nat.le_trans (glist_len _ _) (by simp [eRow]; omega)
          have er1 : (eRow i row)[k]? = some (letK i k row, V.int v) := by
            have := (row3_get hrow hk3).1
            rw [ev] at this
            cases this
            simp [eRow, hk3]
          refine ⟨.inl ⟨rfl, _, SqL.of e12⟩, _, rfl, l9, _, _, rfl, rfl, e12, by rw [sizeLine_eq]; omega, o', _, _, rfl, ?_, ?_⟩
          · intro b' o1 e1
            have nb : b' ≠ l9 := fun z1 => by rw [z1, e0] at e1; cases e1
            rw [upd_ne nb]
            refine k12 _ _ (s13 _ _ (s12 _ _ (s6 _ _ e1))) ?_
            rw [List.mem_singleton]
            exact fun z1 => by rw [z1, dl.d0] at e1; cases e1
          · rw [List.take_add_one, er1, ← List.append_assoc]
            have := fin (.int v)
            rw [show (es ++ (eRow i row).take k ++ (some (letK i k row, V.int v)).toList) = (es ++ (eRow i row).take k) ++ [(letK i k row, V.int v)] from rfl, gkeys_snoc, glist_snoc]
            exact this
        · rintro σ H6 ⟨o, v6, v7, rfl, s6, dl⟩
          rw [List.take_of_length_le (by simp [eRow, hrow.1]), ← hes] at dl
          refine ⟨o, _, _, _, rfl, s6, ?_, ?_⟩
          · rw [List.take_add_one, er, List.flatMap_append, ← List.append_assoc]
            simpa using dl
          · rw [List.take_add_one, er, List.flatMap_append, ← List.append_assoc, hes, List.length_append]
            simp [eRow]; omega
      · rintro σ H4 ⟨o, v5, v6, v7, rfl, s4, dl, hel⟩
        rw [(List.take_of_length_le (by rw [hcs.lenK]; exact Nat.le_refl _) : l.take vs.length = l)] at dl hel
        have e : eAll L (i + 1) = eAll L i ++ l.flatMap (eRow i) := by simp [eAll, List.range_succ, elot]
        refine ⟨o, _, _, _, _, _, _, rfl, s4, ?_, ?_⟩
        · rw [e]; exact dl
        · rw [e]
          have : vs.length = l.length := hcs.lenK
          omega
    · rintro σ H2 ⟨o, v2, v3, v4, v5, v6, v7, rfl, s2, dl, hel⟩
      rw [hlu] at dl
      exact ⟨_, rfl, q _ _ o s2 dl⟩

/-- a split of the pair q stands at p, its refusals at d -/
def SplitAt (cS : Addr) (H : Hp) (p : Addr) (q : Nat) (d : Addr) : Prop := ∃ dx fs, H p = some (.ins cS dx fs) ∧ fs.lookup ("pair" : Str) = some (.int q) ∧ fs.lookup ("refusals" : Str) = some (.ref d) ∧ fs.lookup ("refuse" : Str) = none
abbrev s_Split___init__ : Stmt := inClass (top 35) 0
def sp_Split___init__ (cS : Addr) : Sp := fun vs H Q _ => ∃ (p dx : Addr) (n : Nat), vs = [.ref p, .int n] ∧ H p = some (.ins cS dx []) ∧ ∀ d H', H d = none → d ≠ p → Keep [p] H H' → SplitAt cS H' p n d → H' d = some (.dK []) → Q .non H'
theorem ok_Split___init__ {f : Addr} {fd : FuncData} (F : Fun K "__init__" "Split.__init__" s_Split___init__ f fd) (T : Txt K mg cT cR cS cA) : FnOk P w K mg base CX0 1 f fd ["self", "pair"] (sp_Split___init__ cS) := by
  have sc : FnScope ["self", "pair"] ["self", "pair"] (defScope s_Split___init__) := sc_by (by decide +kernel)
  refine F.ok sc (fun vs H Q E h => ?_) (fun cdv A outer s H vs Q E hr h => ?_)
  · obtain ⟨_, _, _, rfl, _⟩ := h; rfl
  · obtain ⟨p, dx, n, rfl, hp, q⟩ := h
    have hu := hu9 hr
    have hu65 := hu65 hr
    have hu1 := hu1_of hr
    refine ⟨_, (pss_cons (ps_fl T.clS T.nS_pair (pv 0) (pv 1) rfl)
      (pss_one (ps_fl T.clS T.nS_refusals (pv 0) pe_dnewK rfl))), ?_⟩
    refine ⟨_, rfl, _, rfl, p, dx, [], rfl, hp, by decide, fun d hd => ?_⟩
    have nd : d ≠ p := fun z => by rw [z, upd_same] at hd; cases hd
    have hd0 : H d = none := by rwa [upd_ne nd] at hd
    refine ⟨_, rfl, p, dx, putF "pair" (.int n) [], rfl, by rw [upd_ne nd.symm, upd_same], of_decide_eq_true (by kernel_rfl), ?_⟩
    refine q d _ hd0 nd (fun b o e z => ?_) ⟨dx, _, upd_same, by kernel_rfl, by kernel_rfl, by kernel_rfl⟩ (by rw [upd_ne nd, upd_same])
    have z' : b ≠ p := by simpa using z
    rw [upd_ne z', upd_ne (ne_of_none e hd0), upd_ne z']; exact e

abbrev s_Split_refuse : Stmt := inClass (top 35) 1
def sp_Split_refuse (cS : Addr) : Sp := fun vs H Q _ => ∃ (p d : Addr) (n : Nat) (v : Int) (x : V) (kvs : List (L2.Key × V)), vs = [.ref p, .int v, x] ∧ SplitAt cS H p n d ∧ H d = some (.dK kvs) ∧ kvs.length < 1000 ∧ Q .non (upd H d (.dK (putK kvs (.inl v) x)))
theorem ok_Split_refuse {f : Addr} {fd : FuncData} (F : Fun K "refuse" "Split.refuse" s_Split_refuse f fd) (T : Txt K mg cT cR cS cA) : FnOk P w K mg base CX0 1 f fd ["self", "integer", "refusal"] (sp_Split_refuse cS) := by
  have sc : FnScope ["self", "integer", "refusal"] ["self", "integer", "refusal"] (defScope s_Split_refuse) := sc_by (by decide +kernel)
  refine F.ok sc (fun vs H Q E h => ?_) (fun cdv A outer s H vs Q E hr h => ?_)
  · obtain ⟨_, _, _, _, _, _, rfl, _⟩ := h; rfl
  · obtain ⟨p, d, n, v, x, kvs, rfl, hs, hd, hl, q⟩ := h
    have hu := hu9 hr
    have hu65 := hu65 hr
    have hu1 := hu1_of hr
    refine ⟨_, (pss_one (ps_dput hu1 (pe_fl T.clS T.nS_refusals (pv 0)) (pv 1) (pv 2) rfl)), ?_⟩
    obtain ⟨dx, fs, e, h1, h2, h3⟩ := hs
    exact ⟨_, rfl, _, rfl, p, dx, fs, _, rfl, e, h2, _, rfl, d, _, rfl, DPut.k (k := .inl v) hd (by rw [sizeLine_eq]; omega), q⟩

end
end S1

/-! L8: the search, made -/
namespace S1
open PySem L2
/-! ### its data, plainly -/
def nP (L : Lots) (r : Nat) : Nat := (pairsL L r).length
def mR (L : Lots) (r : Nat) : Nat := (runsL L r).length
def ixOf (L : Lots) (r : Nat) (u : Run) : List Nat := (prsR L u).map fun k => (pairsL L r).idxOf k
def ixAt (L : Lots) (r i : Nat) : List Nat := ixOf L r ((runsL L r).getD i (0, []))
theorem rowK1_ix (L : Lots) (r : Nat) (u : Run) : rowK1 L (pairsL L r) u = .tup [.num u.1, patK u.2, .tup ((ixOf L r u).map fun (i : Nat) => .num (i : Int))] := by
  unfold rowK1 ixOf; rw [List.map_map]; rfl
theorem ixAt_of {L : Lots} {r i : Nat} {u : Run} (h : (runsL L r)[i]? = some u) : ixAt L r i = ixOf L r u := by
  unfold ixAt; rw [List.getD_eq_getElem?_getD, h]; rfl
theorem run_at {L : Lots} {r i : Nat} (h : i < mR L r) : ∃ u, (runsL L r)[i]? = some u ∧ u ∈ runsL L r := ⟨_, List.getElem?_eq_getElem h, List.getElem_mem h⟩
theorem prsR_sub {L : Lots} {r : Nat} {u : Run} (h : u ∈ runsL L r) : ∀ k ∈ prsR L u, k ∈ pairsL L r := fun k hk => ksOf_mem.mpr ⟨u, h, hk⟩
theorem prsR_len3 {L : Lots} {r : Nat} (hL : LotsOk L) {u : Run} (h : u ∈ runsL L r) : (prsR L u).length = 3 := by
  obtain ⟨h1, n, hn, e⟩ := runsL_at h
  obtain ⟨a, b⟩ := u
  simp only at e
  subst e
  exact prsR_len (insAt_ok hL h1).1
theorem ixOf_len {L : Lots} {r : Nat} (hL : LotsOk L) {u : Run} (h : u ∈ runsL L r) : (ixOf L r u).length = 3 := by unfold ixOf; rw [List.length_map, prsR_len3 hL h]
theorem ixOf_lt {L : Lots} {r : Nat} {u : Run} (h : u ∈ runsL L r) : ∀ q ∈ ixOf L r u, q < nP L r := by
  intro q hq
  simp only [ixOf, List.mem_map] at hq
  obtain ⟨k, hk, rfl⟩ := hq
  exact List.idxOf_lt_length_of_mem (prsR_sub h k hk)
theorem mR_le {L : Lots} {r : Nat} (hL : LotsOk L) (hr : r ≤ 1) : mR L r ≤ 108 := by
  have hn27 : 3 ^ (3 * r) ≤ 27 := by
    obtain rfl | rfl : r = 0 ∨ r = 1 := by omega
    · decide
    · decide
  unfold mR runsL
  rw [runsUp_len]
  have : L.length * 3 ^ (3 * r) ≤ 4 * 27 := Nat.mul_le_mul hL.few hn27
  omega
theorem nP_le {L : Lots} {r : Nat} (hL : LotsOk L) (hr : r ≤ 1) : nP L r ≤ 324 := by
  have h1 := ksOf_len (L := L) (runsL L r) fun u hu => prsR_len3 hL hu
  have h2 := mR_le hL hr
  unfold mR at h2
  unfold nP pairsL
  omega
theorem idxOf_get {ks : List NestedKey} {k : NestedKey} (h : k ∈ ks) : ks[ks.idxOf k]? = some k := by
  rw [List.getElem?_eq_getElem (List.idxOf_lt_length_of_mem h)]
  simp
theorem idxOf_inj {ks : List NestedKey} {k j : NestedKey} (hk : k ∈ ks) (hj : j ∈ ks) (e : ks.idxOf k = ks.idxOf j) : k = j := by
  have h1 := idxOf_get hk
  rw [e, idxOf_get hj] at h1
  exact (Option.some.inj h1).symm
theorem nodup_map_on {α β : Type} {f : α → β} : ∀ {l : List α}, l.Nodup → (∀ x ∈ l, ∀ y ∈ l, f x = f y → x = y) → (l.map f).Nodup := fun h k => nodup_map_of h k
theorem prsR_nodup (L : Lots) (u : Run) : (prsR L u).Nodup := by
  unfold prsR pairsOf
  rw [List.nodup_iff_pairwise_ne, List.pairwise_iff_getElem]
  intro i j hi hj hij
  simp only [List.getElem_mapIdx]
  intro e
  simp at e
  omega
theorem ixOf_nodup {L : Lots} {r : Nat} {u : Run} (h : u ∈ runsL L r) : (ixOf L r u).Nodup :=
  nodup_map_on (prsR_nodup L u) fun x hx y hy e => idxOf_inj (prsR_sub h x hx) (prsR_sub h y hy) e
/-- the runs of a pair -/
def placesUp (L : Lots) (r q i : Nat) : List Nat := (List.range i).filter fun j => decide (q ∈ ixAt L r j)
def placesL (L : Lots) (r q : Nat) : List Nat := placesUp L r q (mR L r)
def toldV : Option Int → V
  | none => .non
  | some v => .int v
def toldK : Option Int → NestedKey
  | none => .none
  | some v => .num v
theorem nodup_at {α : Type} {l : List α} (h : l.Nodup) {i j : Nat} {x : α} (hi : l[i]? = some x) (hj : l[j]? = some x) : i = j := by
  obtain ⟨h1, e1⟩ := List.getElem?_eq_some_iff.mp hi
  obtain ⟨h2, e2⟩ := List.getElem?_eq_some_iff.mp hj
  have p := List.pairwise_iff_getElem.mp (List.nodup_iff_pairwise_ne.mp h)
  rcases Nat.lt_trichotomy i j with c | c | c
  · exact absurd (e1.trans e2.symm) (p i j h1 h2 c)
  · exact c
  · exact absurd (e2.trans e1.symm) (p j i h2 h1 c)
theorem nodup_sub_len {α : Type} [DecidableEq α] : ∀ {l m : List α}, l.Nodup → (∀ x ∈ l, x ∈ m) → l.length ≤ m.length
  | [], _, _, _ => Nat.zero_le _
  | a :: l, m, h, s => by
    have h' := List.nodup_cons.mp h
    have ha := s a List.mem_cons_self
    have := nodup_sub_len (l := l) (m := m.erase a) h'.2 fun x hx => (List.mem_erase_of_ne (show x ≠ a from fun e => h'.1 (by rw [← e]; exact hx))).mpr (s x (List.mem_cons_of_mem _ hx))
    rw [List.length_erase_of_mem ha] at this
    have := List.length_pos_of_mem ha
    simp only [List.length_cons]; omega
theorem at_take {α : Type} {l : List α} {j : Nat} {x : α} (h : x ∈ l.take j) : ∃ i, i < j ∧ l[i]? = some x := by
  obtain ⟨i, e⟩ := List.mem_iff_getElem?.mp h
  rw [List.getElem?_take] at e
  by_cases c : i < j
  · rw [if_pos c] at e; exact ⟨i, c, e⟩
  · rw [if_neg c] at e; cases e
theorem NKs.nats {H : Hp} {ns : List Nat} {vs : List V} (h : NKs H (ns.map fun (i : Nat) => .num (i : Int)) vs) : vs = ns.map fun (i : Nat) => V.int (i : Int) := by
  have h' : NKs H ((ns.map fun (i : Nat) => (i : Int)).map .num) vs := by rw [List.map_map]; exact h
  rw [NKs.ints.mp h', List.map_map]; rfl
theorem placesUp_succ (L : Lots) (r q i : Nat) : placesUp L r q (i + 1) = placesUp L r q i ++ if q ∈ ixAt L r i then [i] else [] := by
  unfold placesUp
  rw [List.range_succ, List.filter_append]
  congr 1
  by_cases h : q ∈ ixAt L r i <;> simp [h]
theorem placesUp_len (L : Lots) (r q i : Nat) : (placesUp L r q i).length ≤ i := by
  unfold placesUp; exact Nat.le_trans (List.length_filter_le _ _) (by simp)
/-- where its parts stand -/
structure Ads where
  sp : Addr
  rp : Addr
  tp : Addr
  ip : Addr
  dl : Addr
  tl : Addr
  nl : Addr
  dd : Addr
  ab : Addr
  lf : Addr
  ap : Addr
  bds : List Addr
  pls : List Addr
  iv : List Addr
def Ads.m4 (D : Ads) : List Addr := [D.tl, D.nl, D.dd, D.lf]
def askF (D : Ads) : List (Str × V) := [("runs", .ref D.rp), ("integers", .ref D.ip), ("lets", .ref D.dl), ("told", .ref D.tl), ("near", .ref D.nl), ("dead", .ref D.dd), ("bars", .ref D.ab), ("left", .ref D.lf), ("places", .ref D.ap)]
/-- what never changes -/
structure Asked (P : Program) (w : World) (cT cR cA : Addr) (F : Hp) (L : Lots) (r : Nat) (D : Ads) : Prop where
  ok : LotsOk L
  r1 : r ≤ 1
  ins : ∃ dx, F D.sp = some (.ins cA dx (askF D))
  runs : RunsAt cT cR F D.rp D.tp L r
  intz : F D.ip = some (.lst (D.iv.map V.ref))
  ints3 : D.iv.length = 3
  intv : ∀ m b, D.iv[m]? = some b → F b = some (.lst ((intsL L m).map V.int))
  lets : ∃ H0 o, DL P w H0 F D.dl (gkeys (eAll L L.length)) (glist (eAll L L.length)) o
  bars : F D.ab = some (.lst (D.bds.map V.ref))
  bdn : D.bds.length = nP L r
  bdd : D.bds.Nodup
  plc : F D.ap = some (.lst (D.pls.map V.ref))
  pln : D.pls.length = nP L r
  plv : ∀ q b, D.pls[q]? = some b → F b = some (.lst ((placesL L r q).map fun (i : Nat) => V.int (i : Int)))
  new4 : ∀ b ∈ D.m4, F b = none
  newb : ∀ b ∈ D.bds, F b = none
  nd4 : D.m4.Nodup
/-- what changes -/
structure AskSt (F : Hp) (L : Lots) (r : Nat) (D : Ads) (Av : List Addr) (H : Hp) (told : List (Option Int)) (B : Nat → Int → List Nat) (left : List Int) : Prop where
  same : Same F H
  told_ : H D.tl = some (.lst (told.map toldV))
  tln : told.length = nP L r
  near : ∃ ns : List Int, H D.nl = some (.lst (ns.map V.int)) ∧ ns.length = nP L r
  dead : ∃ ns : List Int, H D.dd = some (.lst (ns.map V.int)) ∧ ns.length = nP L r
  left_ : H D.lf = some (.lst (left.map V.int))
  lfn : left.length = mR L r
  bars : ∃ (ks : Nat → List Int) (o : Nat → Int → Addr), (∀ q b, D.bds[q]? = some b → H b = some (.dK ((ks q).map fun v => (.inl v, .ref (o q v))))) ∧ (∀ q, (ks q).Nodup ∧ ∀ v ∈ ks q, 0 ≤ v ∧ v ≤ 2) ∧
    (∀ q, q < nP L r → ∀ v ∈ ks q, H (o q v) = some (.lst ((B q v).map fun (i : Nat) => V.int (i : Int))) ∧ F (o q v) = none ∧ o q v ∉ D.m4 ∧ o q v ∉ Av) ∧ (∀ q v, v ∉ ks q → B q v = []) ∧
    ∀ q q' v v', q < nP L r → q' < nP L r → v ∈ ks q → v' ∈ ks q' → o q v = o q' v' → q = q' ∧ v = v'
  av : ∀ x ∈ Av, ∃ o, H x = some o
section
variable {P : Program} {w : World} {K : PySem.W.Frag} {mg : Str → Option Value} {base : Heap} {cT cR cS cA : Addr}
theorem AskSt.mono {F : Hp} {L : Lots} {r : Nat} {D : Ads} {Av : List Addr} {H H' : Hp} {told : List (Option Int)} {B : Nat → Int → List Nat} {left : List Int} (S : AskSt F L r D Av H told B left) (s : Same H H') : AskSt F L r D Av H' told B left :=
  ⟨S.same.trans s, s _ _ S.told_, S.tln, let ⟨a, b, c⟩ := S.near; ⟨a, s _ _ b, c⟩, let ⟨a, b, c⟩ := S.dead; ⟨a, s _ _ b, c⟩, s _ _ S.left_, S.lfn,
    let ⟨ks, o, h1, h2, h3, h4, h5⟩ := S.bars; ⟨ks, o, fun q b e => s _ _ (h1 q b e), h2, fun q hq v hv => ⟨s _ _ (h3 q hq v hv).1, (h3 q hq v hv).2⟩, h4, h5⟩, fun x hx => let ⟨o, e⟩ := S.av x hx; ⟨o, s _ _ e⟩⟩
theorem lc_const {K : PySem.W.Frag} {lp : Addr} {pvs : List V} {v : V} {i : Nat} {σ : L2.St} {vs : List Nat} {H1 : Hp} {D : Addr} {Qd : Hp → Prop} (e : H1 lp = some (.lst pvs)) (hn : pvs.length ≤ 1000000) (hD : H1 D = none) (hw : ∀ x, wipe ((wipe σ vs).set i (some x)) vs = wipe σ vs)
    (hd : ∀ H, Same H1 H → H D = some (.lst (List.replicate pvs.length v)) → Qd H) :
    ∃ W : Nat → Nat → Hp → Prop, (∃ m, W 0 m (upd H1 D (.lst []))) ∧ ∀ j m H, W j m H →
      ((Itl K lp).stop j H ∧ Qd H) ∨ ((Itl K lp).go j H ∧ ∃ Nx : Hp → Prop, (∀ H', Nx H' → ∃ m', m' < m ∧ W (j + 1) m' H') ∧ ∀ x H', (Itl K lp).yld j H x H' → gName i x (wipe σ vs) H' fun σ2 H2 => wipe σ2 vs = wipe σ vs ∧ tYes σ2 H2 fun b H3 =>
        if b = true then tC v σ2 H3 fun y H4 => ∃ acc, H4 D = some (.lst acc) ∧ acc.length < sizeLine ∧ Nx (upd H4 D (.lst (acc ++ [y]))) else Nx H3) :=
  lc_map walkL [] (by simp) hn hD (fun H' k => k _ _ e (by simp)) (fun i H acc => acc = List.replicate i v) rfl (fun j x H H' acc Kf hi k hacc hl hR hY hK => ⟨hw x, by obtain ⟨rfl, _⟩ := hY; exact hK _ _ (Keep.refl _ _) (by rw [hR, List.replicate_succ'])⟩) (fun H acc k hacc hl hR => hd H (Keep.same k) (by rw [hacc, hR]))
theorem lc_fresh {K : PySem.W.Frag} {lp : Addr} {pvs : List V} {o : HO} {te : TE} {i : Nat} {σ : L2.St} {vs : List Nat} {H1 : Hp} {D : Addr} {Qd : Hp → Prop} (e : H1 lp = some (.lst pvs)) (hn : pvs.length ≤ 1000000) (hD : H1 D = none) (hw : ∀ x, wipe ((wipe σ vs).set i (some x)) vs = wipe σ vs) (hte : ∀ σ H Q, (∀ z, H z = none → Q (.ref z) (upd H z o)) → te σ H Q)
    (hd : ∀ (H : Hp) (bs : List Addr), Same H1 H → H D = some (.lst (bs.map V.ref)) → bs.length = pvs.length → bs.Nodup → (∀ b ∈ bs, H1 b = none ∧ b ≠ D ∧ H b = some o) → Qd H) :
    ∃ W : Nat → Nat → Hp → Prop, (∃ m, W 0 m (upd H1 D (.lst []))) ∧ ∀ j m H, W j m H →
      ((Itl K lp).stop j H ∧ Qd H) ∨ ((Itl K lp).go j H ∧ ∃ Nx : Hp → Prop, (∀ H', Nx H' → ∃ m', m' < m ∧ W (j + 1) m' H') ∧ ∀ x H', (Itl K lp).yld j H x H' → gName i x (wipe σ vs) H' fun σ2 H2 => wipe σ2 vs = wipe σ vs ∧ tYes σ2 H2 fun b H3 =>
        if b = true then te σ2 H3 fun y H4 => ∃ acc, H4 D = some (.lst acc) ∧ acc.length < sizeLine ∧ Nx (upd H4 D (.lst (acc ++ [y]))) else Nx H3) := by
  refine lc_map walkL [] (by simp) hn hD (fun H' k => k _ _ e (by simp)) (fun i H acc => ∃ bs : List Addr, acc = bs.map V.ref ∧ bs.length = i ∧ bs.Nodup ∧ ∀ b ∈ bs, H1 b = none ∧ b ≠ D ∧ H b = some o) ⟨[], rfl, rfl, List.nodup_nil, by simp⟩ (fun j x H H' acc Kf hi k hacc hl hR hY hK => ⟨hw x, ?_⟩) (fun H acc k hacc hl hR => ?_)
  · obtain ⟨rfl, _⟩ := hY
    obtain ⟨bs, rfl, hbl, hbd, hb⟩ := hR
    refine hte _ _ _ fun z hz => hK _ _ (Keep.of_same (same_upd _ hz)) ⟨bs ++ [z], by simp, by simp [hbl], ?_, ?_⟩
    · refine List.nodup_append.mpr ⟨hbd, by simp, fun i hi j hj => ?_⟩
      rw [List.mem_singleton.mp hj]
      exact fun q => by have := (hb i hi).2.2; rw [q, hz] at this; cases this
    · intro b hbm
      have nzD : z ≠ D := fun q => by rw [q, hacc] at hz; cases hz
      rcases List.mem_append.mp hbm with hm | hm
      · obtain ⟨h1, h2, h3⟩ := hb b hm
        exact ⟨h1, h2, by rw [upd_ne h2, upd_ne (ne_of_none h3 hz)]; exact h3⟩
      · rw [List.mem_singleton.mp hm]
        exact ⟨(Keep.same k).free hz, nzD, by rw [upd_ne nzD, upd_same]⟩
  · obtain ⟨bs, rfl, hbl, hbd, hb⟩ := hR
    exact hd H bs (Keep.same k) hacc hbl hbd hb
theorem step_fl {C : Addr} {H2 H3 H4 : Hp} {p D dx : Addr} {fs : List (Str × V)} {f : Str} {o : HO} (p2 : H2 p = some (.ins C dx fs)) (s : Same H2 H3) (hD : H2 D = none) (e3 : H3 D = some o) (e : upd H3 p (.ins C dx (putF f (.ref D) fs)) = H4) :
    H4 p = some (.ins C dx (putF f (.ref D) fs)) ∧ H4 D = some o ∧ Keep [p] H2 H4 ∧ D ≠ p := by
  have n : D ≠ p := fun z => by rw [z, p2] at hD; cases hD
  refine ⟨by rw [← e, upd_same], by rw [← e, upd_ne n]; exact e3, fun b u h nb => ?_, n⟩
  rw [← e, upd_ne (by simpa using nb)]; exact s _ _ h
abbrev s_Asking___init__ : Stmt := inClass (top 36) 0
def sp_Asking___init__ (P : Program) (w : World) (cT cR cA : Addr) : Sp := fun vs H Q _ => ∃ (p dx rp t : Addr) (L : Lots) (r : Nat), vs = [.ref p, .ref rp] ∧ H p = some (.ins cA dx []) ∧ RunsAt cT cR H rp t L r ∧ LotsOk L ∧ r ≤ 1 ∧
  ∀ H' F D, D.sp = p → D.rp = rp → D.tp = t → Keep [p] H F → Asked P w cT cR cA F L r D → AskSt F L r D [] H' (List.replicate (nP L r) none) (fun _ _ => []) (List.replicate (mR L r) 3) → Q .non H'
theorem ok_Asking___init__ {f : Addr} {fd : FuncData} (F : Fun K "__init__" "Asking.__init__" s_Asking___init__ f fd) (T : Txt K mg cT cR cS cA) (G_integers_of : Fn P w K mg base 1 "integers_of" ["task", "me"] (sp_integers_of cT)) (G_lets_of : Fn P w K mg base 1 "lets_of" ["task"] (sp_lets_of P w cT)) : FnOk P w K mg base CX0 2 f fd ["self", "runs"] (sp_Asking___init__ P w cT cR cA) := by
  have sc : FnScope ["self", "runs", "pair", "row", "number", "me"] ["self", "runs"] (defScope s_Asking___init__) := sc_by (by decide +kernel)
  refine F.ok sc (fun vs H Q E h => ?_) (fun cdv A outer s H vs Q E hr h => ?_)
  · obtain ⟨_, _, _, _, _, _, rfl, _⟩ := h; rfl
  · obtain ⟨p, dx, rp, t, L, r, rfl, hp, hR, hL, hr1, q⟩ := h
    have hu := hu9 hr
    have hu65 := hu65 hr
    have hu1 := hu1_of hr
    refine ⟨_, (pss_cons (ps_fl T.clA T.nA_runs (pv 0) (pv 1) rfl)
      (pss_cons (ps_fl T.clA T.nA_integers (pv 0) (pe_lc (own := [("me", 5)]) rfl sc.nd (pi_range1 (by rfl) T.range (pa_cons (pe_fl T.clT T.nT_many (pe_fl T.clR T.nR_task (pv 1))) pa_nil)) (blkOk_by (by kernel_rfl)) (fun _ _ _ _ _ => (pg_name (i := 5) sc.nd rfl (Or.inl rfl) (Or.inr rfl))) (fun _ _ _ _ _ => pts_nil) (fun _ _ _ _ _ => (pe_fn G_integers_of (hr.mono (by decide)) rfl (pa_cons (pe_fl T.clR T.nR_task (pv 1)) (pa_cons (pv 5) pa_nil))))) rfl)
      (pss_cons (ps_fl T.clA T.nA_lets (pv 0) (pe_fn G_lets_of (hr.mono (by decide)) rfl (pa_cons (pe_fl T.clR T.nR_task (pv 1)) pa_nil)) rfl)
      (pss_cons (ps_fl T.clA T.nA_told (pv 0) (pe_lc (own := [("pair", 2)]) rfl sc.nd (pi_list (pe_fl T.clR T.nR_pairs (pv 1))) (blkOk_by (by kernel_rfl)) (fun _ _ _ _ _ => (pg_name (i := 2) sc.nd rfl (Or.inl rfl) (Or.inr rfl))) (fun _ _ _ _ _ => pts_nil) (fun _ _ _ _ _ => pe_non)) rfl)
      (pss_cons (ps_fl T.clA T.nA_near (pv 0) (pe_lc (own := [("pair", 2)]) rfl sc.nd (pi_list (pe_fl T.clR T.nR_pairs (pv 1))) (blkOk_by (by kernel_rfl)) (fun _ _ _ _ _ => (pg_name (i := 2) sc.nd rfl (Or.inl rfl) (Or.inr rfl))) (fun _ _ _ _ _ => pts_nil) (fun _ _ _ _ _ => pe_int)) rfl)
      (pss_cons (ps_fl T.clA T.nA_dead (pv 0) (pe_lc (own := [("pair", 2)]) rfl sc.nd (pi_list (pe_fl T.clR T.nR_pairs (pv 1))) (blkOk_by (by kernel_rfl)) (fun _ _ _ _ _ => (pg_name (i := 2) sc.nd rfl (Or.inl rfl) (Or.inr rfl))) (fun _ _ _ _ _ => pts_nil) (fun _ _ _ _ _ => pe_int)) rfl)
      (pss_cons (ps_fl T.clA T.nA_bars (pv 0) (pe_lc (own := [("pair", 2)]) rfl sc.nd (pi_list (pe_fl T.clR T.nR_pairs (pv 1))) (blkOk_by (by kernel_rfl)) (fun _ _ _ _ _ => (pg_name (i := 2) sc.nd rfl (Or.inl rfl) (Or.inr rfl))) (fun _ _ _ _ _ => pts_nil) (fun _ _ _ _ _ => pe_dnewK)) rfl)
      (pss_cons (ps_fl T.clA T.nA_left (pv 0) (pe_lc (own := [("row", 3)]) rfl sc.nd (pi_list (pe_fl T.clR T.nR_rows (pv 1))) (blkOk_by (by kernel_rfl)) (fun _ _ _ _ _ => (pg_name (i := 3) sc.nd rfl (Or.inl rfl) (Or.inr rfl))) (fun _ _ _ _ _ => pts_nil) (fun _ _ _ _ _ => (pe_fl T.clT T.nT_many (pe_fl T.clR T.nR_task (pv 1))))) rfl)
      (pss_cons (ps_fl T.clA T.nA_places (pv 0) (pe_lc (own := [("pair", 2)]) rfl sc.nd (pi_list (pe_fl T.clR T.nR_pairs (pv 1))) (blkOk_by (by kernel_rfl)) (fun _ _ _ _ _ => (pg_name (i := 2) sc.nd rfl (Or.inl rfl) (Or.inr rfl))) (fun _ _ _ _ _ => pts_nil) (fun _ _ _ _ _ => (pe_lst pa_nil))) rfl)
      (pss_one (ps_for PassesOwn.never rfl (pi_enum (by rfl) T.enumerate (pa_cons (pe_fl T.clR T.nR_rows (pv 1)) pa_nil)) (pg_tu 2 rfl (pgs_cons (pg_name (i := 4) sc.nd rfl (Or.inl rfl) (Or.inl rfl)) (pgs_cons (pg_name (i := 3) sc.nd rfl (Or.inl rfl) (Or.inl rfl)) pgs_nil)))
        (pss_one (ps_for PassesOwn.never rfl (pi_tup (pe_ix ixt (pv 3) pe_int (fun _ _ => rfl))) (pg_name (i := 2) sc.nd rfl (Or.inl rfl) (Or.inl rfl))
            (pss_one (ps_expr (pe_bm PySem.F.plainAttrs_list PySem.F.slot_list_append PySem.F.type_list_append mt_append (pe_ix ixl (pe_fl T.clA T.nA_places (pv 0)) (pv 2) (fun _ _ => rfl)) (pa_cons (pv 4) pa_nil))))))))))))))))), ?_⟩
    obtain ⟨dxR, fR, lp, lr, a, pvs, rs, hRi, hRt, hRp, hRr, hT, hLo, hlp, npv, hlr, nrs⟩ := id hR
    obtain ⟨dxT, fT, htT, hfm, hfl⟩ := id hT
    have nrp : rp ≠ p := fun z => by rw [z, hp] at hRi; cases hRi; cases hRt
    have ntp : t ≠ p := fun z => by rw [z, hp] at htT; cases htT; cases hfm
    have nlp : lp ≠ p := fun z => by rw [z, hp] at hlp; cases hlp
    have nlr : lr ≠ p := fun z => by rw [z, hp] at hlr; cases hlr
    have kT : ∀ {H' : Hp}, Keep [p] H H' → KeepT H H' := fun k => k.keepT fun b hb ys e => by rw [List.mem_singleton.mp hb, hp] at e; cases e
    refine ⟨_, rfl, _, rfl, p, dx, [], rfl, hp, by decide, ?_⟩
    generalize hH1 : upd H p _ = H1
    have p1 : H1 p = some (.ins cA dx (putF "runs" (.ref rp) [])) := by rw [← hH1, upd_same]
    have k1 : Keep [p] H H1 := fun b o e n => by rw [← hH1, upd_ne (by simpa using n)]; exact e
    clear hH1
    refine ⟨_, rfl, rp, dxR, fR, _, rfl, k1 _ _ hRi (by simpa using nrp), hRt, t, dxT, fT, _, rfl, k1 _ _ htT (by simpa using ntp), hfm, 3, rfl, by decide, by decide, fun ip hip => ?_⟩
    refine lc_map (walkR (n := 3)) [] (by simp) (by decide) hip (fun _ _ => trivial) (fun i H' acc => ∃ iv : List Addr, acc = iv.map V.ref ∧ iv.length = i ∧ ∀ m b, iv[m]? = some b → b ≠ ip ∧ H' b = some (.lst ((intsL L m).map V.int))) ⟨[], rfl, rfl, by simp⟩ (fun i x H3 H2 acc Kf hi k2 hacc hl hR2 hY hK => ?_) (fun H2 acc k2 hacc hl hR2 => ?_)
    · obtain ⟨rfl, rfl⟩ := hY
      obtain ⟨iv, rfl, hil, hiv⟩ := hR2
      have s2 := Keep.same k2
      have k02 : Keep [p] H H2 := fun b o e n => s2 _ _ (k1 _ _ e n)
      refine ⟨rfl, _, rfl, rp, dxR, fR, _, rfl, k02 _ _ hRi (by simpa using nrp), hRt, _, rfl, t, a, L, i, rfl, hi, ⟨dxT, fT, k02 _ _ htT (by simpa using ntp), hfm, hfl⟩, NK.mono (kT k02) _ _ hLo, hL, fun b H4 s4 z4 e4 => hK _ _ (Keep.of_same s4) ⟨iv ++ [b], by simp, by simp [hil], fun m c hm => ?_⟩⟩
      have nb : b ≠ ip := fun z => by rw [z, hacc] at z4; cases z4
      rcases Nat.lt_or_ge m i with h | h
      · rw [List.getElem?_append_left (by omega)] at hm
        obtain ⟨h1, h2⟩ := hiv m c hm
        exact ⟨h1, by rw [upd_ne h1]; exact s4 _ _ h2⟩
      · rw [List.getElem?_append_right (by omega)] at hm
        obtain ⟨h1, h2⟩ := List.getElem?_eq_some_iff.mp hm
        simp at h1 h2
        obtain rfl : m = i := by omega
        exact ⟨h2 ▸ nb, by rw [upd_ne (h2 ▸ nb), ← h2]; exact e4⟩
    · obtain ⟨iv, rfl, hil, hiv⟩ := hR2
      have s2 := Keep.same k2
      refine ⟨_, rfl, p, dx, _, rfl, s2 _ _ p1, of_decide_eq_true (by kernel_rfl), ?_⟩
      generalize hG2 : upd H2 p _ = G2
      obtain ⟨p2, e2, kk2, nip⟩ := step_fl p1 s2 hip hacc hG2
      have iv2 : ∀ m b, iv[m]? = some b → G2 b = some (.lst ((intsL L m).map V.int)) := fun m b h => by
        obtain ⟨_, h2⟩ := hiv m b h
        rw [← hG2, upd_ne (fun z => by rw [z, s2 _ _ p1] at h2; cases h2)]; exact h2
      clear hG2
      have k02 : Keep [p] H G2 := k1.trans kk2
      have hTg : ∀ {G : Hp}, Keep [p] H G → TaskAt cT G t a := fun k => ⟨dxT, fT, k _ _ htT (by simpa using ntp), hfm, hfl⟩
      refine ⟨_, rfl, rp, dxR, fR, _, rfl, k02 _ _ hRi (by simpa using nrp), hRt, t, a, L, rfl, hTg k02, NK.mono (kT k02) _ _ hLo, hL, fun dl H3 ol s3 DLd => ?_⟩
      refine ⟨_, rfl, p, dx, _, rfl, s3 _ _ p2, of_decide_eq_true (by kernel_rfl), ?_⟩
      generalize hG3 : upd H3 p _ = G3
      obtain ⟨fd3, hf3⟩ := DLd.nd.at
      obtain ⟨p3, e3, kk3, ndl⟩ := step_fl p2 s3 DLd.d0 hf3 hG3
      have hpH3 := s3 _ _ p2
      have dl3 : DL P w G2 G3 dl (gkeys (eAll L L.length)) (glist (eAll L L.length)) ol := by
        have kt : KeepT H3 G3 := by rw [← hG3]; exact keepT_upd fun xs e => by rw [hpH3] at e; cases e
        exact ⟨DLd.nd.mono kt (fun o e => by rw [← hG3, upd_ne ndl]; exact e), DLd.d0, DLd.nod, DLd.l0, fun k hk => by rw [← hG3, upd_ne (fun z => by have := DLd.at_ k hk; rw [z, hpH3] at this; cases this)]; exact DLd.at_ k hk, DLd.inj, DLd.out⟩
      clear hG3
      have k03 := k02.trans kk3
      have lp3 := k03 _ _ hlp (by simpa using nlp)
      have npl : pvs.length = nP L r := npv.len
      have nrl : rs.length = mR L r := by have := nrs.len; simpa [mR] using this
      have hnP := nP_le hL hr1
      have hmR := mR_le hL hr1
      refine ⟨_, rfl, rp, dxR, fR, _, rfl, k03 _ _ hRi (by simpa using nrp), hRp, lp, rfl, ⟨_, SqL.of lp3⟩, fun tl htl => lc_const lp3 (by omega) htl (fun _ => rfl) (fun H4 s4 e4 => ?_)⟩
      refine ⟨_, rfl, p, dx, _, rfl, s4 _ _ p3, of_decide_eq_true (by kernel_rfl), ?_⟩
      generalize hG4 : upd H4 p _ = G4
      obtain ⟨p4, f4, kk4, ntl⟩ := step_fl p3 s4 htl e4 hG4
      clear hG4 s4 e4
      have k04 := k03.trans kk4
      have lp4 := k04 _ _ hlp (by simpa using nlp)
      refine ⟨_, rfl, rp, dxR, fR, _, rfl, k04 _ _ hRi (by simpa using nrp), hRp, lp, rfl, ⟨_, SqL.of lp4⟩, fun nl hnl => lc_const lp4 (by omega) hnl (fun _ => rfl) (fun H4 s4 e4 => ?_)⟩
      refine ⟨_, rfl, p, dx, _, rfl, s4 _ _ p4, of_decide_eq_true (by kernel_rfl), ?_⟩
      generalize hG5 : upd H4 p _ = G5
      obtain ⟨p5, f5, kk5, nnl⟩ := step_fl p4 s4 hnl e4 hG5
      clear hG5 s4 e4
      have k05 := k04.trans kk5
      have lp5 := k05 _ _ hlp (by simpa using nlp)
      refine ⟨_, rfl, rp, dxR, fR, _, rfl, k05 _ _ hRi (by simpa using nrp), hRp, lp, rfl, ⟨_, SqL.of lp5⟩, fun dd hdd => lc_const lp5 (by omega) hdd (fun _ => rfl) (fun H4 s4 e4 => ?_)⟩
      refine ⟨_, rfl, p, dx, _, rfl, s4 _ _ p5, of_decide_eq_true (by kernel_rfl), ?_⟩
      generalize hG6 : upd H4 p _ = G6
      obtain ⟨p6, f6, kk6, ndd⟩ := step_fl p5 s4 hdd e4 hG6
      clear hG6 s4 e4
      have k06 := k05.trans kk6
      have lp6 := k06 _ _ hlp (by simpa using nlp)
      refine ⟨_, rfl, rp, dxR, fR, _, rfl, k06 _ _ hRi (by simpa using nrp), hRp, lp, rfl, ⟨_, SqL.of lp6⟩, fun ab hab => lc_fresh lp6 (by omega) hab (fun _ => rfl) (fun _ _ _ h => h) (fun H4 bds s4 e4 hbl hbd hbb => ?_)⟩
      refine ⟨_, rfl, p, dx, _, rfl, s4 _ _ p6, of_decide_eq_true (by kernel_rfl), ?_⟩
      generalize hG7 : upd H4 p _ = G7
      obtain ⟨p7, e7, kk7, nab⟩ := step_fl p6 s4 hab e4 hG7
      have bd7 : ∀ b ∈ bds, G6 b = none ∧ G7 b = some (.dK []) := fun b hb => by
        obtain ⟨h1, h2, h3⟩ := hbb b hb
        exact ⟨h1, by rw [← hG7, upd_ne (fun z => by rw [z, s4 _ _ p6] at h3; cases h3)]; exact h3⟩
      clear hG7 s4 e4
      have k07 := k06.trans kk7
      have lr7 := k07 _ _ hlr (by simpa using nlr)
      refine ⟨_, rfl, rp, dxR, fR, _, rfl, k07 _ _ hRi (by simpa using nrp), hRr, lr, rfl, ⟨_, SqL.of lr7⟩, fun lf hlf => lc_map walkL [] (by simp) (by omega) hlf (fun H' k => k _ _ lr7 (by simp)) (fun i H' acc => acc = List.replicate i (.int 3)) rfl (fun i x H4' H4 acc Kf hi k4 hacc4 hl4 hR4 hY hK => ?_) (fun H4 acc k4 hacc4 hl4 hR4 => ?_)⟩
      · obtain ⟨rfl, _⟩ := hY
        have k04 : Keep [p] H H4 := fun b o e n => Keep.same k4 _ _ (k07 _ _ e n)
        exact ⟨rfl, _, rfl, rp, dxR, fR, _, rfl, k04 _ _ hRi (by simpa using nrp), hRt, t, dxT, fT, _, rfl, k04 _ _ htT (by simpa using ntp), hfm, hK _ _ (Keep.refl _ _) (by rw [hR4, List.replicate_succ'])⟩
      have s4 := Keep.same k4
      refine ⟨_, rfl, p, dx, _, rfl, s4 _ _ p7, of_decide_eq_true (by kernel_rfl), ?_⟩
      generalize hG8 : upd H4 p _ = G8
      obtain ⟨p8, e8, kk8, nlf⟩ := step_fl p7 s4 hlf hacc4 hG8
      rw [hR4] at e8
      clear hG8 s4 k4 hacc4 hl4 hR4
      have k08 := k07.trans kk8
      have lp8 := k08 _ _ hlp (by simpa using nlp)
      refine ⟨_, rfl, rp, dxR, fR, _, rfl, k08 _ _ hRi (by simpa using nrp), hRp, lp, rfl, ⟨_, SqL.of lp8⟩, fun ap hap => lc_fresh (o := .lst []) lp8 (by omega) hap (fun _ => rfl) (fun _ _ _ h => ⟨Nat.zero_le _, fun z hz => h z hz⟩) (fun H4 pls s4 e4 hpl hpd hpb => ?_)⟩
      refine ⟨_, rfl, p, dx, _, rfl, s4 _ _ p8, of_decide_eq_true (by kernel_rfl), ?_⟩
      generalize hG9 : upd H4 p _ = G9
      obtain ⟨p9, e9, kk9, nap⟩ := step_fl p8 s4 hap e4 hG9
      have pl9 : ∀ b ∈ pls, G8 b = none ∧ b ≠ ap ∧ G9 b = some (.lst []) := fun b hb => by
        obtain ⟨h1, h2, h3⟩ := hpb b hb
        exact ⟨h1, h2, by rw [← hG9, upd_ne (fun z => by rw [z, s4 _ _ p8] at h3; cases h3)]; exact h3⟩
      clear hG9 s4 e4
      have k09 := k08.trans kk9
      have lr9 := k09 _ _ hlr (by simpa using nlr)
      have z9 : ∀ b ∈ pls, ∀ o, G8 b ≠ some o := fun b hb o e => by rw [(pl9 b hb).1] at e; cases e
      refine ⟨_, rfl, rp, dxR, fR, _, rfl, k09 _ _ hRi (by simpa using nrp), hRr, lr, rs, rfl, SqL.of lr9, for_it walkE (fun i σ H' => ∃ v2 v3 v4, σ = [some (.ref p), some (.ref rp), v2, v3, v4, none] ∧ Keep pls G9 H' ∧ ∀ q b, pls[q]? = some b → H' b = some (.lst ((placesUp L r q i).map fun (i : Nat) => V.int (i : Int)))) ⟨none, none, none, rfl, Keep.refl _ _, fun q b e => (pl9 b (List.mem_of_getElem? e)).2.2⟩ (fun i σ H' _ ⟨_, _, _, _, k, _⟩ => k _ _ lr9 fun hm => z9 _ hm _ (k08 _ _ hlr (by simpa using nlr))) ?_ ?_⟩
      · rintro i x σ H5 H6 hi ⟨v2, v3, v4, rfl, k5, pl5⟩ ⟨T0, y, rfl, hT, rfl, hy⟩
        obtain ⟨u, eu, nu⟩ := nrs.atK hy
        have hu := List.mem_of_getElem? eu
        have eix := ixAt_of eu
        rw [rowK1_ix] at nu
        obtain ⟨b, ws, rfl, hb, hws⟩ := id nu
        obtain ⟨x0, _, rfl, h0, x1, _, rfl, h1, x2, _, rfl, h2, rfl⟩ := id hws
        obtain ⟨c, cs, rfl, hc, hcs⟩ := id h2
        have ecs := NKs.nats hcs
        subst ecs
        have sT : Same H5 (upd H5 T0 (.tup [.int i, .ref b])) := same_upd _ hT
        refine ⟨T0, _, rfl, upd_same, rfl, _, _, rfl, _, _, rfl, rfl, ?_⟩
        generalize upd H5 T0 (.tup [.int i, .ref b]) = H7 at sT
        have k7 : Keep pls G9 H7 := fun b o e n => sT _ _ (k5 b o e n)
        have kt : ∀ {H'}, Keep pls G9 H' → KeepT H H' := fun k b xs e => k _ _ (kT k09 _ _ e) fun hm => z9 b hm _ (kT k08 _ _ e)
        have hmRi : i < mR L r := by omega
        refine ⟨_, rfl, b, _, 2, _, rfl, rfl, kt k7 _ _ hb, rfl, c, rfl, ⟨_, SqT.of (kt k7 _ _ hc)⟩, for_it walkT (fun j σ H' => ∃ v2, σ = [some (.ref p), some (.ref rp), v2, some (.ref b), some (.int i), none] ∧ Keep pls G9 H' ∧ ∀ q b, pls[q]? = some b → H' b = some (.lst ((placesUp L r q i ++ if q ∈ (ixAt L r i).take j then [i] else []).map fun (i : Nat) => V.int (i : Int)))) ⟨v2, rfl, k7, fun q b e => by simpa using sT _ _ (pl5 q b e)⟩ (fun i σ H' _ ⟨_, _, k, _⟩ => kt k _ _ hc) ?_ ?_⟩
        · rintro j x σ H8' H8 hj ⟨v2, rfl, k8, pl8⟩ ⟨rfl, hx⟩
          rw [List.getElem?_map] at hx
          obtain ⟨q1, eq1, rfl⟩ := Option.map_eq_some_iff.mp hx
          have hq1 := ixOf_lt hu q1 (List.mem_of_getElem? eq1)
          have hql : q1 < pls.length := by omega
          have ebq := List.getElem?_eq_getElem hql
          generalize pls[q1] = bq at ebq
          have lbq := pl8 q1 bq ebq
          have hnin : q1 ∉ (ixAt L r i).take j := by
            rw [eix]
            intro hm
            obtain ⟨j', hj', e⟩ := at_take hm
            have := nodup_at (ixOf_nodup hu) e eq1
            omega
          rw [if_neg hnin, List.append_nil] at lbq
          have hap : H8 ap = some (.lst (pls.map V.ref)) := k8 _ _ e9 fun hm => (pl9 _ hm).2.1 rfl
          have hpp : H8 p = _ := k8 _ _ p9 fun hm => z9 _ hm _ p8
          refine ⟨_, rfl, p, dx, _, _, rfl, hpp, by kernel_rfl, _, rfl, ap, _, q1, .ref bq, rfl, rfl, hap, by rw [List.getElem?_map, ebq]; rfl, .inl ⟨rfl, _, SqL.of lbq⟩, _, rfl, bq, _, _, rfl, rfl, lbq, by have := placesUp_len L r q1 i; rw [sizeLine_eq, List.length_map]; omega, _, rfl, fun b o e n => ?_, fun q2 b2 e2 => ?_⟩
          · rw [upd_ne (fun z => n (by rw [z]; exact List.mem_of_getElem? ebq))]; exact k8 _ _ e n
          · have et : (ixAt L r i).take (j + 1) = (ixAt L r i).take j ++ [q1] := by rw [List.take_add_one, eix, eq1]; rfl
            by_cases hqq : q2 = q1
            · subst hqq
              rw [ebq] at e2; cases e2
              rw [upd_same, et, if_pos (by simp)]
              simp
            · have nb : b2 ≠ bq := fun z => hqq (nodup_at hpd e2 (by rw [z]; exact ebq))
              rw [upd_ne nb, pl8 q2 b2 e2, et]
              simp [hqq]
        · rintro σ H8 ⟨v2, rfl, k8, pl8⟩
          refine ⟨_, _, _, rfl, k8, fun q b e => ?_⟩
          rw [pl8 q b e, placesUp_succ, List.take_of_length_le (by rw [eix, List.length_map]; exact Nat.le_refl _)]
      · rintro σ H5 ⟨v2, v3, v4, rfl, k5, pl5⟩
        have m5 : ∀ x o, G9 x = some o → G8 x = some o ∨ x = ap → H5 x = some o := fun x o e h => k5 x o e fun hm => by
          rcases h with h | h
          · exact z9 x hm _ h
          · exact (pl9 x hm).2.1 h
        let M : List Addr := [tl, nl, dd, lf] ++ bds
        let F : Hp := fun b => if b ∈ M then none else H5 b
        have hF : ∀ x o, x ∉ M → H5 x = some o → F x = some o := fun x o n e => by show (if x ∈ M then none else H5 x) = _; rw [if_neg n]; exact e
        have hFM : ∀ x, x ∈ M → F x = none := fun x n => by show (if x ∈ M then none else H5 x) = _; rw [if_pos n]
        have sF : Same F H5 := fun b o e => by
          have e' : (if b ∈ M then none else H5 b) = some o := e
          by_cases hb : b ∈ M
          · rw [if_pos hb] at e'; cases e'
          · rwa [if_neg hb] at e'
        have up4 : ∀ x o, G3 x = some o → x ≠ p → G4 x = some o := fun x o e n => kk4 x o e (by simpa using n)
        have up5 : ∀ x o, G4 x = some o → x ≠ p → G5 x = some o := fun x o e n => kk5 x o e (by simpa using n)
        have up6 : ∀ x o, G5 x = some o → x ≠ p → G6 x = some o := fun x o e n => kk6 x o e (by simpa using n)
        have up7 : ∀ x o, G6 x = some o → x ≠ p → G7 x = some o := fun x o e n => kk7 x o e (by simpa using n)
        have up8 : ∀ x o, G7 x = some o → x ≠ p → G8 x = some o := fun x o e n => kk8 x o e (by simpa using n)
        have up9 : ∀ x o, G8 x = some o → x ≠ p → G9 x = some o := fun x o e n => kk9 x o e (by simpa using n)
        have nM : ∀ x, x ∈ M ↔ x = tl ∨ x = nl ∨ x = dd ∨ x = lf ∨ x ∈ bds := fun x => by simp [M]
        have old : ∀ x o, G3 x = some o → x ≠ p → F x = some o := fun x o e n => by
          have g4 := up4 x o e n
          have g5 := up5 x o g4 n
          have g6 := up6 x o g5 n
          have g7 := up7 x o g6 n
          have g8 := up8 x o g7 n
          refine hF x o (fun hm => ?_) (m5 x o (up9 x o g8 n) (.inl g8))
          rcases (nM x).mp hm with h | h | h | h | h
          · exact ne_of_none e htl h
          · exact ne_of_none g4 hnl h
          · exact ne_of_none g5 hdd h
          · exact ne_of_none g7 hlf h
          · have := (bd7 x h).1; rw [g6] at this; cases this
        have tl6 := up6 tl _ (up5 tl _ f4 ntl) ntl
        have nl6 := up6 nl _ f5 nnl
        have tl7 := up7 tl _ tl6 ntl
        have nl7 := up7 nl _ nl6 nnl
        have dd7 := up7 dd _ f6 ndd
        have tl8 := up8 tl _ tl7 ntl
        have nl8 := up8 nl _ nl7 nnl
        have dd8 := up8 dd _ dd7 ndd
        have ab8 := up8 ab _ e7 nab
        have bd8 : ∀ b ∈ bds, b ≠ p ∧ G8 b = some (.dK []) := fun b hb => by
          have n : b ≠ p := fun z => by have := (bd7 b hb).2; rw [z, p7] at this; cases this
          exact ⟨n, up8 b _ (bd7 b hb).2 n⟩
        have hfin : ∀ x o, G8 x = some o → x ≠ p → H5 x = some o := fun x o e n => m5 x o (up9 x o e n) (.inl e)
        have pM : p ∉ M := fun hm => by
          rcases (nM p).mp hm with h | h | h | h | h
          · exact ntl h.symm
          · exact nnl h.symm
          · exact ndd h.symm
          · exact nlf h.symm
          · exact (bd8 p h).1 rfl
        have oldH : ∀ x o, H x = some o → x ≠ p → F x = some o := fun x o e n => old x o (k03 x o e (by simpa using n)) n
        have kF : Keep [p] H F := fun x o e n => oldH x o e (by simpa using n)
        have apM : ap ∉ M := fun hm => by
          rcases (nM ap).mp hm with h | h | h | h | h
          · exact ne_of_none tl8 hap h.symm
          · exact ne_of_none nl8 hap h.symm
          · exact ne_of_none dd8 hap h.symm
          · exact ne_of_none e8 hap h.symm
          · have := (bd8 ap h).2; rw [hap] at this; cases this
        have abM : ab ∉ M := fun hm => by
          rcases (nM ab).mp hm with h | h | h | h | h
          · exact ne_of_none tl6 hab h.symm
          · exact ne_of_none nl6 hab h.symm
          · exact ne_of_none f6 hab h.symm
          · exact ne_of_none e7 hlf h
          · have := (bd7 ab h).1; have h2 := (bd7 ab h).2; rw [e7] at h2; cases h2
        have plM : ∀ b ∈ pls, b ∉ M := fun b hb hm => by
          have hz := (pl9 b hb).1
          rcases (nM b).mp hm with h | h | h | h | h
          · exact ne_of_none tl8 hz h.symm
          · exact ne_of_none nl8 hz h.symm
          · exact ne_of_none dd8 hz h.symm
          · exact ne_of_none e8 hz h.symm
          · have := (bd8 b h).2; rw [hz] at this; cases this
        have ndl4 : ([tl, nl, dd, lf] : List Addr).Nodup := by
          have a1 : tl ≠ nl := ne_of_none f4 hnl
          have a2 : tl ≠ dd := ne_of_none (up5 tl _ f4 ntl) hdd
          have a3 : tl ≠ lf := ne_of_none tl7 hlf
          have a4 : nl ≠ dd := ne_of_none f5 hdd
          have a5 : nl ≠ lf := ne_of_none nl7 hlf
          have a6 : dd ≠ lf := ne_of_none dd7 hlf
          simp [a1, a2, a3, a4, a5, a6]
        refine q H5 F ⟨p, rp, t, ip, dl, tl, nl, dd, ab, lf, ap, bds, pls, iv⟩ rfl rfl rfl kF ?_ ?_
        · have kTF : KeepT H F := fun x xs e => oldH x _ e fun z => by rw [z, hp] at e; cases e
          refine ⟨hL, hr1, ⟨dx, ?_⟩, ⟨dxR, fR, lp, lr, a, pvs, rs, oldH _ _ hRi nrp, hRt, hRp, hRr, ⟨dxT, fT, oldH _ _ htT ntp, hfm, hfl⟩, NK.mono kTF _ _ hLo, oldH _ _ hlp nlp, NKs.mono kTF _ _ npv, oldH _ _ hlr nlr, NKs.mono kTF _ _ nrs⟩, ?_, hil, fun m b e => ?_, ⟨G2, ol, ?_⟩, ?_, by rw [hbl, npl], hbd, ?_, by rw [hpl, npl], fun q1 b e => ?_, ?_, ?_, ndl4⟩
          · have e5 : H5 p = some (.ins cA dx _) := k5 p _ p9 fun hm => z9 p hm _ p8
            refine (hF p _ pM e5).trans ?_
            congr 2
          · exact old ip _ (kk3 ip _ e2 (by simpa using nip)) nip
          · have := iv2 m b e
            have nb : b ≠ p := fun z => by rw [z, p2] at this; cases this
            exact old b _ (kk3 b _ this (by simpa using nb)) nb
          · have kt3 : KeepT G3 F := fun x xs e => old x _ e fun z => by rw [z, p3] at e; cases e
            exact ⟨dl3.nd.mono kt3 (fun o e => old dl o e ndl), dl3.d0, dl3.nod, dl3.l0, fun k hk => old _ _ (dl3.at_ k hk) (fun z => by have := dl3.at_ k hk; rw [z, p3] at this; cases this), dl3.inj, dl3.out⟩
          · exact hF ab _ abM (hfin ab _ ab8 nab)
          · exact hF ap _ apM (m5 ap _ e9 (.inr rfl))
          · rw [nrl] at pl5
            exact hF b _ (plM b (List.mem_of_getElem? e)) (pl5 q1 b e)
          · intro b hb
            exact hFM b (List.mem_append_left _ hb)
          · intro b hb
            exact hFM b (List.mem_append_right _ hb)
        · refine ⟨sF, ?_, by simp, ⟨List.replicate (nP L r) 0, ?_, by simp⟩, ⟨List.replicate (nP L r) 0, ?_, by simp⟩, ?_, by simp, ⟨fun _ => [], fun _ _ => 0, fun q1 b e => ?_, fun _ => ⟨List.nodup_nil, by simp⟩, by simp, fun _ _ _ => rfl, by simp⟩, by simp⟩
          · rw [hfin tl _ tl8 ntl, npl, List.map_replicate]; rfl
          · rw [hfin nl _ nl8 nnl, npl, List.map_replicate]
          · rw [hfin dd _ dd8 ndd, npl, List.map_replicate]
          · rw [hfin lf _ e8 nlf, List.map_replicate, nrl]
          · have := bd8 b (List.mem_of_getElem? e)
            exact hfin b _ this.2 this.1

end
end S1

/-! L9: what the search asks of its runs -/
namespace S1
open PySem L2
def openL (L : Lots) (r : Nat) (told : List (Option Int)) (i : Nat) : List Nat := (ixAt L r i).filter fun q => (told.getD q none).isNone
def machK : NestedKey → Nat
  | .tup (.num m :: _) => m.toNat
  | _ => 0
/-- the machine of a pair -/
def mq (L : Lots) (r q : Nat) : Nat := machK ((pairsL L r).getD q .none)
def runAt (L : Lots) (r i : Nat) : Run := (runsL L r).getD i (0, [])
/-- the integers that are let for pair q by run i -/
def othK (L : Lots) (r : Nat) (told : List (Option Int)) (i q : Nat) : NestedKey :=
  .tup [.num ((runAt L r i).1 : Nat), .num (mq L r q : Nat), .tup (((ixAt L r i).filter fun j => decide (j ≠ q)).map fun j => toldK (told.getD j none))]
def barredL (L : Lots) (r : Nat) (told : List (Option Int)) (i q : Nat) : List Int := (intsL L (mq L r q)).filter fun v => decide (V.int v ∉ glist (eAll L L.length) (othK L r told i q))
theorem keysU_pair : ∀ k ∈ keysU, ∃ (m : Nat) (v : NestedKey), k = .tup [.num (m : Int), v] ∧ m < 3 := by
  intro k hk
  simp only [keysU, List.mem_flatMap, List.mem_map] at hk
  obtain ⟨m, hm, v, _, rfl⟩ := hk
  have : m = 0 ∨ m = 1 ∨ m = 2 := by simpa using hm
  rcases this with rfl | rfl | rfl
  · exact ⟨0, v, rfl, by decide⟩
  · exact ⟨1, v, rfl, by decide⟩
  · exact ⟨2, v, rfl, by decide⟩
theorem pairsL_U {L : Lots} {r : Nat} (hL : LotsOk L) (hr : r ≤ 1) : ∀ k ∈ pairsL L r, k ∈ keysU := fun k hk => by
  obtain ⟨u, hu, h⟩ := ksOf_mem.mp hk
  exact prsR_U hL hr hu k h
theorem pairs_at {L : Lots} {r q : Nat} (hL : LotsOk L) (hr : r ≤ 1) (hq : q < nP L r) : ∃ v, (pairsL L r)[q]? = some (.tup [.num (mq L r q : Nat), v]) ∧ mq L r q < 3 := by
  have e := List.getElem?_eq_getElem (l := pairsL L r) hq
  obtain ⟨m, v, ek, hm⟩ := keysU_pair _ (pairsL_U hL hr _ (List.getElem_mem (l := pairsL L r) hq))
  have : mq L r q = m := by
    unfold mq
    rw [List.getD_eq_getElem?_getD, e, ek]; simp [machK]
  rw [this]
  exact ⟨v, by rw [e, ek], hm⟩
theorem runAt_of {L : Lots} {r i : Nat} {u : Run} (h : (runsL L r)[i]? = some u) : runAt L r i = u := by
  unfold runAt; rw [List.getD_eq_getElem?_getD, h]; rfl
section
variable {P : Program} {w : World} {K : PySem.W.Frag} {mg : Str → Option Value} {base : Heap} {cT cR cS cA : Addr}
/-- the runs, opened -/
structure RunsV (cT cR : Addr) (H : Hp) (p t : Addr) (L : Lots) (r : Nat) (dx : Addr) (fs : List (Str × V)) (lp lr a : Addr) (pvs rs : List V) : Prop where
  ins : H p = some (.ins cR dx fs)
  tk : fs.lookup ("task" : Str) = some (.ref t)
  pr : fs.lookup ("pairs" : Str) = some (.ref lp)
  rw_ : fs.lookup ("rows" : Str) = some (.ref lr)
  task : TaskAt cT H t a
  lots : NK H (lotsK L) (.ref a)
  lp_ : H lp = some (.lst pvs)
  pn : pvs.length = nP L r
  lr_ : H lr = some (.lst rs)
  rn : rs.length = mR L r
  row : ∀ i, i < mR L r → ∃ b pv c, rs[i]? = some (.ref b) ∧ H b = some (.tup [.int ((runAt L r i).1 : Nat), pv, .ref c]) ∧ NK H (patK (runAt L r i).2) pv ∧ H c = some (.tup ((ixAt L r i).map fun (j : Nat) => V.int (j : Int)))
  pair : ∀ q, q < nP L r → ∃ b x v, pvs[q]? = some (.ref b) ∧ H b = some (.tup [.int (mq L r q : Nat), x]) ∧ NK H v x ∧ (pairsL L r)[q]? = some (.tup [.num (mq L r q : Nat), v]) ∧ mq L r q < 3
theorem RunsAt.view {H : Hp} {p t : Addr} {L : Lots} {r : Nat} (h : RunsAt cT cR H p t L r) (hL : LotsOk L) (hr : r ≤ 1) : ∃ dx fs lp lr a pvs rs, RunsV cT cR H p t L r dx fs lp lr a pvs rs := by
  obtain ⟨dx, fs, lp, lr, a, pvs, rs, h1, h2, h3, h4, h5, h6, h7, h8, h9, h10⟩ := h
  refine ⟨dx, fs, lp, lr, a, pvs, rs, h1, h2, h3, h4, h5, h6, h7, h8.len, h9, h10.lenK, fun i hi => ?_, fun q hq => ?_⟩
  · obtain ⟨u, eu, hu⟩ := run_at hi
    obtain ⟨v, ev, nv⟩ := h10.toK eu
    rw [rowK1_ix] at nv
    obtain ⟨b, ws, rfl, hb, hws⟩ := id nv
    obtain ⟨x0, _, rfl, h0, x1, _, rfl, h1, x2, _, rfl, h2, rfl⟩ := id hws
    obtain ⟨c, cs, rfl, hc, hcs⟩ := id h2
    have ecs := NKs.nats hcs
    subst ecs
    obtain rfl : x0 = .int u.1 := h0
    rw [runAt_of eu, ixAt_of eu]
    exact ⟨b, x1, c, ev, hb, h1, hc⟩
  · obtain ⟨v, ek, hm⟩ := pairs_at hL hr hq
    obtain ⟨y, ey, ny⟩ := h8.at' ek
    obtain ⟨b, ws, rfl, hb, hws⟩ := id ny
    obtain ⟨x0, _, rfl, h0, x1, _, rfl, h1, rfl⟩ := id hws
    obtain rfl : x0 = .int _ := h0
    exact ⟨b, x1, v, ey, hb, h1, ek, hm⟩
theorem RunsV.mono {H H' : Hp} {p t : Addr} {L : Lots} {r : Nat} {dx : Addr} {fs : List (Str × V)} {lp lr a : Addr} {pvs rs : List V} (R : RunsV cT cR H p t L r dx fs lp lr a pvs rs) (s : Same H H') : RunsV cT cR H' p t L r dx fs lp lr a pvs rs :=
  ⟨s _ _ R.ins, R.tk, R.pr, R.rw_, R.task.mono s, NK.mono (KeepT.of_same s) _ _ R.lots, s _ _ R.lp_, R.pn, s _ _ R.lr_, R.rn, fun i hi => let ⟨b, pv, c, h1, h2, h3, h4⟩ := R.row i hi; ⟨b, pv, c, h1, s _ _ h2, NK.mono (KeepT.of_same s) _ _ h3, s _ _ h4⟩,
    fun q hq => let ⟨b, x, v, h1, h2, h3, h4⟩ := R.pair q hq; ⟨b, x, v, h1, s _ _ h2, NK.mono (KeepT.of_same s) _ _ h3, h4⟩⟩
abbrev s_Asking_open_in : Stmt := inClass (top 36) 1
def sp_Asking_open_in (P : Program) (w : World) (cT cR cA : Addr) : Sp := fun vs H Q _ => ∃ (F : Hp) (L : Lots) (r : Nat) (D : Ads) (Av : List Addr) (told : List (Option Int)) (B : Nat → Int → List Nat) (left : List Int) (i : Nat), vs = [.ref D.sp, .int i] ∧ Asked P w cT cR cA F L r D ∧ AskSt F L r D Av H told B left ∧ i < mR L r ∧
  ∀ l H', Same H H' → H l = none → H' l = some (.lst ((openL L r told i).map fun (j : Nat) => V.int (j : Int))) → Q (.ref l) H'
theorem ok_Asking_open_in {f : Addr} {fd : FuncData} (F : Fun K "open_in" "Asking.open_in" s_Asking_open_in f fd) (T : Txt K mg cT cR cS cA) : FnOk P w K mg base CX0 1 f fd ["self", "number"] (sp_Asking_open_in P w cT cR cA) := by
  have sc : FnScope ["self", "number", "pair"] ["self", "number"] (defScope s_Asking_open_in) := sc_by (by decide +kernel)
  refine F.ok sc (fun vs H Q E h => ?_) (fun cdv A outer s H vs Q E hr h => ?_)
  · obtain ⟨_, _, _, _, _, _, _, _, _, rfl, _⟩ := h; rfl
  · obtain ⟨F, L, r, D, Av, told, B, left, i, rfl, A1, S, hi, q⟩ := h
    have hu := hu9 hr
    have hu65 := hu65 hr
    have hu1 := hu1_of hr
    refine ⟨_, (pss_one (ps_ret (pe_lc (own := [("pair", 2)]) rfl sc.nd (pi_tup (pe_ix ixt (pe_ix ixl (pe_fl T.clR T.nR_rows (pe_fl T.clA T.nA_runs (pv 0))) (pv 1) (fun _ _ => rfl)) pe_int (fun _ _ => rfl))) (blkOk_by (by kernel_rfl)) (fun _ _ _ _ _ => (pg_name (i := 2) sc.nd rfl (Or.inl rfl) (Or.inr rfl))) (fun _ _ _ _ _ => pts_one (pt_cmp (pc_isN (pe_ix ixl (pe_fl T.clA T.nA_told (pv 0)) (pv 2) (fun _ _ => rfl))))) (fun _ _ _ _ _ => (pv 2))))), ?_⟩
    obtain ⟨dx, hins⟩ := A1.ins
    obtain ⟨dxR, fR, lp, lr, a, pvs, rs, RF⟩ := A1.runs.view A1.ok A1.r1
    have R := RF.mono S.same
    obtain ⟨b, pv, c, e1, e2, e3, e4⟩ := R.row i hi
    have hmem := List.getElem_mem (l := runsL L r) hi
    have hu := run_at hi
    obtain ⟨u, eu, hu⟩ := hu
    have eix := ixAt_of eu
    refine ⟨_, rfl, D.sp, dx, _, _, rfl, S.same _ _ hins, by kernel_rfl, D.rp, dxR, fR, _, rfl, R.ins, R.rw_, _, rfl, lr, _, i, _, rfl, rfl, R.lr_, e1, b, _, 2, _, rfl, rfl, e2, rfl, c, rfl, ⟨_, SqT.of e4⟩, fun l hl => ?_⟩
    refine lc_keep walkT [] (by simp) (by simp [eix, ixOf_len A1.ok hu]) hl (fun H' k => k _ _ e4 (by simp)) (fun j H' acc => acc = (((ixAt L r i).take j).filter fun q => (told.getD q none).isNone).map fun (j : Nat) => V.int (j : Int)) rfl (fun j x H1' H1 acc Kf Nx hj k hacc hl2 hR hY hK hN => ?_) (fun H1 acc k hacc hl2 hR => ?_)
    · obtain ⟨rfl, hx⟩ := hY
      rw [List.getElem?_map] at hx
      obtain ⟨q0, eq0, rfl⟩ := Option.map_eq_some_iff.mp hx
      have s1 := Keep.same k
      have hq0 : q0 < told.length := by rw [S.tln]; exact ixOf_lt hu q0 (by rw [← eix]; exact List.mem_of_getElem? eq0)
      have et := List.getElem?_eq_getElem hq0
      have ed : told.getD q0 none = told[q0] := by rw [List.getD_eq_getElem?_getD, et]; rfl
      generalize told[q0] = t0 at et ed
      refine ⟨rfl, _, rfl, D.sp, dx, _, _, rfl, s1 _ _ (S.same _ _ hins), by kernel_rfl, _, rfl, D.tl, _, q0, toldV t0, rfl, rfl, s1 _ _ S.told_, by rw [List.getElem?_map, et]; rfl, _, rfl, ?_⟩
      have e1 : (ixAt L r i).take (j + 1) = (ixAt L r i).take j ++ [q0] := by rw [List.take_add_one, eq0]; rfl
      cases t0 with
      | none =>
        refine ite_t rfl ⟨_, rfl, hK _ _ (Keep.refl _ _) ?_⟩
        rw [hR, e1, List.filter_append, List.map_append]
        simp only [List.filter_cons, ed]; rfl
      | some v =>
        refine ite_f rfl (hN _ (Keep.refl _ _) ?_)
        rw [hR, e1, List.filter_append, List.map_append]
        simp only [List.filter_cons, ed]; simp
    · rw [hR, List.take_of_length_le (by simp)] at hacc
      exact q l _ (Keep.same k) hl hacc

theorem toldV_K {H : Hp} (t : Option Int) : NK H (toldK t) (toldV t) := by cases t <;> rfl
theorem NKs.told {H : Hp} {ts : List (Option Int)} : NKs H (ts.map toldK) (ts.map toldV) := by
  induction ts with
  | nil => rfl
  | cons t ts ih => exact ⟨_, _, rfl, toldV_K t, ih⟩
theorem eAll_int {L : Lots} {n : Nat} {k : NestedKey} {x : V} (h : x ∈ glist (eAll L n) k) : ∃ v : Int, x = .int v := by
  have := glist_mem.mp h
  simp only [eAll, List.mem_flatMap, eRow, List.mem_map] at this
  obtain ⟨i, _, row, _, me, _, e⟩ := this
  cases e
  exact ⟨_, rfl⟩
theorem glist_ints (L : Lots) (n : Nat) (k : NestedKey) : ∃ ns : List Int, glist (eAll L n) k = ns.map V.int := by
  have : ∀ l : List V, (∀ x ∈ l, ∃ v : Int, x = .int v) → ∃ ns : List Int, l = ns.map V.int := by
    intro l
    induction l with
    | nil => exact fun _ => ⟨[], rfl⟩
    | cons x l ih =>
      intro h
      obtain ⟨v, rfl⟩ := h x List.mem_cons_self
      obtain ⟨ns, rfl⟩ := ih fun y hy => h y (List.mem_cons_of_mem _ hy)
      exact ⟨v :: ns, rfl⟩
  exact this _ fun x h => eAll_int h
theorem depth_told (ts : List (Option Int)) : NestedKey.depthAll (ts.map toldK) ≤ 1 := by
  induction ts with
  | nil => simp [NestedKey.depthAll]
  | cons t ts ih =>
    have : (toldK t).depth ≤ 1 := by cases t <;> simp [toldK, NestedKey.depth]
    simp only [List.map_cons, NestedKey.depthAll]; omega
theorem depth_oth (L : Lots) (r : Nat) (told : List (Option Int)) (i q : Nat) : (othK L r told i q).depth ≤ 8 := by
  have := depth_told (((ixAt L r i).filter fun j => decide (j ≠ q)).map fun j => told.getD j none)
  rw [List.map_map] at this
  simp only [Function.comp_def] at this
  simp only [othK, NestedKey.depth, NestedKey.depthAll]; omega
abbrev s_Asking_barred : Stmt := inClass (top 36) 2
def sp_Asking_barred (P : Program) (w : World) (cT cR cA : Addr) : Sp := fun vs H Q _ => ∃ (F : Hp) (L : Lots) (r : Nat) (D : Ads) (Av : List Addr) (told : List (Option Int)) (B : Nat → Int → List Nat) (left : List Int) (i q : Nat), vs = [.ref D.sp, .int i, .int q] ∧ Asked P w cT cR cA F L r D ∧ AskSt F L r D Av H told B left ∧ i < mR L r ∧ q < nP L r ∧
  ∀ l H', Same H H' → H l = none → H' l = some (.lst ((barredL L r told i q).map V.int)) → Q (.ref l) H'
theorem ok_Asking_barred {f : Addr} {fd : FuncData} (F : Fun K "barred" "Asking.barred" s_Asking_barred f fd) (T : Txt K mg cT cR cS cA) : FnOk P w K mg base CX0 1 f fd ["self", "number", "pair"] (sp_Asking_barred P w cT cR cA) := by
  have sc : FnScope ["self", "number", "pair", "at", "pattern", "pairs", "me", "let", "integer", "other"] ["self", "number", "pair"] (defScope s_Asking_barred) := sc_by (by decide +kernel)
  refine F.ok sc (fun vs H Q E h => ?_) (fun cdv A outer s H vs Q E hr h => ?_)
  · obtain ⟨_, _, _, _, _, _, _, _, _, _, rfl, _⟩ := h; rfl
  · obtain ⟨F, L, r, D, Av, told, B, left, i, q0, rfl, A1, S, hi, hq, q⟩ := h
    have hu := hu9 hr
    have hu65 := hu65 hr
    have hu1 := hu1_of hr
    refine ⟨_, (pss_cons (ps_asg (pe_ix ixl (pe_fl T.clR T.nR_rows (pe_fl T.clA T.nA_runs (pv 0))) (pv 1) (fun _ _ => rfl)) (pg_tu 3 rfl (pgs_cons (pg_name (i := 3) sc.nd rfl (Or.inl rfl) (Or.inl rfl)) (pgs_cons (pg_name (i := 4) sc.nd rfl (Or.inl rfl) (Or.inl rfl)) (pgs_cons (pg_name (i := 5) sc.nd rfl (Or.inl rfl) (Or.inl rfl)) pgs_nil)))))
      (pss_cons (ps_set (i := 6) sc.nd rfl (Or.inl rfl) (pe_ix ixt (pe_ix ixl (pe_fl T.clR T.nR_pairs (pe_fl T.clA T.nA_runs (pv 0))) (pv 2) (fun _ _ => rfl)) pe_int (fun _ _ => rfl)))
      (pss_cons (ps_set (i := 7) sc.nd rfl (Or.inr rfl) (pe_mG (ty_ndP P w) PySem.F.plainAttrs_dict PySem.F.slot_dict_get PySem.F.type_dict_get (mt_nget2P P w hu) (pe_fl T.clA T.nA_lets (pv 0)) (pa_cons (pe_tup (pa_cons (pv 3) (pa_cons (pv 6) (pa_cons (pe_callTy call_tupL (by rfl) T.tuple (by decide +kernel) (pa_cons (pe_lc (own := [("other", 9)]) rfl sc.nd (pi_tup (pv 5)) (blkOk_by (by kernel_rfl)) (fun _ _ _ _ _ => (pg_name (i := 9) sc.nd rfl (Or.inl rfl) (Or.inr rfl))) (fun _ _ _ _ _ => pts_one (pt_cmpR op_ne (pv 9) (pv 2) (nomark _))) (fun _ _ _ _ _ => (pe_ix ixl (pe_fl T.clA T.nA_told (pv 0)) (pv 9) (fun _ _ => rfl)))) pa_nil)) pa_nil)))) (pa_cons (pe_lst pa_nil) pa_nil))))
      (pss_one (ps_ret (pe_lc (own := [("integer", 8)]) rfl sc.nd (pi_list (pe_ix ixl (pe_fl T.clA T.nA_integers (pv 0)) (pv 6) (fun _ _ => rfl))) (blkOk_by (by kernel_rfl)) (fun _ _ _ _ _ => (pg_name (i := 8) sc.nd rfl (Or.inl rfl) (Or.inr rfl))) (fun _ _ _ _ _ => pts_one (pt_cmpR or_notInI (pv 8) (pv 7) (by with_unfolding_all rfl))) (fun _ _ _ _ _ => (pv 8)))))))), ?_⟩
    obtain ⟨dx, hins⟩ := A1.ins
    obtain ⟨dxR, fR, lp, lr, a, pvs, rs, RF⟩ := A1.runs.view A1.ok A1.r1
    have R := RF.mono S.same
    obtain ⟨b, pv, c, e1, e2, e3, e4⟩ := R.row i hi
    obtain ⟨b2, x2, v2, g1, g2, g3, g4, g5⟩ := R.pair q0 hq
    obtain ⟨u, eu, hu⟩ := run_at hi
    have eix := ixAt_of eu
    have hsp := S.same _ _ hins
    refine ⟨_, rfl, D.sp, dx, _, _, rfl, hsp, by kernel_rfl, D.rp, dxR, fR, _, rfl, R.ins, R.rw_, _, rfl, lr, _, i, _, rfl, rfl, R.lr_, e1, b, _, rfl, e2, rfl, _, _, rfl, _, _, rfl, _, _, rfl, rfl, ?_⟩
    refine ⟨_, rfl, D.sp, dx, _, _, rfl, hsp, by kernel_rfl, D.rp, dxR, fR, _, rfl, R.ins, R.pr, _, rfl, lp, _, q0, _, rfl, rfl, R.lp_, g1, b2, _, 0, _, rfl, rfl, g2, rfl, ?_⟩
    obtain ⟨H0, ol, DLd⟩ := A1.lets
    have dl := DLd.mono S.same
    refine ⟨_, rfl, D.sp, dx, _, _, rfl, hsp, by kernel_rfl, ⟨_, _, rfl, dl.nd.rd⟩, _, rfl, _, rfl, _, rfl, c, rfl, ⟨_, SqT.of e4⟩, fun l1 hl1 => ?_⟩
    refine lc_keep walkT [] (by simp) (by simp [eix, ixOf_len A1.ok hu]) hl1 (fun H' k => k _ _ e4 (by simp)) (fun j H' acc => acc = ((((ixAt L r i).take j).filter fun j => decide (j ≠ q0)).map fun j => told.getD j none).map toldV) rfl (fun j x H1' H1 acc Kf Nx hj k hacc hl2 hR hY hK hN => ?_) (fun H1 acc k hacc hl2 hR => ?_)
    · obtain ⟨rfl, hx⟩ := hY
      rw [List.getElem?_map] at hx
      obtain ⟨q1, eq1, rfl⟩ := Option.map_eq_some_iff.mp hx
      have s1 := Keep.same k
      have hq1 : q1 < told.length := by rw [S.tln]; exact ixOf_lt hu q1 (by rw [← eix]; exact List.mem_of_getElem? eq1)
      have et := List.getElem?_eq_getElem hq1
      have ed : told.getD q1 none = told[q1] := by rw [List.getD_eq_getElem?_getD, et]; rfl
      generalize told[q1] = t0 at et ed
      have e1' : (ixAt L r i).take (j + 1) = (ixAt L r i).take j ++ [q1] := by rw [List.take_add_one, eq1]; rfl
      refine ⟨rfl, _, rfl, _, rfl, rfl, _, rfl, ?_⟩
      by_cases h : q1 = q0
      · subst h
        refine ite_f (by simp) (hN _ (Keep.refl _ _) ?_)
        rw [hR, e1', List.filter_append]; simp
      · refine ite_t (by simp; omega) ?_
        refine ⟨_, rfl, D.sp, dx, _, _, rfl, s1 _ _ hsp, by kernel_rfl, _, rfl, D.tl, _, q1, toldV t0, rfl, rfl, s1 _ _ S.told_, by rw [List.getElem?_map, et]; rfl, hK _ _ (Keep.refl _ _) ?_⟩
        rw [hR, e1', List.filter_append]
        simp [h, ← ed]
    · have s1 := Keep.same k
      rw [List.take_of_length_le (by simp)] at hR
      refine ⟨l1, _, rfl, hacc, fun t H2 s2 e2 => ?_⟩
      refine ⟨by show 3 ≤ sizeLine; decide, fun T1 hT1 => ?_⟩
      have sT : Same H2 (upd H2 T1 (.tup [.int ((runAt L r i).1 : Nat), .int (mq L r q0 : Nat), .ref t])) := same_upd _ hT1
      have nT : NK (upd H2 T1 (.tup [.int ((runAt L r i).1 : Nat), .int (mq L r q0 : Nat), .ref t])) (othK L r told i q0) (.ref T1) := by
        refine ⟨T1, _, rfl, upd_same, _, _, rfl, rfl, _, _, rfl, rfl, _, _, rfl, ⟨t, acc, rfl, sT _ _ e2, ?_⟩, rfl⟩
        rw [hR]
        have := NKs.told (H := upd H2 T1 (.tup [.int ((runAt L r i).1 : Nat), .int (mq L r q0 : Nat), .ref t])) (ts := ((ixAt L r i).filter fun j => decide (j ≠ q0)).map fun j => told.getD j none)
        rwa [List.map_map] at this
      generalize upd H2 T1 (.tup [.int ((runAt L r i).1 : Nat), .int (mq L r q0 : Nat), .ref t]) = H3 at sT nT
      have s3 : Same H H3 := (s1.trans s2).trans sT
      refine ⟨Nat.zero_le _, fun z hz => ?_⟩
      have s4 : Same H3 (upd H3 z (.lst [])) := same_upd _ hz
      have s5 := s3.trans s4
      have dl5 := dl.mono s5
      obtain ⟨ns, ens⟩ := glist_ints L L.length (othK L r told i q0)
      have hlet : ∃ lt, (valV ((gkeys (eAll L L.length)).map fun k => (k, V.ref (ol k))) (othK L r told i q0)).getD (.ref z) = .ref lt ∧ (upd H3 z (.lst [])) lt = some (.lst (ns.map V.int)) := by
        rw [valV_map]
        by_cases hk : othK L r told i q0 ∈ gkeys (eAll L L.length)
        · rw [if_pos hk, ← ens]
          exact ⟨_, rfl, dl5.at_ _ hk⟩
        · rw [if_neg hk, ← ens, dl5.out _ hk]
          exact ⟨z, rfl, upd_same⟩
      obtain ⟨lt, elt, hlt⟩ := hlet
      refine ⟨D.dl, T1, othK L r told i q0, _, .ref z, rfl, rfl, dl5.nd.rd, NK.mono (KeepT.of_same s4) _ _ nT, depth_oth _ _ _ _ _, ?_⟩
      rw [elt]
      generalize upd H3 z (.lst []) = H5 at s5 hlt
      obtain ⟨bi, ebi⟩ : ∃ bi, D.iv[mq L r q0]? = some bi := ⟨_, List.getElem?_eq_getElem (by rw [A1.ints3]; exact g5)⟩
      have hiv := s5 _ _ (S.same _ _ (A1.intv _ _ ebi))
      refine ⟨_, rfl, D.sp, dx, _, _, rfl, s5 _ _ hsp, by kernel_rfl, _, rfl, D.ip, _, mq L r q0, .ref bi, rfl, rfl, s5 _ _ (S.same _ _ A1.intz), by rw [List.getElem?_map, ebi]; rfl, bi, rfl, ⟨_, SqL.of hiv⟩, fun l2 hl2' => ?_⟩
      refine lc_keep walkL [] (by simp) (by simp [intsL]; exact Nat.le_trans (List.length_filter_le _ _) (by decide)) hl2' (fun H' k => k _ _ hiv (by simp)) (fun j H' acc => acc = (((intsL L (mq L r q0)).take j).filter fun v => decide (V.int v ∉ glist (eAll L L.length) (othK L r told i q0))).map V.int) rfl (fun j x H1' H6 acc Kf Nx hj k hacc hl2 hR hY hK hN => ?_) (fun H1 acc k hacc hl2 hR => ?_)
      · obtain ⟨rfl, hx⟩ := hY
        rw [List.getElem?_map] at hx
        obtain ⟨v, ev, rfl⟩ := Option.map_eq_some_iff.mp hx
        have e1' : (intsL L (mq L r q0)).take (j + 1) = (intsL L (mq L r q0)).take j ++ [v] := by rw [List.take_add_one, ev]; rfl
        refine ⟨rfl, _, rfl, _, rfl, lt, ns, v, rfl, rfl, k _ _ hlt (by simp), _, rfl, ?_⟩
        have hmm : (V.int v ∈ glist (eAll L L.length) (othK L r told i q0)) ↔ v ∈ ns := by rw [ens]; simp
        by_cases h : v ∈ ns
        · refine ite_f (by simp [h]) (hN _ (Keep.refl _ _) ?_)
          rw [hR, e1', List.filter_append]; simp [hmm, h]
        · refine ite_t (by simp [h]) ⟨_, rfl, hK _ _ (Keep.refl _ _) ?_⟩
          rw [hR, e1', List.filter_append]; simp [hmm, h]
      · rw [hR, List.take_of_length_le (by simp)] at hacc
        exact q l2 _ (s5.trans (Keep.same k)) (s5.free hl2') hacc

end
end S1

/-! LA: bars set and taken back -/
namespace S1
open PySem L2
def natsV (l : List Nat) : List V := l.map fun (i : Nat) => V.int (i : Int)
def BarsW (F : Hp) (L : Lots) (r : Nat) (D : Ads) (Av : List Addr) (H : Hp) (B : Nat → Int → List Nat) (ks : Nat → List Int) (o : Nat → Int → Addr) : Prop :=
  (∀ q b, D.bds[q]? = some b → H b = some (.dK ((ks q).map fun v => (.inl v, .ref (o q v))))) ∧ (∀ q, (ks q).Nodup ∧ ∀ v ∈ ks q, 0 ≤ v ∧ v ≤ 2) ∧
    (∀ q, q < nP L r → ∀ v ∈ ks q, H (o q v) = some (.lst ((B q v).map fun (i : Nat) => V.int (i : Int))) ∧ F (o q v) = none ∧ o q v ∉ D.m4 ∧ o q v ∉ Av) ∧ (∀ q v, v ∉ ks q → B q v = []) ∧
    ∀ q q' v v', q < nP L r → q' < nP L r → v ∈ ks q → v' ∈ ks q' → o q v = o q' v' → q = q' ∧ v = v'
/-- what the search leaves alone -/
def Fr (D : Ads) (Av : List Addr) (H H' : Hp) : Prop := ∀ b x, H b = some x → b ∉ D.m4 → b ∉ D.bds → (b ∈ Av ∨ ∀ ys, x ≠ .lst ys) → H' b = some x
theorem Fr.of_same {D : Ads} {Av : List Addr} {H H' : Hp} (s : Same H H') : Fr D Av H H' := fun b x e _ _ _ => s _ _ e
theorem Fr.refl (D : Ads) (Av : List Addr) (H : Hp) : Fr D Av H H := fun b x e _ _ _ => e
theorem Fr.trans {D : Ads} {Av : List Addr} {H H1 H2 : Hp} (a : Fr D Av H H1) (b : Fr D Av H1 H2) : Fr D Av H H2 := fun c x e n1 n2 k => b c x (a c x e n1 n2 k) n1 n2 k
theorem Fr.m4 {D : Ads} {Av : List Addr} {H : Hp} {c : Addr} {o : HO} (h : c ∈ D.m4) : Fr D Av H (upd H c o) := fun b x e n1 _ _ => by rw [upd_ne (show b ≠ c from fun z => n1 (by rw [z]; exact h))]; exact e
theorem Fr.bd {D : Ads} {Av : List Addr} {H : Hp} {c : Addr} {o : HO} (h : c ∈ D.bds) : Fr D Av H (upd H c o) := fun b x e _ n2 _ => by rw [upd_ne (show b ≠ c from fun z => n2 (by rw [z]; exact h))]; exact e
theorem Fr.ls {D : Ads} {Av : List Addr} {H : Hp} {c : Addr} {o : HO} {ys : List V} (h : H c = some (.lst ys)) (n : c ∉ Av) : Fr D Av H (upd H c o) := fun b x e _ _ k => by
  rw [upd_ne (fun z => ?_)]
  · exact e
  · subst z
    rcases k with k | k
    · exact n k
    · rw [h] at e; cases e; exact k ys rfl
section
variable {P : Program} {w : World} {cT cR cA : Addr} {F : Hp} {L : Lots} {r : Nat} {D : Ads} {Av : List Addr} {H : Hp} {told : List (Option Int)} {B : Nat → Int → List Nat} {left : List Int} {ks : Nat → List Int} {o : Nat → Int → Addr}
theorem BarsW.frame {H' : Hp} (W : BarsW F L r D Av H B ks o) (h1 : ∀ b ∈ D.bds, H' b = H b) (h2 : ∀ q v, q < nP L r → v ∈ ks q → H' (o q v) = H (o q v)) : BarsW F L r D Av H' B ks o :=
  ⟨fun q b e => (h1 b (List.mem_of_getElem? e)).trans (W.1 q b e), W.2.1, fun q hq v hv => ⟨(h2 q v hq hv).trans (W.2.2.1 q hq v hv).1, (W.2.2.1 q hq v hv).2⟩, W.2.2.2⟩
theorem AskSt.at4 (S : AskSt F L r D Av H told B left) {x : Addr} (hx : x ∈ D.m4) : ∃ ys, H x = some (.lst ys) := by
  simp only [Ads.m4, List.mem_cons, List.not_mem_nil, or_false] at hx
  rcases hx with rfl | rfl | rfl | rfl
  · exact ⟨_, S.told_⟩
  · obtain ⟨ns, h, _⟩ := S.near; exact ⟨_, h⟩
  · obtain ⟨ns, h, _⟩ := S.dead; exact ⟨_, h⟩
  · exact ⟨_, S.left_⟩
theorem AskSt.bd (S : AskSt F L r D Av H told B left) {b : Addr} (hb : b ∈ D.bds) : ∃ kvs, H b = some (.dK kvs) := by
  obtain ⟨ks, o, W⟩ := S.bars
  obtain ⟨q, e⟩ := List.mem_iff_getElem?.mp hb
  exact ⟨_, W.1 q b e⟩
theorem AskSt.bd4 (S : AskSt F L r D Av H told B left) {b x : Addr} (hb : b ∈ D.bds) (hx : x ∈ D.m4) : b ≠ x := fun z => by
  obtain ⟨kvs, h⟩ := S.bd hb
  obtain ⟨ys, h2⟩ := S.at4 hx
  rw [z, h2] at h; cases h
theorem AskSt.upd4 (S : AskSt F L r D Av H told B left) {x : Addr} (hx : x ∈ D.m4) (ob : HO) : ∃ ks o, BarsW F L r D Av (upd H x ob) B ks o := by
  obtain ⟨ks, o, W⟩ := S.bars
  exact ⟨ks, o, BarsW.frame W (fun b hb => upd_ne (S.bd4 hb hx)) fun q v hq hv => upd_ne fun z => (W.2.2.1 q hq v hv).2.2.1 (z ▸ hx)⟩
theorem some_upd {x c : Addr} {ob : HO} (h : ∃ o, H x = some o) : ∃ o, upd H c ob x = some o := by
  by_cases e : x = c
  · exact ⟨ob, by rw [e, upd_same]⟩
  · obtain ⟨o, h⟩ := h; exact ⟨o, by rw [upd_ne e]; exact h⟩
theorem same_updN {x : Addr} {ob : HO} (s : Same F H) (h : F x = none) : Same F (upd H x ob) := fun b u e => by rw [upd_ne (ne_of_none e h)]; exact s _ _ e
theorem Asked.ne4 (A : Asked P w cT cR cA F L r D) : D.tl ≠ D.nl ∧ D.tl ≠ D.dd ∧ D.tl ≠ D.lf ∧ D.nl ≠ D.dd ∧ D.nl ≠ D.lf ∧ D.dd ≠ D.lf := by
  have := A.nd4
  simp only [Ads.m4, List.nodup_cons, List.mem_cons, List.not_mem_nil, or_false, not_or] at this
  exact ⟨this.1.1, this.1.2.1, this.1.2.2, this.2.1.1, this.2.1.2, this.2.2.1⟩
theorem m4tl : D.tl ∈ D.m4 := by simp [Ads.m4]
theorem m4nl : D.nl ∈ D.m4 := by simp [Ads.m4]
theorem m4dd : D.dd ∈ D.m4 := by simp [Ads.m4]
theorem m4lf : D.lf ∈ D.m4 := by simp [Ads.m4]
theorem AskSt.dead' (A : Asked P w cT cR cA F L r D) (S : AskSt F L r D Av H told B left) {ns : List Int} (hn : ns.length = nP L r) : AskSt F L r D Av (upd H D.dd (.lst (ns.map V.int))) told B left := by
  obtain ⟨a1, a2, a3, a4, a5, a6⟩ := A.ne4
  exact ⟨same_updN S.same (A.new4 _ m4dd), by rw [upd_ne a2]; exact S.told_, S.tln, let ⟨z, h, l⟩ := S.near; ⟨z, by rw [upd_ne a4]; exact h, l⟩, ⟨ns, upd_same, hn⟩, by rw [upd_ne a6.symm]; exact S.left_, S.lfn, S.upd4 m4dd _, fun x hx => some_upd (S.av x hx)⟩
theorem AskSt.near' (A : Asked P w cT cR cA F L r D) (S : AskSt F L r D Av H told B left) {ns : List Int} (hn : ns.length = nP L r) : AskSt F L r D Av (upd H D.nl (.lst (ns.map V.int))) told B left := by
  obtain ⟨a1, a2, a3, a4, a5, a6⟩ := A.ne4
  exact ⟨same_updN S.same (A.new4 _ m4nl), by rw [upd_ne a1]; exact S.told_, S.tln, ⟨ns, upd_same, hn⟩, let ⟨z, h, l⟩ := S.dead; ⟨z, by rw [upd_ne a4.symm]; exact h, l⟩, by rw [upd_ne a5.symm]; exact S.left_, S.lfn, S.upd4 m4nl _, fun x hx => some_upd (S.av x hx)⟩
theorem AskSt.left' (A : Asked P w cT cR cA F L r D) (S : AskSt F L r D Av H told B left) {ns : List Int} (hn : ns.length = mR L r) : AskSt F L r D Av (upd H D.lf (.lst (ns.map V.int))) told B ns := by
  obtain ⟨a1, a2, a3, a4, a5, a6⟩ := A.ne4
  exact ⟨same_updN S.same (A.new4 _ m4lf), by rw [upd_ne a3]; exact S.told_, S.tln, let ⟨z, h, l⟩ := S.near; ⟨z, by rw [upd_ne a5]; exact h, l⟩, let ⟨z, h, l⟩ := S.dead; ⟨z, by rw [upd_ne a6]; exact h, l⟩, upd_same, hn, S.upd4 m4lf _, fun x hx => some_upd (S.av x hx)⟩
theorem AskSt.told' (A : Asked P w cT cR cA F L r D) (S : AskSt F L r D Av H told B left) {ts : List (Option Int)} (hn : ts.length = nP L r) : AskSt F L r D Av (upd H D.tl (.lst (ts.map toldV))) ts B left := by
  obtain ⟨a1, a2, a3, a4, a5, a6⟩ := A.ne4
  exact ⟨same_updN S.same (A.new4 _ m4tl), upd_same, hn, let ⟨z, h, l⟩ := S.near; ⟨z, by rw [upd_ne a1.symm]; exact h, l⟩, let ⟨z, h, l⟩ := S.dead; ⟨z, by rw [upd_ne a2.symm]; exact h, l⟩, by rw [upd_ne a3.symm]; exact S.left_, S.lfn, S.upd4 m4tl _, fun x hx => some_upd (S.av x hx)⟩
/-- one list of numbers, new -/
def setB (B : Nat → Int → List Nat) (q : Nat) (v : Int) (x : List Nat) : Nat → Int → List Nat := fun q' v' => if q' = q ∧ v' = v then x else B q' v'
theorem AskSt.bars' (S : AskSt F L r D Av H told B left) (W : BarsW F L r D Av H B ks o) {q : Nat} {v : Int} (hq : q < nP L r) (hv : v ∈ ks q) (x : List Nat) :
    AskSt F L r D Av (upd H (o q v) (.lst (natsV x))) told (setB B q v x) left ∧ BarsW F L r D Av (upd H (o q v) (.lst (natsV x))) (setB B q v x) ks o ∧ Fr D Av H (upd H (o q v) (.lst (natsV x))) := by
  obtain ⟨w1, w2, w3, w4, w5⟩ := id W
  obtain ⟨g1, g2, g3, g4⟩ := w3 q hq v hv
  have ne : ∀ y ∈ D.m4, y ≠ o q v := fun y hy z => g3 (z ▸ hy)
  have W' : BarsW F L r D Av (upd H (o q v) (.lst (natsV x))) (setB B q v x) ks o := by
    refine ⟨fun q' b e => ?_, w2, fun q' hq' v' hv' => ⟨?_, (w3 q' hq' v' hv').2⟩, fun q' v' hn => ?_, w5⟩
    · rw [upd_ne (fun z => by have := w1 q' b e; rw [z, g1] at this; cases this)]; exact w1 q' b e
    · unfold setB
      by_cases c : q' = q ∧ v' = v
      · obtain ⟨rfl, rfl⟩ := c
        rw [upd_same, if_pos ⟨rfl, rfl⟩]; rfl
      · rw [upd_ne (fun z => c (w5 q' q v' v hq' hq hv' hv z)), if_neg c]
        exact (w3 q' hq' v' hv').1
    · unfold setB
      by_cases c : q' = q ∧ v' = v
      · obtain ⟨rfl, rfl⟩ := c
        exact absurd hv hn
      · rw [if_neg c]; exact w4 q' v' hn
  refine ⟨⟨same_updN S.same g2, by rw [upd_ne (ne _ m4tl)]; exact S.told_, S.tln, let ⟨z, h, l⟩ := S.near; ⟨z, by rw [upd_ne (ne _ m4nl)]; exact h, l⟩, let ⟨z, h, l⟩ := S.dead; ⟨z, by rw [upd_ne (ne _ m4dd)]; exact h, l⟩, by rw [upd_ne (ne _ m4lf)]; exact S.left_, S.lfn, ⟨ks, o, W'⟩, fun x hx => some_upd (S.av x hx)⟩, W', Fr.ls g1 g4⟩
theorem valV_dk {l : List Int} {f : Int → Addr} {v : Int} : valV (l.map fun v => ((Sum.inl v : L2.Key), V.ref (f v))) (.inl v) = if v ∈ l then some (.ref (f v)) else none := by
  induction l with
  | nil => rfl
  | cons j l ih =>
    rw [List.map_cons]
    by_cases e : j = v
    · subst e
      rw [valV_pos rfl]; simp
    · have e' : ¬ v = j := fun z => e z.symm
      rw [valV_neg (fun z => e (Sum.inl.inj z)), ih]
      simp [e']
theorem putK_dk {l : List Int} {f : Int → Addr} {v : Int} {z : Addr} (h : v ∉ l) : putK (l.map fun v => ((Sum.inl v : L2.Key), V.ref (f v))) (.inl v) (.ref z) = (l ++ [v]).map fun j => ((Sum.inl j : L2.Key), V.ref (if j = v then z else f j)) := by
  unfold putK
  have e : ((l.map fun v => ((Sum.inl v : L2.Key), V.ref (f v))).any fun kv => decide (kv.1 = .inl v)) = false := by
    rw [List.any_eq_false]
    intro p hp
    obtain ⟨j, hj, rfl⟩ := List.mem_map.mp hp
    simp only [decide_eq_true_eq]
    exact fun z => h (Sum.inl.inj z ▸ hj)
  rw [e, if_neg (by decide), List.map_append]
  congr 1
  · refine List.map_congr_left fun j hj => ?_
    rw [if_neg fun z : j = v => h (z ▸ hj)]
  · simp
/-- a new key of a pair's dict -/
theorem AskSt.barNew (A : Asked P w cT cR cA F L r D) (S : AskSt F L r D Av H told B left) (W : BarsW F L r D Av H B ks o) {q : Nat} {v : Int} {b z : Addr} (hq : q < nP L r) (hb : D.bds[q]? = some b) (hv : v ∉ ks q) (hv2 : 0 ≤ v ∧ v ≤ 2) (hz : H z = none) (hzA : z ∉ Av) :
    ∃ ks' o', v ∈ ks' q ∧ o' q v = z ∧ BarsW F L r D Av (upd (upd H z (.lst [])) b (.dK (putK ((ks q).map fun v => (.inl v, .ref (o q v))) (.inl v) (.ref z)))) B ks' o' ∧
      AskSt F L r D Av (upd (upd H z (.lst [])) b (.dK (putK ((ks q).map fun v => (.inl v, .ref (o q v))) (.inl v) (.ref z)))) told B left ∧ Fr D Av H (upd (upd H z (.lst [])) b (.dK (putK ((ks q).map fun v => (.inl v, .ref (o q v))) (.inl v) (.ref z)))) := by
  obtain ⟨w1, w2, w3, w4, w5⟩ := id W
  have sz : Same H (upd H z (.lst [])) := same_upd _ hz
  have hbm := List.mem_of_getElem? hb
  have hbz : b ≠ z := fun e => by have := w1 q b hb; rw [e, hz] at this; cases this
  have m4b : ∀ y ∈ D.m4, y ≠ b := fun y hy => (S.bd4 hbm hy).symm
  have m4z : ∀ y ∈ D.m4, y ≠ z := fun y hy e => by obtain ⟨ys, h⟩ := S.at4 hy; rw [e, hz] at h; cases h
  have zF : F z = none := S.same.free hz
  rw [putK_dk hv]
  generalize hH' : upd (upd H z (.lst [])) b _ = H'
  have at4 : ∀ y ∈ D.m4, H' y = H y := fun y hy => by rw [← hH', upd_ne (m4b y hy), upd_ne (m4z y hy)]
  have zl : H' z = some (.lst []) := by rw [← hH', upd_ne hbz.symm, upd_same]
  have onb : ∀ q' v', q' < nP L r → v' ∈ ks q' → H' (o q' v') = H (o q' v') ∧ o q' v' ≠ z := fun q' v' hq' hv' => by
    have h1 := (w3 q' hq' v' hv').1
    have n1 : o q' v' ≠ b := fun e => by have := w1 q b hb; rw [← e, h1] at this; cases this
    have n2 : o q' v' ≠ z := fun e => by rw [e, hz] at h1; cases h1
    exact ⟨by rw [← hH', upd_ne n1, upd_ne n2], n2⟩
  have W' : BarsW F L r D Av H' B (fun q' => if q' = q then ks q ++ [v] else ks q') (fun q' v' => if q' = q ∧ v' = v then z else o q' v') := by
    have mem : ∀ q' v', v' ∈ (if q' = q then ks q ++ [v] else ks q') → (q' = q ∧ v' = v) ∨ (¬ (q' = q ∧ v' = v) ∧ v' ∈ ks q') := fun q' v' h => by
      by_cases c : q' = q
      · subst c
        rw [if_pos rfl] at h
        rcases List.mem_append.mp h with h | h
        · exact .inr ⟨fun z => hv (z.2 ▸ h), h⟩
        · exact .inl ⟨rfl, List.mem_singleton.mp h⟩
      · rw [if_neg c] at h
        exact .inr ⟨fun z => c z.1, h⟩
    refine ⟨fun q' b' e => ?_, fun q' => ?_, fun q' hq' v' hv' => ?_, fun q' v' hn => ?_, fun q1 q2 v1 v2 h1 h2 h3 h4 e => ?_⟩
    · by_cases c : q' = q
      · subst c
        rw [hb] at e; cases e
        rw [← hH', upd_same]
        simp only [if_true, true_and]
      · have hb2 := w1 q' b' e
        have n1 : b' ≠ b := fun z => c (nodup_at A.bdd e (by rw [z]; exact hb))
        have n2 : b' ≠ z := fun z' => by rw [z', hz] at hb2; cases hb2
        rw [← hH', upd_ne n1, upd_ne n2, hb2]
        simp [c]
    · by_cases c : q' = q
      · subst c
        simp only [if_true]
        refine ⟨List.nodup_append.mpr ⟨(w2 q').1, by simp, fun i hi j hj => by rw [List.mem_singleton.mp hj]; exact fun e => hv (e ▸ hi)⟩, fun v' hv' => ?_⟩
        rcases List.mem_append.mp hv' with h | h
        · exact (w2 q').2 v' h
        · rw [List.mem_singleton.mp h]; exact hv2
      · simp only [c, if_false]; exact w2 q'
    · rcases mem q' v' hv' with ⟨rfl, rfl⟩ | ⟨c, h⟩
      · simp only [and_self, if_true]
        rw [w4 q' v' hv]
        exact ⟨zl, zF, fun h => m4z _ h rfl, hzA⟩
      · simp only [if_neg c]
        exact ⟨(onb q' v' hq' h).1.trans (w3 q' hq' v' h).1, (w3 q' hq' v' h).2⟩
    · refine w4 q' v' fun h => hn ?_
      by_cases c : q' = q
      · subst c; simp only [if_true]; exact List.mem_append_left _ h
      · simp only [if_neg c]; exact h
    · rcases mem q1 v1 h3 with ⟨rfl, rfl⟩ | ⟨c1, g1⟩ <;> rcases mem q2 v2 h4 with ⟨rfl, rfl⟩ | ⟨c2, g2⟩
      · exact ⟨rfl, rfl⟩
      · simp only [and_self, if_true, if_neg c2] at e
        exact absurd e.symm (onb q2 v2 h2 g2).2
      · simp only [and_self, if_true, if_neg c1] at e
        exact absurd e (onb q1 v1 h1 g1).2
      · simp only [if_neg c1, if_neg c2] at e
        exact w5 q1 q2 v1 v2 h1 h2 g1 g2 e
  refine ⟨_, _, ?_, ?_, W', ⟨?_, (at4 _ m4tl).trans S.told_, S.tln, let ⟨z, h, l⟩ := S.near; ⟨z, (at4 _ m4nl).trans h, l⟩, let ⟨z, h, l⟩ := S.dead; ⟨z, (at4 _ m4dd).trans h, l⟩, (at4 _ m4lf).trans S.left_, S.lfn, ⟨_, _, W'⟩, fun x hx => by rw [← hH']; exact some_upd (some_upd (S.av x hx))⟩, ?_⟩
  · simp
  · simp
  · rw [← hH']; exact same_updN (S.same.trans sz) (A.newb _ hbm)
  · rw [← hH']; exact (Fr.of_same sz).trans (Fr.bd hbm)
theorem AskSt.upd4W (S : AskSt F L r D Av H told B left) (W : BarsW F L r D Av H B ks o) {x : Addr} (hx : x ∈ D.m4) (ob : HO) : BarsW F L r D Av (upd H x ob) B ks o :=
  BarsW.frame W (fun b hb => upd_ne (S.bd4 hb hx)) fun q v hq hv => upd_ne fun z => (W.2.2.1 q hq v hv).2.2.1 (z ▸ hx)
theorem BarsW.mono {H' : Hp} (W : BarsW F L r D Av H B ks o) (s : Same H H') : BarsW F L r D Av H' B ks o :=
  ⟨fun q b e => s _ _ (W.1 q b e), W.2.1, fun q hq v hv => ⟨s _ _ (W.2.2.1 q hq v hv).1, (W.2.2.1 q hq v hv).2⟩, W.2.2.2⟩
theorem AskSt.avoid {H' : Hp} (S : AskSt F L r D Av H told B left) {l : Addr} (hl : H l = none) (s : Same H H') {ol : HO} (hl' : H' l = some ol) : AskSt F L r D (l :: Av) H' told B left :=
  have S' := S.mono s
  ⟨S'.same, S'.told_, S'.tln, S'.near, S'.dead, S'.left_, S'.lfn, let ⟨ks, o, w1, w2, w3, w4⟩ := S.bars
    ⟨ks, o, fun q b e => s _ _ (w1 q b e), w2, fun q hq v hv => let ⟨a, b, c, d⟩ := w3 q hq v hv; ⟨s _ _ a, b, c, fun h => by
      rcases List.mem_cons.mp h with e | e
      · rw [e, hl] at a; cases a
      · exact d e⟩, w4⟩, fun x hx => by
      rcases List.mem_cons.mp hx with e | e
      · exact ⟨ol, e ▸ hl'⟩
      · exact S'.av x e⟩
theorem AskSt.weak {l : Addr} (S : AskSt F L r D (l :: Av) H told B left) : AskSt F L r D Av H told B left :=
  ⟨S.same, S.told_, S.tln, S.near, S.dead, S.left_, S.lfn, let ⟨ks, o, w1, w2, w3, w4⟩ := S.bars
    ⟨ks, o, w1, w2, fun q hq v hv => let ⟨a, b, c, d⟩ := w3 q hq v hv; ⟨a, b, c, fun h => d (List.mem_cons_of_mem _ h)⟩, w4⟩, fun x hx => S.av x (List.mem_cons_of_mem _ hx)⟩
theorem Fr.weak {l : Addr} {H' : Hp} (f : Fr D (l :: Av) H H') : Fr D Av H H' := fun b x e n1 n2 k => f b x e n1 n2 (k.imp (List.mem_cons_of_mem _) id)
def addB (B : Nat → Int → List Nat) (q : Nat) (vs : List Int) (i : Nat) : Nat → Int → List Nat := fun q' v => if q' = q ∧ v ∈ vs then B q' v ++ [i] else B q' v
theorem addB_nil (B : Nat → Int → List Nat) (q i : Nat) : addB B q [] i = B := by funext q' v; simp [addB]
theorem addB_at (B : Nat → Int → List Nat) (q i : Nat) (vs : List Int) (v : Int) : addB B q vs i q v = if v ∈ vs then B q v ++ [i] else B q v := by simp [addB]
theorem addB_snoc (B : Nat → Int → List Nat) (q i : Nat) {vs : List Int} {v : Int} (h : v ∉ vs) : setB (addB B q vs i) q v (addB B q vs i q v ++ [i]) = addB B q (vs ++ [v]) i := by
  funext q' v'
  unfold setB
  by_cases c : q' = q ∧ v' = v
  · obtain ⟨rfl, rfl⟩ := c
    rw [if_pos ⟨rfl, rfl⟩, addB_at, if_neg h]
    simp [addB]
  · rw [if_neg c]
    unfold addB
    by_cases d : q' = q
    · subst d
      have : ¬ v' = v := fun z => c ⟨rfl, z⟩
      simp [this]
    · simp [d]
theorem addB_pop (B : Nat → Int → List Nat) (q i : Nat) {vs : List Int} {v : Int} (h : v ∉ vs) : setB (addB B q (v :: vs) i) q v (B q v) = addB B q vs i := by
  funext q' v'
  unfold setB
  by_cases c : q' = q ∧ v' = v
  · obtain ⟨rfl, rfl⟩ := c
    rw [if_pos ⟨rfl, rfl⟩, addB_at, if_neg h]
  · rw [if_neg c]
    unfold addB
    by_cases d : q' = q
    · subst d
      have : ¬ v' = v := fun z => c ⟨rfl, z⟩
      simp [this]
    · simp [d]
theorem barredL_nodup (L : Lots) (r : Nat) (told : List (Option Int)) (i q : Nat) : (barredL L r told i q).Nodup := by
  unfold barredL
  refine List.Nodup.sublist List.filter_sublist ?_
  refine List.Pairwise.imp ?_ (intsL_sorted L (mq L r q))
  intro a b h e
  rw [e] at h; omega
theorem barredL_bd {L : Lots} {r : Nat} {told : List (Option Int)} {i q : Nat} : ∀ v ∈ barredL L r told i q, 0 ≤ v ∧ v ≤ 2 := by
  intro v h
  have h1 := (List.mem_filter.mp h).1
  have h2 := (List.mem_filter.mp h1).1
  simp at h2; omega
section
variable {K : PySem.W.Frag} {mg : Str → Option Value} {base : Heap} {cS : Addr} {H : Hp}
abbrev s_Asking_bar : Stmt := inClass (top 36) 3
def sp_Asking_bar (P : Program) (w : World) (cT cR cA : Addr) : Sp := fun vs H Q _ => ∃ (F : Hp) (L : Lots) (r : Nat) (D : Ads) (Av : List Addr) (told : List (Option Int)) (B : Nat → Int → List Nat) (left : List Int) (i q : Nat), vs = [.ref D.sp, .int i, .int q] ∧ Asked P w cT cR cA F L r D ∧ AskSt F L r D Av H told B left ∧ i < mR L r ∧ q < nP L r ∧
  (∀ v, (B q v).length < 1000000) ∧ ∀ H', AskSt F L r D Av H' told (addB B q (barredL L r told i q) i) left → Fr D Av H H' → Q .non H'
theorem ok_Asking_bar {f : Addr} {fd : FuncData} (F : Fun K "bar" "Asking.bar" s_Asking_bar f fd) (T : Txt K mg cT cR cS cA) (G_barred : Me P w K mg base 1 cA "barred" ["self", "number", "pair"] (sp_Asking_barred P w cT cR cA)) : FnOk P w K mg base CX0 2 f fd ["self", "number", "pair"] (sp_Asking_bar P w cT cR cA) := by
  have sc : FnScope ["self", "number", "pair", "integer", "numbers"] ["self", "number", "pair"] (defScope s_Asking_bar) := sc_by (by decide +kernel)
  refine F.ok sc (fun vs H Q E h => ?_) (fun cdv A outer s H vs Q E hr h => ?_)
  · obtain ⟨_, _, _, _, _, _, _, _, _, _, rfl, _⟩ := h; rfl
  · obtain ⟨F, L, r, D, Av, told, B, left, i, q0, rfl, A1, S, hi, hq, hBl, q⟩ := h
    have hu := hu9 hr
    have hu65 := hu65 hr
    have hu1 := hu1_of hr
    refine ⟨_, (pss_one (ps_for PassesOwn.never rfl (pi_list (pe_me G_barred T.clA (hr.mono (by decide)) (pv 0) (pa_cons (pv 1) (pa_cons (pv 2) pa_nil)))) (pg_name (i := 3) sc.nd rfl (Or.inl rfl) (Or.inl rfl))
        (C8.pss_cut (ps_set (i := 4) sc.nd rfl (Or.inl rfl) (pe_dsetd (pe_ix ixl (pe_fl T.clA T.nA_bars (pv 0)) (pv 2) (fun _ _ => rfl)) (pv 3) (pe_lst pa_nil) ⟨rfl, rfl, rfl, rfl⟩))
          (C8.pss_cut (ps_if (pt_cmpR op_eq (pe_callB lenF (by rfl) T.len (by decide +kernel) (pa_cons (pv 4) pa_nil)) pe_int (nomark _))
            (pss_one (ps_augS (pe_fl T.clA T.nA_dead (pv 0)) (pv 2) get_list pe_int ip_add set_list))
            pss_nil)
          (pss_one (ps_expr (pe_bm PySem.F.plainAttrs_list PySem.F.slot_list_append PySem.F.type_list_append mt_append (pv 4) (pa_cons (pv 1) pa_nil)))))))), ?_⟩
    obtain ⟨dx, hins⟩ := A1.ins
    refine ⟨_, rfl, D.sp, dx, _, rfl, S.same _ _ hins, by kernel_rfl, _, rfl, _, rfl, F, L, r, D, Av, told, B, left, i, q0, rfl, A1, S, hi, hq, fun l H1 s1 hl hl1 => ?_⟩
    have S1 : AskSt F L r D (l :: Av) H1 told B left := S.avoid hl s1 hl1
    have f1 : Fr D (l :: Av) H H1 := Fr.of_same s1
    generalize hvs : barredL L r told i q0 = vs at hl1 q
    have hnd : vs.Nodup := by rw [← hvs]; exact barredL_nodup _ _ _ _ _
    have hbd : ∀ v ∈ vs, 0 ≤ v ∧ v ≤ 2 := by rw [← hvs]; exact barredL_bd
    have nl4 : l ∉ D.m4 := fun h => by obtain ⟨ys, e⟩ := S.at4 h; rw [hl] at e; cases e
    have nlb : l ∉ D.bds := fun h => by obtain ⟨ys, e⟩ := S.bd h; rw [hl] at e; cases e
    obtain ⟨bq, ebq⟩ : ∃ bq, D.bds[q0]? = some bq := ⟨_, List.getElem?_eq_getElem (by rw [A1.bdn]; exact hq)⟩
    refine ⟨l, rfl, ⟨_, SqL.of hl1⟩, for_it walkL (fun j σ H' => ∃ v3 v4, σ = [some (.ref D.sp), some (.int i), some (.int q0), v3, v4] ∧ AskSt F L r D (l :: Av) H' told (addB B q0 (vs.take j) i) left ∧ Fr D (l :: Av) H1 H') ⟨none, none, rfl, by rw [List.take_zero, addB_nil]; exact S1, Fr.refl _ _ _⟩ (fun j σ H' _ ⟨_, _, _, _, f⟩ => f l _ hl1 nl4 nlb (.inl (List.mem_cons_self))) ?_ ?_⟩
    · rintro j x σ H2' H2 hj ⟨v3, v4, rfl, S2, f2⟩ ⟨rfl, hx⟩
      rw [List.getElem?_map] at hx
      obtain ⟨v, ev, rfl⟩ := Option.map_eq_some_iff.mp hx
      have hv2 := hbd v (List.mem_of_getElem? ev)
      have hvn : v ∉ vs.take j := fun h => by obtain ⟨j', h1, h2⟩ := at_take h; have := nodup_at hnd h2 ev; omega
      obtain ⟨ks, o, W⟩ := S2.bars
      have hbq := W.1 q0 bq ebq
      have hsp := S2.same _ _ hins
      refine ⟨fun σ' H' => ∃ lv ks o, σ' = [some (.ref D.sp), some (.int i), some (.int q0), some (.int v), some (.ref lv)] ∧ v ∈ ks q0 ∧ o q0 v = lv ∧ BarsW F L r D (l :: Av) H' (addB B q0 (vs.take j) i) ks o ∧ AskSt F L r D (l :: Av) H' told (addB B q0 (vs.take j) i) left ∧ Fr D (l :: Av) H1 H', ?_, ?_⟩
      · refine ⟨_, rfl, D.sp, dx, _, _, rfl, hsp, by kernel_rfl, _, rfl, D.ab, _, q0, .ref bq, rfl, rfl, S2.same _ _ A1.bars, by rw [List.getElem?_map, ebq]; rfl, bq, rfl, .inl ⟨_, .inl hbq⟩, _, rfl, Nat.zero_le _, fun z hz => ?_⟩
        have sz : Same H2 (upd H2 z (.lst [])) := same_upd _ hz
        have zA : z ∉ l :: Av := fun h => by obtain ⟨ob, e⟩ := S2.av z h; rw [hz] at e; cases e
        have hks : (ks q0).length ≤ 3 := nodup_sub_len (m := [0, 1, 2]) (W.2.1 q0).1 fun x hx => by have := (W.2.1 q0).2 x hx; simp; omega
        refine ⟨_, .inl v, sz _ _ hbq, rfl, by rw [List.length_map, sizeLine_eq]; omega, fun v' hv' => ?_, fun hv' => ?_⟩
        · rw [valV_dk] at hv'
          by_cases hin : v ∈ ks q0
          · rw [if_pos hin] at hv'; cases hv'
            exact ⟨o q0 v, ks, o, rfl, hin, rfl, BarsW.mono W sz, S2.mono sz, f2.trans (Fr.of_same sz)⟩
          · rw [if_neg hin] at hv'; cases hv'
        · rw [valV_dk] at hv'
          have hin : v ∉ ks q0 := fun h => by rw [if_pos h] at hv'; cases hv'
          obtain ⟨ks', o', g1, g2, g3, g4, g5⟩ := S2.barNew A1 W hq ebq hin hv2 hz zA
          exact ⟨z, ks', o', rfl, g1, g2, g3, g4, f2.trans g5⟩
      · rintro σ' H' ⟨lv, ks, o, rfl, hv, rfl, W, S3, f3⟩
        have hlv := (W.2.2.1 q0 hq v hv).1
        have hsp := S3.same _ _ hins
        refine ⟨fun σ' H' => σ' = [some (.ref D.sp), some (.int i), some (.int q0), some (.int v), some (.ref (o q0 v))] ∧ BarsW F L r D (l :: Av) H' (addB B q0 (vs.take j) i) ks o ∧ AskSt F L r D (l :: Av) H' told (addB B q0 (vs.take j) i) left ∧ Fr D (l :: Av) H1 H', ?_, ?_⟩
        · refine ⟨_, rfl, o q0 v, _, rfl, .inl hlv, rfl, _, rfl, ?_⟩
          by_cases h0 : (addB B q0 (vs.take j) i q0 v) = []
          · refine ite_t (by rw [h0]; rfl) ?_
            obtain ⟨ns, hd1, hd2⟩ := S3.dead
            have hqn : q0 < ns.length := by omega
            refine ⟨_, rfl, D.sp, dx, _, _, rfl, hsp, by kernel_rfl, _, rfl, D.dd, _, q0, _, rfl, rfl, SqL.of hd1, by rw [List.getElem?_map, List.getElem?_eq_getElem hqn]; rfl, _, _, rfl, rfl, D.dd, _, q0, q0, rfl, rfl, hd1, ixN_nat (by simpa using hqn), rfl, ?_⟩
            rw [← List.map_set]
            exact ⟨S3.upd4W W m4dd _, S3.dead' A1 (by simpa using hd2), f3.trans (Fr.m4 m4dd)⟩
          · refine ite_f (by simpa using h0) ?_
            exact ⟨rfl, W, S3, f3⟩
        · rintro σ' H' ⟨rfl, W, S3, f3⟩
          have hlv := (W.2.2.1 q0 hq v hv).1
          have hbl := hBl v
          have ebj : addB B q0 (vs.take j) i q0 v = B q0 v := by rw [addB_at, if_neg hvn]
          refine ⟨_, rfl, .inl ⟨rfl, _, SqL.of hlv⟩, _, rfl, o q0 v, _, _, rfl, rfl, hlv, by rw [List.length_map, ebj, sizeLine_eq]; omega, _, _, rfl, ?_⟩
          have et : vs.take (j + 1) = vs.take j ++ [v] := by rw [List.take_add_one, ev]; rfl
          obtain ⟨g1, g2, g3⟩ := S3.bars' W hq hv (addB B q0 (vs.take j) i q0 v ++ [i])
          rw [addB_snoc B q0 i hvn, ← et] at g1
          have en : natsV (addB B q0 (vs.take j) i q0 v ++ [i]) = ((addB B q0 (vs.take j) i q0 v).map fun (i : Nat) => V.int (i : Int)) ++ [V.int (i : Int)] := by simp [natsV]
          rw [en] at g1 g3
          exact ⟨g1, f3.trans g3⟩
    · rintro σ H2 ⟨v3, v4, rfl, S2, f2⟩
      rw [List.take_of_length_le (by simp)] at S2
      exact q _ S2.weak (f1.trans f2).weak

abbrev s_Asking_unbar : Stmt := inClass (top 36) 4
def sp_Asking_unbar (P : Program) (w : World) (cT cR cA : Addr) : Sp := fun vs H Q _ => ∃ (F : Hp) (L : Lots) (r : Nat) (D : Ads) (Av : List Addr) (told : List (Option Int)) (B : Nat → Int → List Nat) (left : List Int) (i q : Nat), vs = [.ref D.sp, .int i, .int q] ∧ Asked P w cT cR cA F L r D ∧ AskSt F L r D Av H told (addB B q (barredL L r told i q) i) left ∧ i < mR L r ∧ q < nP L r ∧
  ∀ H', AskSt F L r D Av H' told B left → Fr D Av H H' → Q .non H'
theorem ok_Asking_unbar {f : Addr} {fd : FuncData} (F : Fun K "unbar" "Asking.unbar" s_Asking_unbar f fd) (T : Txt K mg cT cR cS cA) (G_barred : Me P w K mg base 1 cA "barred" ["self", "number", "pair"] (sp_Asking_barred P w cT cR cA)) : FnOk P w K mg base CX0 2 f fd ["self", "number", "pair"] (sp_Asking_unbar P w cT cR cA) := by
  have sc : FnScope ["self", "number", "pair", "integer"] ["self", "number", "pair"] (defScope s_Asking_unbar) := sc_by (by decide +kernel)
  refine F.ok sc (fun vs H Q E h => ?_) (fun cdv A outer s H vs Q E hr h => ?_)
  · obtain ⟨_, _, _, _, _, _, _, _, _, _, rfl, _⟩ := h; rfl
  · obtain ⟨F, L, r, D, Av, told, B, left, i, q0, rfl, A1, S, hi, hq, q⟩ := h
    have hu := hu9 hr
    have hu65 := hu65 hr
    have hu1 := hu1_of hr
    refine ⟨_, (pss_one (ps_for PassesOwn.never rfl (pi_list (pe_me G_barred T.clA (hr.mono (by decide)) (pv 0) (pa_cons (pv 1) (pa_cons (pv 2) pa_nil)))) (pg_name (i := 3) sc.nd rfl (Or.inl rfl) (Or.inl rfl))
        (C8.pss_cut (ps_expr (pe_bm0 PySem.F.plainAttrs_list PySem.F.slot_list_pop PySem.F.type_list_pop mt_pop (pe_dget hu1 (pe_ix ixl (pe_fl T.clA T.nA_bars (pv 0)) (pv 2) (fun _ _ => rfl)) (pv 3) (fun _ _ => rfl))))
          (pss_one (ps_if (pt_cmpR op_eq (pe_callB lenF (by rfl) T.len (by decide +kernel) (pa_cons (pe_dget hu1 (pe_ix ixl (pe_fl T.clA T.nA_bars (pv 0)) (pv 2) (fun _ _ => rfl)) (pv 3) (fun _ _ => rfl)) pa_nil)) pe_int (nomark _))
            (pss_one (ps_augS (pe_fl T.clA T.nA_dead (pv 0)) (pv 2) get_list pe_int ip_sub set_list))
            pss_nil))))), ?_⟩
    obtain ⟨dx, hins⟩ := A1.ins
    refine ⟨_, rfl, D.sp, dx, _, rfl, S.same _ _ hins, by kernel_rfl, _, rfl, _, rfl, F, L, r, D, Av, told, _, left, i, q0, rfl, A1, S, hi, hq, fun l H1 s1 hl hl1 => ?_⟩
    have S1 := S.avoid hl s1 hl1
    have f1 : Fr D (l :: Av) H H1 := Fr.of_same s1
    have hbd : ∀ v ∈ barredL L r told i q0, 0 ≤ v ∧ v ≤ 2 := barredL_bd
    have hnd := barredL_nodup L r told i q0
    generalize barredL L r told i q0 = vs at hl1 S1 hbd hnd
    have nl4 : l ∉ D.m4 := fun h => by obtain ⟨ys, e⟩ := S.at4 h; rw [hl] at e; cases e
    have nlb : l ∉ D.bds := fun h => by obtain ⟨ys, e⟩ := S.bd h; rw [hl] at e; cases e
    obtain ⟨bq, ebq⟩ : ∃ bq, D.bds[q0]? = some bq := ⟨_, List.getElem?_eq_getElem (by rw [A1.bdn]; exact hq)⟩
    refine ⟨l, rfl, ⟨_, SqL.of hl1⟩, for_it walkL (fun j σ H' => ∃ v3, σ = [some (.ref D.sp), some (.int i), some (.int q0), v3] ∧ AskSt F L r D (l :: Av) H' told (addB B q0 (vs.drop j) i) left ∧ Fr D (l :: Av) H1 H') ⟨none, rfl, by rw [List.drop_zero]; exact S1, Fr.refl _ _ _⟩ (fun j σ H' _ ⟨_, _, _, f⟩ => f l _ hl1 nl4 nlb (.inl (List.mem_cons_self))) ?_ ?_⟩
    · rintro j x σ H2' H2 hj ⟨v3, rfl, S2, f2⟩ ⟨rfl, hx⟩
      rw [List.getElem?_map] at hx
      obtain ⟨v, ev, rfl⟩ := Option.map_eq_some_iff.mp hx
      have hjv := (List.getElem?_eq_some_iff.mp ev)
      obtain ⟨hjl, hje⟩ := hjv
      have ed : vs.drop j = v :: vs.drop (j + 1) := by rw [List.drop_eq_getElem_cons hjl, hje]
      have hvn : v ∉ vs.drop (j + 1) := fun h => by
        have := hnd.sublist (List.drop_sublist j vs)
        rw [ed] at this
        exact (List.nodup_cons.mp this).1 h
      obtain ⟨ks, o, W⟩ := S2.bars
      have hbq := W.1 q0 bq ebq
      have hsp := S2.same _ _ hins
      have eB : addB B q0 (vs.drop j) i q0 v = B q0 v ++ [i] := by rw [addB_at, ed, if_pos (by simp)]
      have hin : v ∈ ks q0 := Classical.byContradiction fun h => by
        have := W.2.2.2.1 q0 v h
        rw [eB] at this; simp at this
      have hlv := (W.2.2.1 q0 hq v hin).1
      have hget : DGet H2 bq (.int v) (some (.ref (o q0 v))) := by
        have := DGet.k (k := .inl v) hbq
        rw [valV_dk, if_pos hin] at this
        exact this
      obtain ⟨g1, g2, g3⟩ := S2.bars' W hq hin (B q0 v)
      rw [ed, addB_pop B q0 i hvn] at g1 g2
      refine ⟨fun σ' H' => σ' = [some (.ref D.sp), some (.int i), some (.int q0), some (.int v)] ∧ BarsW F L r D (l :: Av) H' (addB B q0 (vs.drop (j + 1)) i) ks o ∧ AskSt F L r D (l :: Av) H' told (addB B q0 (vs.drop (j + 1)) i) left ∧ Fr D (l :: Av) H1 H', ?_, ?_⟩
      · refine ⟨_, rfl, D.sp, dx, _, _, rfl, hsp, by kernel_rfl, _, rfl, D.ab, _, q0, .ref bq, rfl, rfl, S2.same _ _ A1.bars, by rw [List.getElem?_map, ebq]; rfl, _, rfl, bq, _, rfl, hget, .inl ⟨rfl, _, SqL.of hlv⟩, o q0 v, _, .int i, rfl, rfl, hlv, ?_, rfl, ?_⟩
        · rw [eB]; simp
        · have en : (((addB B q0 (vs.drop j) i q0 v).map fun (i : Nat) => V.int (i : Int))).dropLast = natsV (B q0 v) := by rw [eB]; simp [natsV]
          rw [en]
          exact ⟨g2, g1, f2.trans g3⟩
      · rintro σ' H' ⟨rfl, W, S3, f3⟩
        have hlv := (W.2.2.1 q0 hq v hin).1
        have hsp := S3.same _ _ hins
        have hbq := W.1 q0 bq ebq
        have hget : DGet H' bq (.int v) (some (.ref (o q0 v))) := by
          have := DGet.k (k := .inl v) hbq
          rw [valV_dk, if_pos hin] at this
          exact this
        refine ⟨_, rfl, D.sp, dx, _, _, rfl, hsp, by kernel_rfl, _, rfl, D.ab, _, q0, .ref bq, rfl, rfl, S3.same _ _ A1.bars, by rw [List.getElem?_map, ebq]; rfl, _, rfl, bq, _, rfl, hget, o q0 v, _, rfl, .inl hlv, rfl, _, rfl, ?_⟩
        by_cases h0 : (addB B q0 (vs.drop (j + 1)) i q0 v) = []
        · refine ite_t (by rw [h0]; rfl) ?_
          obtain ⟨ns, hd1, hd2⟩ := S3.dead
          have hqn : q0 < ns.length := by omega
          refine ⟨_, rfl, D.sp, dx, _, _, rfl, hsp, by kernel_rfl, _, rfl, D.dd, _, q0, _, rfl, rfl, SqL.of hd1, by rw [List.getElem?_map, List.getElem?_eq_getElem hqn]; rfl, _, _, rfl, rfl, D.dd, _, q0, q0, rfl, rfl, hd1, ixN_nat (by simpa using hqn), _, rfl, ?_⟩
          rw [← List.map_set]
          exact ⟨S3.dead' A1 (by simpa using hd2), f3.trans (Fr.m4 m4dd)⟩
        · refine ite_f (by simpa using h0) ?_
          exact ⟨_, rfl, S3, f3⟩
    · rintro σ H2 ⟨v3, rfl, S2, f2⟩
      rw [List.drop_of_length_le (by simp), addB_nil] at S2
      exact q _ S2.weak (f1.trans f2).weak

end
end
end S1

/-! LB: put and take back -/
namespace S1
open PySem L2
def openN (L : Lots) (r : Nat) (told : List (Option Int)) (i : Nat) : Int := ((openL L r told i).length : Int)
def leftOf (L : Lots) (r : Nat) (told : List (Option Int)) : List Int := (List.range (mR L r)).map (openN L r told)
def leftMix (L : Lots) (r : Nat) (a b : List (Option Int)) (S : List Nat) : List Int := (List.range (mR L r)).map fun i => if i ∈ S then openN L r a i else openN L r b i
def stepB (L : Lots) (r : Nat) (told : List (Option Int)) (B : Nat → Int → List Nat) (i : Nat) : Nat → Int → List Nat :=
  if (openL L r told i).length = 1 then addB B ((openL L r told i).headD 0) (barredL L r told i ((openL L r told i).headD 0)) i else B
def putB (L : Lots) (r : Nat) (told : List (Option Int)) (B : Nat → Int → List Nat) (q : Nat) : Nat → Int → List Nat := (placesL L r q).foldl (stepB L r told) B
theorem leftMix_nil (L : Lots) (r : Nat) (a b : List (Option Int)) : leftMix L r a b [] = leftOf L r b := by simp [leftMix, leftOf]
theorem leftMix_len (L : Lots) (r : Nat) (a b : List (Option Int)) (S : List Nat) : (leftMix L r a b S).length = mR L r := by simp [leftMix]
theorem leftMix_at {L : Lots} {r : Nat} {a b : List (Option Int)} {S : List Nat} {i : Nat} (h : i < mR L r) : (leftMix L r a b S)[i]? = some (if i ∈ S then openN L r a i else openN L r b i) := by
  simp [leftMix, h]
theorem leftMix_set {L : Lots} {r : Nat} {a b : List (Option Int)} {S S' : List Nat} {i : Nat} (h : ∀ x, x ∈ S' ↔ x ∈ S ∨ x = i) : (leftMix L r a b S).set i (openN L r a i) = leftMix L r a b S' := by
  apply List.ext_getElem
  · simp [leftMix]
  · intro j h1 h2
    rw [List.getElem_set]
    simp only [leftMix, List.getElem_map, List.getElem_range]
    by_cases e : i = j
    · subst e
      rw [if_pos rfl, if_pos ((h i).mpr (.inr rfl))]
    · rw [if_neg e]
      have : (j ∈ S') ↔ j ∈ S := ⟨fun z => ((h j).mp z).resolve_right (fun e' => e e'.symm), fun z => (h j).mpr (.inl z)⟩
      by_cases c : j ∈ S
      · rw [if_pos c, if_pos (this.mpr c)]
      · rw [if_neg c, if_neg fun z => c (this.mp z)]
theorem placesL_mem {L : Lots} {r q i : Nat} : i ∈ placesL L r q ↔ i < mR L r ∧ q ∈ ixAt L r i := by
  unfold placesL placesUp
  rw [List.mem_filter, List.mem_range]; simp
theorem placesL_nodup (L : Lots) (r q : Nat) : (placesL L r q).Nodup := List.Nodup.sublist List.filter_sublist List.nodup_range
theorem placesL_len (L : Lots) (r q : Nat) : (placesL L r q).length ≤ mR L r := placesUp_len _ _ _ _
theorem getD_set {α : Type} {l : List α} {q j : Nat} {x d : α} (h : q < l.length) : (l.set q x).getD j d = if j = q then x else l.getD j d := by
  rw [List.getD_eq_getElem?_getD, List.getElem?_set]
  by_cases e : q = j
  · subst e; simp [h]
  · have : ¬ j = q := fun z => e z.symm
    simp [e, this]
theorem open_out {L : Lots} {r q i : Nat} {told : List (Option Int)} {x : Option Int} (hq : q < told.length) (h : q ∉ ixAt L r i) : openL L r (told.set q x) i = openL L r told i := by
  unfold openL
  refine List.filter_congr fun j hj => ?_
  rw [getD_set hq, if_neg fun z : j = q => h (z ▸ hj)]
theorem filter_ne_len {l : List Nat} {q : Nat} : l.Nodup → q ∈ l → (l.filter fun j => decide (j ≠ q)).length + 1 = l.length := by
  induction l with
  | nil => intro _ h; cases h
  | cons a l ih =>
    intro hn hm
    have hn' := List.nodup_cons.mp hn
    by_cases e : a = q
    · subst e
      have : (l.filter fun j => decide (j ≠ a)) = l := List.filter_eq_self.mpr fun j hj => by simp; exact fun z => hn'.1 (z ▸ hj)
      simp only [List.filter_cons, ne_eq, not_true_eq_false, decide_false, Bool.false_eq_true, if_false, List.length_cons]
      show (l.filter fun j => decide (j ≠ a)).length + 1 = _
      rw [this]
    · have hm' : q ∈ l := by
        rcases List.mem_cons.mp hm with h | h
        · exact absurd h.symm e
        · exact h
      have := ih hn'.2 hm'
      simp [e] at this ⊢
      omega
theorem open_in' {L : Lots} {r q i : Nat} {told : List (Option Int)} {v : Int} (hq : q < told.length) : openL L r (told.set q (some v)) i = (openL L r told i).filter fun j => decide (j ≠ q) := by
  unfold openL
  rw [List.filter_filter]
  refine List.filter_congr fun j hj => ?_
  rw [getD_set hq]
  by_cases e : j = q
  · simp [e]
  · simp [e]
theorem open_len {L : Lots} {r q i : Nat} {told : List (Option Int)} {v : Int} (hL : LotsOk L) (hi : i < mR L r) (hq : q < told.length) (hn : told.getD q none = none) (h : q ∈ ixAt L r i) : openN L r told i = openN L r (told.set q (some v)) i + 1 := by
  obtain ⟨u, eu, hu⟩ := run_at hi
  have hnd : (ixAt L r i).Nodup := by rw [ixAt_of eu]; exact ixOf_nodup hu
  have hm : q ∈ openL L r told i := by
    unfold openL
    rw [List.mem_filter]
    exact ⟨h, by rw [hn]; rfl⟩
  have e := filter_ne_len (q := q) (show (openL L r told i).Nodup from hnd.sublist List.filter_sublist) hm
  unfold openN
  rw [open_in' hq, ← e]
  push_cast; rfl
theorem leftMix_all {L : Lots} {r q : Nat} {told : List (Option Int)} {x : Option Int} (hq : q < told.length) : leftMix L r (told.set q x) told (placesL L r q) = leftOf L r (told.set q x) := by
  unfold leftMix leftOf
  refine List.map_congr_left fun i hi => ?_
  by_cases c : i ∈ placesL L r q
  · rw [if_pos c]
  · rw [if_neg c]
    have : q ∉ ixAt L r i := fun h => c (placesL_mem.mpr ⟨List.mem_range.mp hi, h⟩)
    unfold openN
    rw [open_out hq this]
theorem stepB_len {L : Lots} {r : Nat} {told : List (Option Int)} {B : Nat → Int → List Nat} {i c : Nat} (h : ∀ q v, (B q v).length ≤ c) : ∀ q v, (stepB L r told B i q v).length ≤ c + 1 := by
  intro q v
  have := h q v
  unfold stepB
  split
  · unfold addB
    split
    · simp; omega
    · omega
  · omega
theorem foldB_len {L : Lots} {r : Nat} {told : List (Option Int)} : ∀ {is : List Nat} {B : Nat → Int → List Nat} {c : Nat} (h : ∀ q v, (B q v).length ≤ c), ∀ q v, (is.foldl (stepB L r told) B q v).length ≤ c + is.length
  | [], B, c, h => h
  | i :: is, B, c, h => fun q v => by
    have := foldB_len (L := L) (r := r) (told := told) (is := is) (stepB_len (L := L) (r := r) (told := told) (i := i) h) q v
    simp only [List.foldl_cons, List.length_cons]; omega
section
variable {P : Program} {w : World} {K : PySem.W.Frag} {mg : Str → Option Value} {base : Heap} {cT cR cS cA : Addr}
theorem open_lt {L : Lots} {r i : Nat} {told : List (Option Int)} (hi : i < mR L r) : ∀ q ∈ openL L r told i, q < nP L r := fun q hq => by
  obtain ⟨u, eu, hu⟩ := run_at hi
  have := (List.mem_filter.mp hq).1
  rw [ixAt_of eu] at this
  exact ixOf_lt hu q this
abbrev s_Asking_put : Stmt := inClass (top 36) 5
def sp_Asking_put (P : Program) (w : World) (cT cR cA : Addr) : Sp := fun vs H Q _ => ∃ (F : Hp) (L : Lots) (r : Nat) (D : Ads) (Av : List Addr) (told : List (Option Int)) (B : Nat → Int → List Nat) (q : Nat) (v : Int), vs = [.ref D.sp, .int q, .int v] ∧ Asked P w cT cR cA F L r D ∧ AskSt F L r D Av H told B (leftOf L r told) ∧ q < nP L r ∧ told.getD q none = none ∧
  (∀ q v, (B q v).length ≤ 900000) ∧ ∀ H', AskSt F L r D Av H' (told.set q (some v)) (putB L r (told.set q (some v)) B q) (leftOf L r (told.set q (some v))) → Fr D Av H H' → Q .non H'
theorem ok_Asking_put {f : Addr} {fd : FuncData} (F : Fun K "put" "Asking.put" s_Asking_put f fd) (T : Txt K mg cT cR cS cA) (G_open_in : Me P w K mg base 1 cA "open_in" ["self", "number"] (sp_Asking_open_in P w cT cR cA)) (G_bar : Me P w K mg base 2 cA "bar" ["self", "number", "pair"] (sp_Asking_bar P w cT cR cA)) : FnOk P w K mg base CX0 3 f fd ["self", "pair", "integer"] (sp_Asking_put P w cT cR cA) := by
  have sc : FnScope ["self", "pair", "integer", "number", "some", "other"] ["self", "pair", "integer"] (defScope s_Asking_put) := sc_by (by decide +kernel)
  refine F.ok sc (fun vs H Q E h => ?_) (fun cdv A outer s H vs Q E hr h => ?_)
  · obtain ⟨_, _, _, _, _, _, _, _, _, rfl, _⟩ := h; rfl
  · obtain ⟨F, L, r, D, Av, told, B, q0, v0, rfl, A1, S, hq, hn, hBl, q⟩ := h
    have hu := hu9 hr
    have hu65 := hu65 hr
    have hu1 := hu1_of hr
    refine ⟨_, (pss_cons (ps_asg (pv 2) (pg_sub (pe_fl T.clA T.nA_told (pv 0)) (pv 1) set_list))
      (pss_one (ps_for PassesOwn.never rfl (pi_list (pe_ix ixl (pe_fl T.clA T.nA_places (pv 0)) (pv 1) (fun _ _ => rfl))) (pg_name (i := 3) sc.nd rfl (Or.inl rfl) (Or.inl rfl))
        (pss_cons (ps_augS (pe_fl T.clA T.nA_left (pv 0)) (pv 3) get_list pe_int ip_sub set_list)
          (pss_cons (ps_set (i := 4) sc.nd rfl (Or.inl rfl) (pe_me G_open_in T.clA (hr.mono (by decide)) (pv 0) (pa_cons (pv 3) pa_nil)))
          (pss_one (ps_if (pt_cmpR op_eq (pe_ix ixl (pe_fl T.clA T.nA_left (pv 0)) (pv 3) (fun _ _ => rfl)) pe_int (nomark _))
            (pss_one (ps_for PassesOwn.never rfl (pi_list (pv 4)) (pg_name (i := 5) sc.nd rfl (Or.inl rfl) (Or.inl rfl))
                (pss_one (ps_augS (pe_fl T.clA T.nA_near (pv 0)) (pv 5) get_list pe_int ip_add set_list))))
            (pss_one (ps_if (pt_cmpR op_eq (pe_ix ixl (pe_fl T.clA T.nA_left (pv 0)) (pv 3) (fun _ _ => rfl)) pe_int (nomark _))
                (pss_cons (ps_augS (pe_fl T.clA T.nA_near (pv 0)) (pv 1) get_list pe_int ip_sub set_list)
                  (pss_cons (ps_augS (pe_fl T.clA T.nA_near (pv 0)) (pe_ix ixl (pv 4) pe_int (fun _ _ => rfl)) get_list pe_int ip_sub set_list)
                  (pss_one (ps_expr (pe_me G_bar T.clA (hr.mono (by decide)) (pv 0) (pa_cons (pv 3) (pa_cons (pe_ix ixl (pv 4) pe_int (fun _ _ => rfl)) pa_nil)))))))
                pss_nil))))))))), ?_⟩
    obtain ⟨dx, hins⟩ := A1.ins
    have htl := S.tln
    have hmR := mR_le A1.ok A1.r1
    obtain ⟨bp, ebp⟩ : ∃ bp, D.pls[q0]? = some bp := ⟨_, List.getElem?_eq_getElem (by rw [A1.pln]; exact hq)⟩
    have hpl := A1.plv q0 bp ebp
    have hpn := placesL_nodup L r q0
    have hpm : ∀ i, i ∈ placesL L r q0 → i < mR L r ∧ q0 ∈ ixAt L r i := fun i h => placesL_mem.mp h
    have hplen := placesL_len L r q0
    have hall := leftMix_all (L := L) (r := r) (q := q0) (told := told) (x := some v0) (by omega)
    have hopl : ∀ i, i ∈ placesL L r q0 → openN L r told i = openN L r (told.set q0 (some v0)) i + 1 := fun i h => open_len A1.ok (hpm i h).1 (by omega) hn (hpm i h).2
    have S0 := S.told' A1 (ts := told.set q0 (some v0)) (by simpa using htl)
    rw [List.map_set] at S0
    generalize htd : told.set q0 (some v0) = td at q hall hopl S0
    unfold putB at q
    generalize placesL L r q0 = pl at hpl hpn hpm hplen hall hopl q
    refine ⟨_, rfl, _, rfl, D.sp, dx, _, _, rfl, S.same _ _ hins, by kernel_rfl, _, rfl, D.tl, _, q0, q0, rfl, rfl, S.told_, ixN_nat (by simp; omega), ?_⟩
    refine ⟨_, rfl, D.sp, dx, _, _, rfl, S0.same _ _ hins, by kernel_rfl, _, rfl, D.ap, _, q0, .ref bp, rfl, rfl, S0.same _ _ A1.plc, by rw [List.getElem?_map, ebp]; rfl, bp, rfl, ⟨_, SqL.of (S0.same _ _ hpl)⟩, for_it walkL (fun j σ H' => ∃ v3 v4 v5, σ = [some (.ref D.sp), some (.int q0), some (.int v0), v3, v4, v5] ∧ AskSt F L r D Av H' td ((pl.take j).foldl (stepB L r td) B) (leftMix L r td told (pl.take j)) ∧ Fr D Av H H') ⟨none, none, none, rfl, by rw [List.take_zero, leftMix_nil]; exact S0, Fr.m4 m4tl⟩ (fun j σ H' _ ⟨_, _, _, _, S, _⟩ => S.same _ _ hpl) ?_ ?_⟩
    · rintro j x σ H2' H2 hj ⟨v3, v4, v5, rfl, S2, f2⟩ ⟨rfl, hx⟩
      rw [List.getElem?_map] at hx
      obtain ⟨i, ei, rfl⟩ := Option.map_eq_some_iff.mp hx
      have him := List.mem_of_getElem? ei
      have hi := (hpm i him).1
      have hin : i ∉ pl.take j := fun h => by obtain ⟨j', h1, h2⟩ := at_take h; have := nodup_at hpn h2 ei; omega
      have et : pl.take (j + 1) = pl.take j ++ [i] := by rw [List.take_add_one, ei]; rfl
      have hsp := S2.same _ _ hins
      have eset := leftMix_set (L := L) (r := r) (a := td) (b := told) (S := pl.take j) (S' := pl.take (j + 1)) (i := i) (fun x => by rw [et]; simp)
      have eat := leftMix_at (L := L) (r := r) (a := td) (b := told) (S := pl.take j) hi
      rw [if_neg hin, hopl i him] at eat
      have S3 := S2.left' A1 (ns := leftMix L r td told (pl.take (j + 1))) (leftMix_len _ _ _ _ _)
      have f3 : Fr D Av H (upd H2 D.lf (.lst ((leftMix L r td told (pl.take (j + 1))).map V.int))) := f2.trans (Fr.m4 m4lf)
      refine ⟨_, rfl, D.sp, dx, _, _, rfl, hsp, by kernel_rfl, _, rfl, D.lf, _, i, _, rfl, rfl, SqL.of S2.left_, by rw [List.getElem?_map, eat]; rfl, _, _, rfl, rfl, D.lf, _, i, i, rfl, rfl, S2.left_, ixN_nat (by rw [List.length_map, leftMix_len]; exact hi), ?_⟩
      have e5 : ((leftMix L r td told (pl.take j)).map V.int).set i (V.int ((fun (i j : Int) => i - j) (openN L r td i + 1) 1)) = (leftMix L r td told (pl.take (j + 1))).map V.int := by
        show ((leftMix L r td told (pl.take j)).map V.int).set i (V.int (openN L r td i + 1 - 1)) = _
        rw [show (openN L r td i + 1 - 1) = openN L r td i by omega, ← List.map_set, eset]
      rw [e5]
      generalize upd H2 D.lf (.lst ((leftMix L r td told (pl.take (j + 1))).map V.int)) = H3 at S3 f3
      have hsp3 := S3.same _ _ hins
      refine ⟨_, rfl, D.sp, dx, _, rfl, hsp3, by kernel_rfl, _, rfl, F, L, r, D, Av, td, _, _, i, rfl, A1, S3, hi, fun lo H4 s4 zlo hlo => ?_⟩
      have S4 := S3.mono s4
      have f4 : Fr D Av H H4 := f3.trans (Fr.of_same s4)
      have hsp4 := S4.same _ _ hins
      have eat4 : (leftMix L r td told (pl.take (j + 1)))[i]? = some (openN L r td i) := by rw [leftMix_at hi, if_pos (by rw [et]; simp)]
      have hBj := foldB_len (L := L) (r := r) (told := td) (is := pl.take j) hBl
      have hfold : (pl.take (j + 1)).foldl (stepB L r td) B = stepB L r td ((pl.take j).foldl (stepB L r td) B) i := by rw [et, List.foldl_append]; rfl
      have holt := open_lt (L := L) (r := r) (told := td) hi
      rw [hfold]
      generalize (pl.take j).foldl (stepB L r td) B = Bj at S4 hBj
      unfold stepB
      have eN : openN L r td i = ((openL L r td i).length : Int) := rfl
      generalize openL L r td i = ol at hlo holt eN
      refine ⟨_, rfl, D.sp, dx, _, _, rfl, hsp4, by kernel_rfl, _, rfl, D.lf, _, i, _, rfl, rfl, S4.left_, by rw [List.getElem?_map, eat4]; rfl, rfl, _, rfl, ?_⟩
      rw [eN]
      by_cases c2 : ol.length = 2
      · refine ite_t (by rw [c2]; rfl) ?_
        rw [if_neg (by omega)]
        have nlo4 : lo ∉ D.m4 := fun h => by obtain ⟨ys, e⟩ := S3.at4 h; rw [zlo] at e; cases e
        refine ⟨_, rfl, lo, rfl, ⟨_, SqL.of hlo⟩, for_it walkL (fun k σ H' => ∃ v5, σ = [some (.ref D.sp), some (.int q0), some (.int v0), some (.int i), some (.ref lo), v5] ∧ AskSt F L r D Av H' td Bj (leftMix L r td told (pl.take (j + 1))) ∧ Fr D Av H H' ∧ H' lo = some (.lst (ol.map fun (j : Nat) => V.int (j : Int)))) ⟨v5, rfl, S4, f4, hlo⟩ (fun k σ H' _ ⟨_, _, _, _, h⟩ => h) ?_ ?_⟩
        · rintro k x σ H5' H5 hk ⟨v5, rfl, S5, f5, hlo5⟩ ⟨rfl, hx⟩
          rw [List.getElem?_map] at hx
          obtain ⟨q1, eq1, rfl⟩ := Option.map_eq_some_iff.mp hx
          have hq1 := holt q1 (List.mem_of_getElem? eq1)
          obtain ⟨ns, hd1, hd2⟩ := S5.near
          have hqn : q1 < ns.length := by omega
          refine ⟨_, rfl, D.sp, dx, _, _, rfl, S5.same _ _ hins, by kernel_rfl, _, rfl, D.nl, _, q1, _, rfl, rfl, SqL.of hd1, by rw [List.getElem?_map, List.getElem?_eq_getElem hqn]; rfl, _, _, rfl, rfl, D.nl, _, q1, q1, rfl, rfl, hd1, ixN_nat (by simpa using hqn), _, rfl, ?_⟩
          rw [← List.map_set]
          exact ⟨S5.near' A1 (by simpa using hd2), f5.trans (Fr.m4 m4nl), by rw [upd_ne (fun z => nlo4 (by rw [z]; exact m4nl))]; exact hlo5⟩
        · rintro σ H5 ⟨v5, rfl, S5, f5, hlo5⟩
          exact ⟨_, _, _, rfl, S5, f5⟩
      · refine ite_f (by simp; omega) ?_
        refine ⟨_, rfl, D.sp, dx, _, _, rfl, hsp4, by kernel_rfl, _, rfl, D.lf, _, i, _, rfl, rfl, S4.left_, by rw [List.getElem?_map, eat4]; rfl, rfl, _, rfl, ?_⟩
        rw [eN]
        by_cases c1 : ol.length = 1
        · refine ite_t (by rw [c1]; rfl) ?_
          rw [if_pos c1]
          obtain ⟨q1, rfl⟩ : ∃ q1, ol = [q1] := by
            match ol, c1 with
            | [q1], _ => exact ⟨q1, rfl⟩
          have hq1 := holt q1 (by simp)
          have nlo4 : lo ∉ D.m4 := fun h => by obtain ⟨ys, e⟩ := S3.at4 h; rw [zlo] at e; cases e
          have nlo : lo ≠ D.nl := fun z => nlo4 (by rw [z]; exact m4nl)
          obtain ⟨ns, hd1, hd2⟩ := S4.near
          have hqn : q0 < ns.length := by omega
          refine ⟨_, rfl, D.sp, dx, _, _, rfl, hsp4, by kernel_rfl, _, rfl, D.nl, _, q0, _, rfl, rfl, SqL.of hd1, by rw [List.getElem?_map, List.getElem?_eq_getElem hqn]; rfl, _, _, rfl, rfl, D.nl, _, q0, q0, rfl, rfl, hd1, ixN_nat (by simpa using hqn), ?_⟩
          rw [← List.map_set]
          have S5 := S4.near' A1 (ns := ns.set q0 (ns[q0] - 1)) (by simpa using hd2)
          have f5 : Fr D Av H (upd H4 D.nl (.lst ((ns.set q0 (ns[q0] - 1)).map V.int))) := f4.trans (Fr.m4 m4nl)
          have hlo5 : (upd H4 D.nl (.lst ((ns.set q0 (ns[q0] - 1)).map V.int))) lo = some (.lst [.int (q1 : Nat)]) := by rw [upd_ne nlo]; exact hlo
          generalize upd H4 D.nl (.lst ((ns.set q0 (ns[q0] - 1)).map V.int)) = H5 at S5 f5 hlo5
          obtain ⟨ns5, hd51, hd52⟩ := S5.near
          have hqn5 : q1 < ns5.length := by omega
          refine ⟨_, rfl, D.sp, dx, _, _, rfl, S5.same _ _ hins, by kernel_rfl, _, rfl, lo, _, 0, _, rfl, rfl, hlo5, rfl, D.nl, _, q1, _, rfl, rfl, SqL.of hd51, by rw [List.getElem?_map, List.getElem?_eq_getElem hqn5]; rfl, _, _, rfl, rfl, D.nl, _, q1, q1, rfl, rfl, hd51, ixN_nat (by simpa using hqn5), ?_⟩
          rw [← List.map_set]
          have S6 := S5.near' A1 (ns := ns5.set q1 (ns5[q1] - 1)) (by simpa using hd52)
          have f6 : Fr D Av H (upd H5 D.nl (.lst ((ns5.set q1 (ns5[q1] - 1)).map V.int))) := f5.trans (Fr.m4 m4nl)
          have hlo6 : (upd H5 D.nl (.lst ((ns5.set q1 (ns5[q1] - 1)).map V.int))) lo = some (.lst [.int (q1 : Nat)]) := by rw [upd_ne nlo]; exact hlo5
          generalize upd H5 D.nl (.lst ((ns5.set q1 (ns5[q1] - 1)).map V.int)) = H6 at S6 f6 hlo6
          refine ⟨_, rfl, D.sp, dx, _, rfl, S6.same _ _ hins, by kernel_rfl, _, rfl, _, rfl, lo, _, 0, _, rfl, rfl, hlo6, rfl, F, L, r, D, Av, td, Bj, _, i, q1, rfl, A1, S6, hi, hq1, fun v => by have := hBj q1 v; have h2 : (pl.take j).length ≤ pl.length := (by rw [List.length_take]; omega); omega, fun H7 S7 f7 => ?_⟩
          exact ⟨_, _, _, rfl, S7, f6.trans f7⟩
        · refine ite_f (by simp; omega) ?_
          rw [if_neg c1]
          exact ⟨_, _, _, rfl, S4, f4⟩
    · rintro σ H2 ⟨v3, v4, v5, rfl, S2, f2⟩
      rw [List.take_of_length_le (by simp), hall] at S2
      exact q _ S2 f2

theorem set_back {told : List (Option Int)} {q : Nat} {v : Int} (hq : q < told.length) (hn : told.getD q none = none) : (told.set q (some v)).set q none = told := by
  apply List.ext_getElem?
  intro i
  rw [List.getElem?_set, List.getElem?_set]
  by_cases e : q = i
  · subst e
    rw [List.getD_eq_getElem?_getD, List.getElem?_eq_getElem hq] at hn
    simp [hq]
    simpa using hn.symm
  · simp [e]
abbrev s_Asking_take_back : Stmt := inClass (top 36) 6
def sp_Asking_take_back (P : Program) (w : World) (cT cR cA : Addr) : Sp := fun vs H Q _ => ∃ (F : Hp) (L : Lots) (r : Nat) (D : Ads) (Av : List Addr) (told : List (Option Int)) (B : Nat → Int → List Nat) (q : Nat) (v : Int), vs = [.ref D.sp, .int q] ∧ Asked P w cT cR cA F L r D ∧ AskSt F L r D Av H (told.set q (some v)) (putB L r (told.set q (some v)) B q) (leftOf L r (told.set q (some v))) ∧ q < nP L r ∧ told.getD q none = none ∧
  ∀ H', AskSt F L r D Av H' told B (leftOf L r told) → Fr D Av H H' → Q .non H'
theorem ok_Asking_take_back {f : Addr} {fd : FuncData} (F : Fun K "take_back" "Asking.take_back" s_Asking_take_back f fd) (T : Txt K mg cT cR cS cA) (G_open_in : Me P w K mg base 1 cA "open_in" ["self", "number"] (sp_Asking_open_in P w cT cR cA)) (G_unbar : Me P w K mg base 2 cA "unbar" ["self", "number", "pair"] (sp_Asking_unbar P w cT cR cA)) : FnOk P w K mg base CX0 3 f fd ["self", "pair"] (sp_Asking_take_back P w cT cR cA) := by
  have sc : FnScope ["self", "pair", "number", "some", "other"] ["self", "pair"] (defScope s_Asking_take_back) := sc_by (by decide +kernel)
  refine F.ok sc (fun vs H Q E h => ?_) (fun cdv A outer s H vs Q E hr h => ?_)
  · obtain ⟨_, _, _, _, _, _, _, _, _, rfl, _⟩ := h; rfl
  · obtain ⟨F, L, r, D, Av, told, B, q0, v0, rfl, A1, S, hq, hn, q⟩ := h
    have hu := hu9 hr
    have hu65 := hu65 hr
    have hu1 := hu1_of hr
    refine ⟨_, (pss_cons (ps_for PassesOwn.never rfl (pi_list (pe_revL (pe_ix ixl (pe_fl T.clA T.nA_places (pv 0)) (pv 1) (fun _ _ => rfl)))) (pg_name (i := 2) sc.nd rfl (Or.inl rfl) (Or.inl rfl))
        (pss_cons (ps_set (i := 3) sc.nd rfl (Or.inl rfl) (pe_me G_open_in T.clA (hr.mono (by decide)) (pv 0) (pa_cons (pv 2) pa_nil)))
          (C8.pss_cut (ps_if (pt_cmpR op_eq (pe_ix ixl (pe_fl T.clA T.nA_left (pv 0)) (pv 2) (fun _ _ => rfl)) pe_int (nomark _))
            (pss_one (ps_for PassesOwn.never rfl (pi_list (pv 3)) (pg_name (i := 4) sc.nd rfl (Or.inl rfl) (Or.inl rfl))
                (pss_one (ps_augS (pe_fl T.clA T.nA_near (pv 0)) (pv 4) get_list pe_int ip_sub set_list))))
            (pss_one (ps_if (pt_cmpR op_eq (pe_ix ixl (pe_fl T.clA T.nA_left (pv 0)) (pv 2) (fun _ _ => rfl)) pe_int (nomark _))
                (pss_cons (ps_expr (pe_me G_unbar T.clA (hr.mono (by decide)) (pv 0) (pa_cons (pv 2) (pa_cons (pe_ix ixl (pv 3) pe_int (fun _ _ => rfl)) pa_nil))))
                  (pss_cons (ps_augS (pe_fl T.clA T.nA_near (pv 0)) (pe_ix ixl (pv 3) pe_int (fun _ _ => rfl)) get_list pe_int ip_add set_list)
                  (pss_one (ps_augS (pe_fl T.clA T.nA_near (pv 0)) (pv 1) get_list pe_int ip_add set_list))))
                pss_nil)))
          (pss_one (ps_augS (pe_fl T.clA T.nA_left (pv 0)) (pv 2) get_list pe_int ip_add set_list)))))
      (pss_one (ps_asg pe_non (pg_sub (pe_fl T.clA T.nA_told (pv 0)) (pv 1) set_list)))), ?_⟩
    obtain ⟨dx, hins⟩ := A1.ins
    have htl : told.length = nP L r := by simpa using S.tln
    have hmR := mR_le A1.ok A1.r1
    obtain ⟨bp, ebp⟩ : ∃ bp, D.pls[q0]? = some bp := ⟨_, List.getElem?_eq_getElem (by rw [A1.pln]; exact hq)⟩
    have hpl := A1.plv q0 bp ebp
    have hpn := placesL_nodup L r q0
    have hpm : ∀ i, i ∈ placesL L r q0 → i < mR L r ∧ q0 ∈ ixAt L r i := fun i h => placesL_mem.mp h
    have hplen := placesL_len L r q0
    have hsb := set_back (v := v0) (show q0 < told.length by omega) hn
    have hall := leftMix_all (L := L) (r := r) (q := q0) (told := told.set q0 (some v0)) (x := none) (by simp; omega)
    rw [hsb] at hall
    have hopl : ∀ i, i ∈ placesL L r q0 → openN L r told i = openN L r (told.set q0 (some v0)) i + 1 := fun i h => open_len A1.ok (hpm i h).1 (by omega) hn (hpm i h).2
    generalize told.set q0 (some v0) = td at S hall hopl hsb
    unfold putB at S
    generalize placesL L r q0 = pl at hpl hpn hpm hplen hall hopl S
    refine ⟨_, rfl, D.sp, dx, _, _, rfl, S.same _ _ hins, by kernel_rfl, _, rfl, D.ap, _, q0, .ref bp, rfl, rfl, S.same _ _ A1.plc, by rw [List.getElem?_map, ebp]; rfl, bp, _, rfl, SqL.of (S.same _ _ hpl), fun l hl => ?_⟩
    have s1 : Same H (upd H l (.lst (pl.map fun (i : Nat) => V.int (i : Int)).reverse)) := same_upd _ hl
    have nl4 : l ∉ D.m4 := fun h => by obtain ⟨ys, e⟩ := S.at4 h; rw [hl] at e; cases e
    have nlb : l ∉ D.bds := fun h => by obtain ⟨ys, e⟩ := S.bd h; rw [hl] at e; cases e
    have hl1 : (upd H l (.lst (pl.map fun (i : Nat) => V.int (i : Int)).reverse)) l = some (.lst (pl.reverse.map fun (i : Nat) => V.int (i : Int))) := by rw [upd_same, List.map_reverse]
    have S1 := S.avoid hl s1 hl1
    generalize upd H l (.lst (pl.map fun (i : Nat) => V.int (i : Int)).reverse) = H1 at s1 hl1 S1
    refine ⟨l, rfl, ⟨_, SqL.of hl1⟩, for_it walkL (fun j σ H' => ∃ v2 v3 v4, σ = [some (.ref D.sp), some (.int q0), v2, v3, v4] ∧ AskSt F L r D (l :: Av) H' td ((pl.take (pl.length - j)).foldl (stepB L r td) B) (leftMix L r told td (pl.drop (pl.length - j))) ∧ Fr D (l :: Av) H1 H') ⟨none, none, none, rfl, by rw [Nat.sub_zero, List.take_of_length_le (Nat.le_refl _), List.drop_of_length_le (Nat.le_refl _), leftMix_nil]; exact S1, Fr.refl _ _ _⟩ (fun j σ H' _ ⟨_, _, _, _, _, f⟩ => f l _ hl1 nl4 nlb (.inl (List.mem_cons_self))) ?_ ?_⟩
    · rintro j x σ H2' H2 hj ⟨v2, v3, v4, rfl, S2, f2⟩ ⟨rfl, hx⟩
      rw [List.getElem?_map] at hx
      obtain ⟨i, ei, rfl⟩ := Option.map_eq_some_iff.mp hx
      have hjl : j < pl.length := by simpa using hj
      obtain ⟨k, hk⟩ : ∃ k, pl.length = k + 1 + j := ⟨pl.length - 1 - j, by omega⟩
      rw [List.getElem?_reverse hjl, show pl.length - 1 - j = k by omega] at ei
      rw [show pl.length - j = k + 1 by omega] at S2
      rw [show pl.length - (j + 1) = k by omega]
      have him := List.mem_of_getElem? ei
      have hi := (hpm i him).1
      have hkl : k < pl.length := by omega
      have hke : pl[k] = i := (List.getElem?_eq_some_iff.mp ei).2
      have et : pl.take (k + 1) = pl.take k ++ [i] := by rw [List.take_add_one, ei]; rfl
      have ed : pl.drop k = i :: pl.drop (k + 1) := by rw [List.drop_eq_getElem_cons hkl, hke]
      have hin : i ∉ pl.drop (k + 1) := fun h => by
        have := hpn.sublist (List.drop_sublist k pl)
        rw [ed] at this
        exact (List.nodup_cons.mp this).1 h
      have hsp := S2.same _ _ hins
      have eset := leftMix_set (L := L) (r := r) (a := told) (b := td) (S := pl.drop (k + 1)) (S' := pl.drop k) (i := i) (fun x => by rw [ed]; simp [or_comm])
      have eat := leftMix_at (L := L) (r := r) (a := told) (b := td) (S := pl.drop (k + 1)) hi
      rw [if_neg hin] at eat
      rw [hopl i him] at eset
      have hfold : (pl.take (k + 1)).foldl (stepB L r td) B = stepB L r td ((pl.take k).foldl (stepB L r td) B) i := by rw [et, List.foldl_append]; rfl
      rw [hfold] at S2
      generalize (pl.take k).foldl (stepB L r td) B = Bk at S2
      refine ⟨_, rfl, D.sp, dx, _, rfl, hsp, by kernel_rfl, _, rfl, F, L, r, D, _, td, _, _, i, rfl, A1, S2, hi, fun lo H4 s4 zlo hlo => ?_⟩
      have S4 := S2.avoid zlo s4 hlo
      have f4 : Fr D (l :: Av) H1 H4 := f2.trans (Fr.of_same s4)
      have hsp4 := S4.same _ _ hins
      have holt := open_lt (L := L) (r := r) (told := td) hi
      unfold stepB at S4
      have eN : openN L r td i = ((openL L r td i).length : Int) := rfl
      rw [eN] at eset eat
      clear eN
      generalize openL L r td i = ol at hlo holt S4 eset eat
      have nlo4 : lo ∉ D.m4 := fun h => by obtain ⟨ys, e⟩ := S2.at4 h; rw [zlo] at e; cases e
      have nlob : lo ∉ D.bds := fun h => by obtain ⟨ys, e⟩ := S2.bd h; rw [zlo] at e; cases e
      have nlo : lo ≠ D.nl := fun z => nlo4 (by rw [z]; exact m4nl)
      refine ⟨fun σ' H' => ∃ v4, σ' = [some (.ref D.sp), some (.int q0), some (.int i), some (.ref lo), v4] ∧ AskSt F L r D (l :: Av) H' td Bk (leftMix L r told td (pl.drop (k + 1))) ∧ Fr D (l :: Av) H1 H', ?_, ?_⟩
      · refine ⟨_, rfl, D.sp, dx, _, _, rfl, hsp4, by kernel_rfl, _, rfl, D.lf, _, i, _, rfl, rfl, S4.left_, by rw [List.getElem?_map, eat]; rfl, rfl, _, rfl, ?_⟩
        by_cases c2 : ol.length = 2
        · refine ite_t (by rw [c2]; rfl) ?_
          rw [if_neg (by omega)] at S4
          refine ⟨_, rfl, lo, rfl, ⟨_, SqL.of hlo⟩, for_it walkL (fun k' σ H' => ∃ v5, σ = [some (.ref D.sp), some (.int q0), some (.int i), some (.ref lo), v5] ∧ AskSt F L r D (l :: Av) H' td Bk (leftMix L r told td (pl.drop (k + 1))) ∧ Fr D (l :: Av) H1 H' ∧ H' lo = some (.lst (ol.map fun (j : Nat) => V.int (j : Int)))) ⟨v4, rfl, S4.weak, f4, hlo⟩ (fun k σ H' _ ⟨_, _, _, _, h⟩ => h) ?_ ?_⟩
          · rintro k' x σ H5' H5 hk' ⟨v5, rfl, S5, f5, hlo5⟩ ⟨rfl, hx⟩
            rw [List.getElem?_map] at hx
            obtain ⟨q1, eq1, rfl⟩ := Option.map_eq_some_iff.mp hx
            have hq1 := holt q1 (List.mem_of_getElem? eq1)
            obtain ⟨ns, hd1, hd2⟩ := S5.near
            have hqn : q1 < ns.length := by omega
            refine ⟨_, rfl, D.sp, dx, _, _, rfl, S5.same _ _ hins, by kernel_rfl, _, rfl, D.nl, _, q1, _, rfl, rfl, SqL.of hd1, by rw [List.getElem?_map, List.getElem?_eq_getElem hqn]; rfl, _, _, rfl, rfl, D.nl, _, q1, q1, rfl, rfl, hd1, ixN_nat (by simpa using hqn), _, rfl, ?_⟩
            rw [← List.map_set]
            exact ⟨S5.near' A1 (by simpa using hd2), f5.trans (Fr.m4 m4nl), by rw [upd_ne nlo]; exact hlo5⟩
          · rintro σ H5 ⟨v5, rfl, S5, f5, hlo5⟩
            exact ⟨_, rfl, S5, f5⟩
        · refine ite_f (by simp; omega) ?_
          refine ⟨_, rfl, D.sp, dx, _, _, rfl, hsp4, by kernel_rfl, _, rfl, D.lf, _, i, _, rfl, rfl, S4.left_, by rw [List.getElem?_map, eat]; rfl, rfl, _, rfl, ?_⟩
          by_cases c1 : ol.length = 1
          · refine ite_t (by rw [c1]; rfl) ?_
            rw [if_pos c1] at S4
            obtain ⟨q1, rfl⟩ : ∃ q1, ol = [q1] := by
              match ol, c1 with
              | [q1], _ => exact ⟨q1, rfl⟩
            have hq1 := holt q1 (by simp)
            refine ⟨_, rfl, D.sp, dx, _, rfl, hsp4, by kernel_rfl, _, rfl, _, rfl, lo, _, 0, _, rfl, rfl, hlo, rfl, F, L, r, D, _, td, Bk, _, i, q1, rfl, A1, S4, hi, hq1, fun H5 S5 f5 => ?_⟩
            have hlo5 : H5 lo = some (.lst [.int (q1 : Nat)]) := f5 _ _ hlo nlo4 nlob (.inl List.mem_cons_self)
            have S5 := S5.weak
            have f5 := f4.trans f5.weak
            obtain ⟨ns, hd1, hd2⟩ := S5.near
            have hqn : q1 < ns.length := by omega
            refine ⟨_, rfl, D.sp, dx, _, _, rfl, S5.same _ _ hins, by kernel_rfl, _, rfl, lo, _, 0, _, rfl, rfl, hlo5, rfl, D.nl, _, q1, _, rfl, rfl, SqL.of hd1, by rw [List.getElem?_map, List.getElem?_eq_getElem hqn]; rfl, _, _, rfl, rfl, D.nl, _, q1, q1, rfl, rfl, hd1, ixN_nat (by simpa using hqn), ?_⟩
            rw [← List.map_set]
            have S6 := S5.near' A1 (ns := ns.set q1 (ns[q1] + 1)) (by simpa using hd2)
            have f6 : Fr D (l :: Av) H1 (upd H5 D.nl (.lst ((ns.set q1 (ns[q1] + 1)).map V.int))) := f5.trans (Fr.m4 m4nl)
            generalize upd H5 D.nl (.lst ((ns.set q1 (ns[q1] + 1)).map V.int)) = H6 at S6 f6
            obtain ⟨ns6, hd61, hd62⟩ := S6.near
            have hqn6 : q0 < ns6.length := by omega
            refine ⟨_, rfl, D.sp, dx, _, _, rfl, S6.same _ _ hins, by kernel_rfl, _, rfl, D.nl, _, q0, _, rfl, rfl, SqL.of hd61, by rw [List.getElem?_map, List.getElem?_eq_getElem hqn6]; rfl, _, _, rfl, rfl, D.nl, _, q0, q0, rfl, rfl, hd61, ixN_nat (by simpa using hqn6), _, rfl, ?_⟩
            rw [← List.map_set]
            exact ⟨S6.near' A1 (by simpa using hd62), f6.trans (Fr.m4 m4nl)⟩
          · refine ite_f (by simp; omega) ?_
            rw [if_neg c1] at S4
            exact ⟨_, rfl, S4.weak, f4⟩
      · rintro σ' H' ⟨v4, rfl, S5, f5⟩
        have e5 : ((leftMix L r told td (pl.drop (k + 1))).map V.int).set i (V.int ((fun (i j : Int) => i + j) ((ol.length : Nat) : Int) 1)) = (leftMix L r told td (pl.drop k)).map V.int := by
          show ((leftMix L r told td (pl.drop (k + 1))).map V.int).set i (V.int (((ol.length : Nat) : Int) + 1)) = _
          rw [← List.map_set, eset]
        refine ⟨_, rfl, D.sp, dx, _, _, rfl, S5.same _ _ hins, by kernel_rfl, _, rfl, D.lf, _, i, _, rfl, rfl, SqL.of S5.left_, by rw [List.getElem?_map, eat]; rfl, _, _, rfl, rfl, D.lf, _, i, i, rfl, rfl, S5.left_, ixN_nat (by rw [List.length_map, leftMix_len]; exact hi), _, _, _, rfl, ?_⟩
        rw [e5]
        exact ⟨S5.left' A1 (leftMix_len _ _ _ _ _), f5.trans (Fr.m4 m4lf)⟩
    · rintro σ H2 ⟨v2, v3, v4, rfl, S2, f2⟩
      rw [show (pl.reverse.map fun (i : Nat) => V.int (i : Int)).length = pl.length by simp, Nat.sub_self, List.take_zero, List.drop_zero, hall] at S2
      have S3 := S2.weak
      refine ⟨_, rfl, D.sp, dx, _, _, rfl, S3.same _ _ hins, by kernel_rfl, _, rfl, D.tl, _, q0, q0, rfl, rfl, S3.told_, ixN_nat (by rw [List.length_map, S3.tln]; exact hq), ?_⟩
      have e6 : (td.map toldV).set q0 .non = told.map toldV := by
        rw [← hsb, List.map_set]; rfl
      rw [e6]
      exact q _ (S3.told' A1 htl) (((Fr.of_same s1).trans f2.weak).trans (Fr.m4 m4tl))

end
end S1

/-! LC: the next pair, a try -/
namespace S1
open PySem L2
theorem ite_any {c : Bool} {a b : Prop} (x : a) (y : b) : if c = true then a else b := by
  cases c
  · exact ite_f rfl y
  · exact ite_t rfl x
section
variable {P : Program} {w : World} {K : PySem.W.Frag} {mg : Str → Option Value} {base : Heap} {cT cR cS cA : Addr}
abbrev s_Asking_next_pair : Stmt := inClass (top 36) 7
def sp_Asking_next_pair (P : Program) (w : World) (cT cR cA : Addr) : Sp := fun vs H Q _ => ∃ (F : Hp) (L : Lots) (r : Nat) (D : Ads) (Av : List Addr) (told : List (Option Int)) (B : Nat → Int → List Nat) (left : List Int), vs = [.ref D.sp] ∧ Asked P w cT cR cA F L r D ∧ AskSt F L r D Av H told B left ∧
  (∀ H', Same H H' → (∀ q, q < nP L r → told.getD q none ≠ none) → Q .non H') ∧ ∀ (q : Nat) H', Same H H' → q < nP L r → told.getD q none = none → Q (.int q) H'
theorem ok_Asking_next_pair {f : Addr} {fd : FuncData} (F : Fun K "next_pair" "Asking.next_pair" s_Asking_next_pair f fd) (T : Txt K mg cT cR cS cA) : FnOk P w K mg base CX0 1 f fd ["self"] (sp_Asking_next_pair P w cT cR cA) := by
  have sc : FnScope ["self", "best", "number", "me", "view", "rank"] ["self"] (defScope s_Asking_next_pair) := sc_by (by decide +kernel)
  refine F.ok sc (fun vs H Q E h => ?_) (fun cdv A outer s H vs Q E hr h => ?_)
  · obtain ⟨_, _, _, _, _, _, _, _, rfl, _⟩ := h; rfl
  · obtain ⟨F, L, r, D, Av, told, B, left, rfl, A1, S, qn, qs⟩ := h
    have hu := hu9 hr
    have hu65 := hu65 hr
    have hu1 := hu1_of hr
    refine ⟨_, (pss_cons (ps_set (i := 1) sc.nd rfl (Or.inl rfl) pe_non)
      (pss_cons (ps_for PassesOwn.never rfl (pi_enum (by rfl) T.enumerate (pa_cons (pe_fl T.clR T.nR_pairs (pe_fl T.clA T.nA_runs (pv 0))) pa_nil)) (pg_tu 2 rfl (pgs_cons (pg_name (i := 2) sc.nd rfl (Or.inl rfl) (Or.inl rfl)) (pgs_cons (pg_tu 2 rfl (pgs_cons (pg_name (i := 3) sc.nd rfl (Or.inl rfl) (Or.inl rfl)) (pgs_cons (pg_name (i := 4) sc.nd rfl (Or.inl rfl) (Or.inl rfl)) pgs_nil))) pgs_nil)))
        (pss_one (ps_if (pt_cmp (pc_isN (pe_ix ixl (pe_fl T.clA T.nA_told (pv 0)) (pv 2) (fun _ _ => rfl))))
            (pss_cons (ps_set (i := 5) sc.nd rfl (Or.inl rfl) (pe_tup (pa_cons (pe_op op_sub (pe_callB lenF (by rfl) T.len (by decide +kernel) (pa_cons (pe_ix ixl (pe_fl T.clA T.nA_integers (pv 0)) (pv 3) (fun _ _ => rfl)) pa_nil)) (pe_ix ixl (pe_fl T.clA T.nA_dead (pv 0)) (pv 2) (fun _ _ => rfl))) (pa_cons (pe_op op_sub pe_int (pe_ix ixl (pe_fl T.clA T.nA_near (pv 0)) (pv 2) (fun _ _ => rfl))) (pa_cons (pv 2) pa_nil)))))
              (pss_one (ps_if (PW.pt (pw_or (pt_cmp (pc_isN (pv 1))) (pw_or1 (pt_cmpR (by exact op_ltF hr.units0) (pv 5) (pv 1) (nomark _)))))
                (pss_one (ps_set (i := 1) sc.nd rfl (Or.inl rfl) (pv 5)))
                pss_nil)))
            pss_nil)))
      (pss_one (ps_ret (pe_ifExp (pt_cmp (pc_isN (pv 1))) pe_non (pe_ix ixt (pv 1) pe_int (fun _ _ => rfl))))))), ?_⟩
    obtain ⟨dx, hins⟩ := A1.ins
    obtain ⟨dxR, fR, lp, lr, a, pvs, rs, RF⟩ := A1.runs.view A1.ok A1.r1
    have R := RF.mono S.same
    have hsp := S.same _ _ hins
    have htl := S.tln
    refine ⟨_, rfl, D.sp, dx, _, _, rfl, hsp, by kernel_rfl, D.rp, dxR, fR, _, rfl, R.ins, R.pr, lp, pvs, rfl, SqL.of R.lp_, for_it walkE (fun j σ H' => ∃ bv v2 v3 v4 v5, σ = [some (.ref D.sp), some bv, v2, v3, v4, v5] ∧ Same H H' ∧ ((bv = .non ∧ ∀ q, q < j → told.getD q none ≠ none) ∨ ∃ (b : Addr) (x y : Int) (q : Nat), bv = .ref b ∧ H' b = some (.tup ([x, y, (q : Int)].map V.int)) ∧ q < nP L r ∧ told.getD q none = none)) ⟨.non, none, none, none, none, rfl, Same.refl _, .inl ⟨rfl, by simp⟩⟩ (fun j σ H' _ ⟨_, _, _, _, _, _, s, _⟩ => s _ _ R.lp_) ?_ ?_⟩
    · rintro j x σ H1 H2 hj ⟨bv, v2, v3, v4, v5, rfl, s1, hb⟩ ⟨T0, y, rfl, hT, rfl, hy⟩
      have hjq : j < nP L r := by rw [← R.pn]; exact hj
      obtain ⟨b2, x2, w2, g1, g2, g3, g4, g5⟩ := R.pair j hjq
      rw [g1] at hy; cases hy
      have sT : Same H1 (upd H1 T0 (.tup [.int j, .ref b2])) := same_upd _ hT
      have s2 := s1.trans sT
      refine ⟨T0, _, rfl, upd_same, rfl, _, _, rfl, _, _, rfl, b2, _, rfl, s2 _ _ g2, rfl, _, _, rfl, _, _, rfl, rfl, rfl, ?_⟩
      generalize upd H1 T0 (.tup [.int j, .ref b2]) = H3 at sT s2
      have et := List.getElem?_eq_getElem (l := told) (i := j) (by omega)
      have ed : told.getD j none = told[j]'(by omega) := by rw [List.getD_eq_getElem?_getD, et]; rfl
      generalize told[j]'(by omega) = t0 at et ed
      have hb3 : (bv = .non ∧ ∀ q, q < j → told.getD q none ≠ none) ∨ ∃ (b : Addr) (x y : Int) (q : Nat), bv = .ref b ∧ H3 b = some (.tup ([x, y, (q : Int)].map V.int)) ∧ q < nP L r ∧ told.getD q none = none := by
        rcases hb with h | ⟨b, x, y, q, h1, h2, h3⟩
        · exact .inl h
        · exact .inr ⟨b, x, y, q, h1, sT _ _ h2, h3⟩
      refine ⟨_, rfl, D.sp, dx, _, _, rfl, s2 _ _ hsp, by kernel_rfl, _, rfl, D.tl, _, j, toldV t0, rfl, rfl, s2 _ _ S.told_, by rw [List.getElem?_map, et]; rfl, _, rfl, ?_⟩
      cases t0 with
      | some v =>
        refine ite_f rfl ⟨bv, _, _, _, _, rfl, s2, ?_⟩
        rcases hb3 with ⟨rfl, h⟩ | h
        · refine .inl ⟨rfl, fun q hq => ?_⟩
          by_cases c : q = j
          · subst c; rw [ed]; exact fun z => by cases z
          · exact h q (by omega)
        · exact .inr h
      | none =>
        refine ite_t rfl ?_
        obtain ⟨ds, hd1, hd2⟩ := S.dead
        obtain ⟨ns, hn1, hn2⟩ := S.near
        obtain ⟨bi, ebi⟩ : ∃ bi, D.iv[mq L r j]? = some bi := ⟨_, List.getElem?_eq_getElem (by rw [A1.ints3]; exact g5)⟩
        have hiv := s2 _ _ (S.same _ _ (A1.intv _ _ ebi))
        have hdj := List.getElem?_eq_getElem (l := ds) (i := j) (by omega)
        have hnj := List.getElem?_eq_getElem (l := ns) (i := j) (by omega)
        refine ⟨_, rfl, D.sp, dx, _, _, rfl, s2 _ _ hsp, by kernel_rfl, _, rfl, D.ip, _, mq L r j, .ref bi, rfl, rfl, s2 _ _ (S.same _ _ A1.intz), by rw [List.getElem?_map, ebi]; rfl, bi, _, rfl, .inl hiv, _, rfl, D.sp, dx, _, _, rfl, s2 _ _ hsp, by kernel_rfl, _, rfl, D.dd, _, j, _, rfl, rfl, s2 _ _ hd1, by rw [List.getElem?_map, hdj]; rfl, _, _, rfl, rfl, _, rfl, D.sp, dx, _, _, rfl, s2 _ _ hsp, by kernel_rfl, _, rfl, D.nl, _, j, _, rfl, rfl, s2 _ _ hn1, by rw [List.getElem?_map, hnj]; rfl, _, _, rfl, rfl, _, rfl, ?_⟩
        refine ⟨by show 3 ≤ sizeLine; decide, fun T1 hT1 => ?_⟩
        refine ⟨_, rfl, _, rfl, ?_⟩
        have put_ : ∀ (x y : Int) (v2 v3 v4 v5 : Option V), (fun σ H' => ∃ bv v2 v3 v4 v5, σ = [some (.ref D.sp), some bv, v2, v3, v4, v5] ∧ Same H H' ∧ ((bv = .non ∧ ∀ q, q < j + 1 → told.getD q none ≠ none) ∨ ∃ (b : Addr) (x y : Int) (q : Nat), bv = .ref b ∧ H' b = some (.tup ([x, y, (q : Int)].map V.int)) ∧ q < nP L r ∧ told.getD q none = none)) [some (.ref D.sp), some (.ref T1), v2, v3, v4, v5] (upd H3 T1 (.tup [.int x, .int y, .int j])) := fun x y v2 v3 v4 v5 =>
          ⟨_, _, _, _, _, rfl, s2.trans (same_upd _ hT1), .inr ⟨T1, x, y, j, rfl, upd_same, hjq, ed⟩⟩
        rcases hb3 with ⟨rfl, h⟩ | ⟨b, x, y, q, rfl, h1, h2, h3⟩
        · refine ite_t rfl (ite_t rfl ?_)
          exact ⟨_, rfl, put_ _ _ _ _ _ _⟩
        · refine ite_f rfl ?_
          have nb : b ≠ T1 := fun z => by rw [z, hT1] at h1; cases h1
          refine ⟨_, rfl, _, rfl, T1, b, [_, _, (j : Int)], _, rfl, rfl, upd_same, by rw [upd_ne nb]; exact h1, _, rfl, ?_⟩
          refine ite_any ?_ ?_
          · exact ⟨_, rfl, put_ _ _ _ _ _ _⟩
          · exact ⟨_, _, _, _, _, rfl, s2.trans (same_upd _ hT1), .inr ⟨b, x, y, q, rfl, by rw [upd_ne nb]; exact h1, h2, h3⟩⟩
    · rintro σ H1 ⟨bv, v2, v3, v4, v5, rfl, s1, hb⟩
      refine ⟨_, rfl, _, rfl, ?_⟩
      rcases hb with ⟨rfl, h⟩ | ⟨b, x, y, q, rfl, h1, h2, h3⟩
      · refine ite_t rfl (qn _ s1 fun q hq => h q (by rw [R.pn]; exact hq))
      · refine ite_f rfl ?_
        exact ⟨_, rfl, b, _, 2, _, rfl, rfl, h1, rfl, qs q _ s1 h2 h3⟩

abbrev s_Asking_run_told : Stmt := inClass (top 36) 8
def sp_Asking_run_told (P : Program) (w : World) (cT cR cA : Addr) : Sp := fun vs H Q _ => ∃ (F : Hp) (L : Lots) (r : Nat) (D : Ads) (Av : List Addr) (told : List (Option Int)) (B : Nat → Int → List Nat) (left : List Int) (i : Nat), vs = [.ref D.sp, .int i] ∧ Asked P w cT cR cA F L r D ∧ AskSt F L r D Av H told B left ∧ i < mR L r ∧ ∀ v H', Same H H' → Q v H'
theorem ok_Asking_run_told {f : Addr} {fd : FuncData} (F : Fun K "run_told" "Asking.run_told" s_Asking_run_told f fd) (T : Txt K mg cT cR cS cA) : FnOk P w K mg base CX0 1 f fd ["self", "number"] (sp_Asking_run_told P w cT cR cA) := by
  have sc : FnScope ["self", "number", "at", "pattern", "pairs"] ["self", "number"] (defScope s_Asking_run_told) := sc_by (by decide +kernel)
  refine F.ok sc (fun vs H Q E h => ?_) (fun cdv A outer s H vs Q E hr h => ?_)
  · obtain ⟨_, _, _, _, _, _, _, _, _, rfl, _⟩ := h; rfl
  · obtain ⟨F, L, r, D, Av, told, B, left, i, rfl, A1, S, hi, q⟩ := h
    have hu := hu9 hr
    have hu65 := hu65 hr
    have hu1 := hu1_of hr
    refine ⟨_, (pss_cons (ps_asg (pe_ix ixl (pe_fl T.clR T.nR_rows (pe_fl T.clA T.nA_runs (pv 0))) (pv 1) (fun _ _ => rfl)) (pg_tu 3 rfl (pgs_cons (pg_name (i := 2) sc.nd rfl (Or.inl rfl) (Or.inl rfl)) (pgs_cons (pg_name (i := 3) sc.nd rfl (Or.inl rfl) (Or.inl rfl)) (pgs_cons (pg_name (i := 4) sc.nd rfl (Or.inl rfl) (Or.inl rfl)) pgs_nil)))))
      (pss_one (ps_ret (pe_tup (pa_cons pe_str (pa_cons (pe_ix ixt (pe_ix ixt (pe_fl T.clT T.nT_lots (pe_fl T.clR T.nR_task (pe_fl T.clA T.nA_runs (pv 0)))) (pv 2) (fun _ _ => rfl)) pe_int (fun _ _ => rfl)) (pa_cons (pv 3) pa_nil))))))), ?_⟩
    obtain ⟨dx, hins⟩ := A1.ins
    obtain ⟨dxR, fR, lp, lr, a, pvs, rs, RF⟩ := A1.runs.view A1.ok A1.r1
    have R := RF.mono S.same
    have hsp := S.same _ _ hins
    obtain ⟨b, pv, c, e1, e2, e3, e4⟩ := R.row i hi
    obtain ⟨u, eu, hu⟩ := run_at hi
    have hat := (runsL_at hu).1
    have eru := runAt_of eu
    obtain ⟨dxT, fT, t1, t2, t3⟩ := R.task
    obtain ⟨_, us, e, ha, hks⟩ := id R.lots
    cases e
    have hlu := hks.lenK
    obtain ⟨x, ex⟩ : ∃ x, us[(runAt L r i).1]? = some x := ⟨_, List.getElem?_eq_getElem (by rw [eru]; omega)⟩
    obtain ⟨p, ep, np⟩ := hks.atK ex
    obtain ⟨d, ws, rfl, hd, hws⟩ := id np
    obtain ⟨x1, _, rfl, hx1, x2, _, rfl, hx2, rfl⟩ := id hws
    refine ⟨_, rfl, D.sp, dx, _, _, rfl, hsp, by kernel_rfl, D.rp, dxR, fR, _, rfl, R.ins, R.rw_, _, rfl, lr, _, i, _, rfl, rfl, R.lr_, e1, b, _, rfl, e2, rfl, _, _, rfl, _, _, rfl, _, _, rfl, rfl, ?_⟩
    refine ⟨_, rfl, D.sp, dx, _, _, rfl, hsp, by kernel_rfl, D.rp, dxR, fR, _, rfl, R.ins, R.tk, D.tp, dxT, fT, _, rfl, t1, t3, _, rfl, a, _, (runAt L r i).1, _, rfl, rfl, ha, ex, d, _, 0, _, rfl, rfl, hd, rfl, _, rfl, ?_⟩
    exact ⟨by show 3 ≤ sizeLine; decide, fun T1 hT1 => q _ _ (same_upd _ hT1)⟩

abbrev s_Asking_closed : Stmt := inClass (top 36) 9
def sp_Asking_closed (P : Program) (w : World) (cT cR cS cA : Addr) : Sp := fun vs H Q _ => ∃ (F : Hp) (L : Lots) (r : Nat) (D : Ads) (Av : List Addr) (told : List (Option Int)) (B : Nat → Int → List Nat) (left : List Int) (s d : Addr) (q : Nat), vs = [.ref D.sp, .ref s] ∧ Asked P w cT cR cA F L r D ∧ AskSt F L r D Av H told B left ∧ SplitAt cS H s q d ∧ q < nP L r ∧ ∀ v H', Same H H' → Q (.ref v) H'
theorem ok_Asking_closed {f : Addr} {fd : FuncData} (F : Fun K "closed" "Asking.closed" s_Asking_closed f fd) (T : Txt K mg cT cR cS cA) : FnOk P w K mg base CX0 1 f fd ["self", "split"] (sp_Asking_closed P w cT cR cS cA) := by
  have sc : FnScope ["self", "split", "me", "view"] ["self", "split"] (defScope s_Asking_closed) := sc_by (by decide +kernel)
  refine F.ok sc (fun vs H Q E h => ?_) (fun cdv A outer s H vs Q E hr h => ?_)
  · obtain ⟨_, _, _, _, _, _, _, _, _, _, _, rfl, _⟩ := h; rfl
  · obtain ⟨F, L, r, D, Av, told, B, left, sa, d, q0, rfl, A1, S, hs, hq, q⟩ := h
    have hu := hu9 hr
    have hu65 := hu65 hr
    have hu1 := hu1_of hr
    refine ⟨_, (pss_cons (ps_asg (pe_ix ixl (pe_fl T.clR T.nR_pairs (pe_fl T.clA T.nA_runs (pv 0))) (pe_fl T.clS T.nS_pair (pv 1)) (fun _ _ => rfl)) (pg_tu 2 rfl (pgs_cons (pg_name (i := 2) sc.nd rfl (Or.inl rfl) (Or.inl rfl)) (pgs_cons (pg_name (i := 3) sc.nd rfl (Or.inl rfl) (Or.inl rfl)) pgs_nil))))
      (pss_one (ps_ret (pe_tup (pa_cons pe_str (pa_cons (pv 2) (pa_cons (pv 3) (pa_cons (pe_fl T.clS T.nS_refusals (pv 1)) pa_nil)))))))), ?_⟩
    obtain ⟨dx, hins⟩ := A1.ins
    obtain ⟨dxR, fR, lp, lr, a, pvs, rs, RF⟩ := A1.runs.view A1.ok A1.r1
    have R := RF.mono S.same
    have hsp := S.same _ _ hins
    obtain ⟨b2, x2, w2, g1, g2, g3, g4, g5⟩ := R.pair q0 hq
    obtain ⟨dxS, fS, e1, e2, e3, e4⟩ := hs
    refine ⟨_, rfl, D.sp, dx, _, _, rfl, hsp, by kernel_rfl, D.rp, dxR, fR, _, rfl, R.ins, R.pr, _, rfl, sa, dxS, fS, _, rfl, e1, e2, lp, _, q0, _, rfl, rfl, R.lp_, g1, b2, _, rfl, g2, rfl, _, _, rfl, _, _, rfl, rfl, ?_⟩
    refine ⟨_, rfl, _, rfl, _, rfl, sa, dxS, fS, _, rfl, e1, e3, ?_⟩
    exact ⟨by show 4 ≤ sizeLine; decide, fun T1 hT1 => q _ _ (same_upd _ hT1)⟩

abbrev s_Asking_tried : Stmt := inClass (top 36) 10
def sp_Asking_tried (P : Program) (w : World) (cT cR cS cA : Addr) : Sp := fun vs H Q _ => ∃ (F : Hp) (L : Lots) (r : Nat) (D : Ads) (Av : List Addr) (told : List (Option Int)) (B : Nat → Int → List Nat) (s d : Addr) (q : Nat) (v : Int) (kvs : List (L2.Key × V)), vs = [.ref D.sp, .ref s] ∧ Asked P w cT cR cA F L r D ∧ AskSt F L r D Av H told B (leftOf L r told) ∧ SplitAt cS H s q d ∧ q < nP L r ∧
  H d = some (.dK kvs) ∧ kvs.length < 1000 ∧ (intsL L (mq L r q))[kvs.length]? = some v ∧ told.getD q none = none ∧ (∀ q v, (B q v).length ≤ 900000) ∧ (∀ i ∈ B q v, i < mR L r) ∧
  (B q v ≠ [] → ∀ H1 x, Same H H1 → Q (.bl false) (upd H1 d (.dK (putK kvs (.inl v) x)))) ∧
  (B q v = [] → ∀ H', AskSt F L r D Av H' (told.set q (some v)) (putB L r (told.set q (some v)) B q) (leftOf L r (told.set q (some v))) → Fr D Av H H' → Q (.bl true) H')
theorem ok_Asking_tried {f : Addr} {fd : FuncData} (F : Fun K "tried" "Asking.tried" s_Asking_tried f fd) (T : Txt K mg cT cR cS cA) (G_run_told : Me P w K mg base 1 cA "run_told" ["self", "number"] (sp_Asking_run_told P w cT cR cA)) (G_put : Me P w K mg base 3 cA "put" ["self", "pair", "integer"] (sp_Asking_put P w cT cR cA)) (G_refuse : Me P w K mg base 1 cS "refuse" ["self", "integer", "refusal"] (sp_Split_refuse cS)) : FnOk P w K mg base CX0 4 f fd ["self", "split"] (sp_Asking_tried P w cT cR cS cA) := by
  have sc : FnScope ["self", "split", "me", "integer", "numbers"] ["self", "split"] (defScope s_Asking_tried) := sc_by (by decide +kernel)
  refine F.ok sc (fun vs H Q E h => ?_) (fun cdv A outer s H vs Q E hr h => ?_)
  · obtain ⟨_, _, _, _, _, _, _, _, _, _, _, _, rfl, _⟩ := h; rfl
  · obtain ⟨F, L, r, D, Av, told, B, sa, d, q0, v, kvs, rfl, A1, S, hs, hq, hd, hkl, hv, hn, hBl, hBm, qr, qp⟩ := h
    have hu := hu9 hr
    have hu65 := hu65 hr
    have hu1 := hu1_of hr
    refine ⟨_, (pss_cons (ps_set (i := 2) sc.nd rfl (Or.inl rfl) (pe_ix ixt (pe_ix ixl (pe_fl T.clR T.nR_pairs (pe_fl T.clA T.nA_runs (pv 0))) (pe_fl T.clS T.nS_pair (pv 1)) (fun _ _ => rfl)) pe_int (fun _ _ => rfl)))
      (pss_cons (ps_set (i := 3) sc.nd rfl (Or.inl rfl) (pe_ix ixl (pe_ix ixl (pe_fl T.clA T.nA_integers (pv 0)) (pv 2) (fun _ _ => rfl)) (pe_callB call_lenD (by rfl) T.len (by decide +kernel) (pa_cons (pe_fl T.clS T.nS_refusals (pv 1)) pa_nil)) (fun _ _ => rfl)))
      (pss_cons (ps_set (i := 4) sc.nd rfl (Or.inl rfl) (pe_dget2 hu1 (pe_ix ixl (pe_fl T.clA T.nA_bars (pv 0)) (pe_fl T.clS T.nS_pair (pv 1)) (fun _ _ => rfl)) (pv 3) (pe_lst pa_nil) ⟨rfl, rfl, rfl, rfl⟩))
      (pss_cons (ps_if (pt_cmpR op_gt (pe_callB lenF (by rfl) T.len (by decide +kernel) (pa_cons (pv 4) pa_nil)) pe_int (nomark _))
        (pss_cons (ps_expr (pe_me G_refuse T.clS (hr.mono (by decide)) (pv 1) (pa_cons (pv 3) (pa_cons (pe_me G_run_told T.clA (hr.mono (by decide)) (pv 0) (pa_cons (pe_ix ixl (pv 4) pe_int (fun _ _ => rfl)) pa_nil)) pa_nil))))
          (pss_one (ps_ret pe_bl)))
        pss_nil)
      (pss_cons (ps_expr (pe_me G_put T.clA (hr.mono (by decide)) (pv 0) (pa_cons (pe_fl T.clS T.nS_pair (pv 1)) (pa_cons (pv 3) pa_nil))))
      (pss_one (ps_ret pe_bl))))))), ?_⟩
    obtain ⟨dx, hins⟩ := A1.ins
    obtain ⟨dxR, fR, lp, lr, a, pvs, rs, RF⟩ := A1.runs.view A1.ok A1.r1
    have R := RF.mono S.same
    have hsp := S.same _ _ hins
    obtain ⟨b2, x2, w2, g1, g2, g3, g4, g5⟩ := R.pair q0 hq
    obtain ⟨dxS, fS, e1, e2, e3, e4⟩ := id hs
    obtain ⟨bi, ebi⟩ : ∃ bi, D.iv[mq L r q0]? = some bi := ⟨_, List.getElem?_eq_getElem (by rw [A1.ints3]; exact g5)⟩
    have hiv := S.same _ _ (A1.intv _ _ ebi)
    obtain ⟨bq, ebq⟩ : ∃ bq, D.bds[q0]? = some bq := ⟨_, List.getElem?_eq_getElem (by rw [A1.bdn]; exact hq)⟩
    obtain ⟨ks, o, W⟩ := S.bars
    have hbq := W.1 q0 bq ebq
    refine ⟨_, rfl, D.sp, dx, _, _, rfl, hsp, by kernel_rfl, D.rp, dxR, fR, _, rfl, R.ins, R.pr, _, rfl, sa, dxS, fS, _, rfl, e1, e2, lp, _, q0, _, rfl, rfl, R.lp_, g1, b2, _, 0, _, rfl, rfl, g2, rfl, ?_⟩
    refine ⟨_, rfl, D.sp, dx, _, _, rfl, hsp, by kernel_rfl, _, rfl, D.ip, _, mq L r q0, .ref bi, rfl, rfl, S.same _ _ A1.intz, by rw [List.getElem?_map, ebi]; rfl, _, rfl, sa, dxS, fS, _, rfl, e1, e3, d, kvs, rfl, hd, bi, _, kvs.length, .int v, rfl, rfl, hiv, by rw [List.getElem?_map, hv]; rfl, ?_⟩
    refine ⟨_, rfl, D.sp, dx, _, _, rfl, hsp, by kernel_rfl, _, rfl, sa, dxS, fS, _, rfl, e1, e2, D.ab, _, q0, .ref bq, rfl, rfl, S.same _ _ A1.bars, by rw [List.getElem?_map, ebq]; rfl, bq, rfl, .inl ⟨_, .inl hbq⟩, _, rfl, Nat.zero_le _, fun z hz => ?_⟩
    have sz : Same H (upd H z (.lst [])) := same_upd _ hz
    refine ⟨_, DGet.k (k := .inl v) (sz _ _ hbq), ?_⟩
    have hlet : ∃ lv, (valV ((ks q0).map fun v => ((Sum.inl v : L2.Key), V.ref (o q0 v))) (.inl v)).getD (.ref z) = .ref lv ∧ (upd H z (.lst [])) lv = some (.lst ((B q0 v).map fun (i : Nat) => V.int (i : Int))) := by
      rw [valV_dk]
      by_cases hin : v ∈ ks q0
      · rw [if_pos hin]; exact ⟨_, rfl, sz _ _ (W.2.2.1 q0 hq v hin).1⟩
      · rw [if_neg hin, W.2.2.2.1 q0 v hin]; exact ⟨z, rfl, upd_same⟩
    obtain ⟨lv, elv, hlv⟩ := hlet
    rw [elv]
    have S1 := S.mono sz
    generalize upd H z (.lst []) = H1 at sz hlv S1
    have e1' := sz _ _ e1
    refine ⟨_, rfl, lv, _, rfl, .inl hlv, _, _, rfl, rfl, _, rfl, ?_⟩
    by_cases h0 : B q0 v = []
    · refine ite_f (by rw [h0]; rfl) ?_
      refine ⟨_, rfl, D.sp, dx, _, rfl, S1.same _ _ hins, by kernel_rfl, _, rfl, sa, dxS, fS, _, rfl, e1', e2, _, rfl, F, L, r, D, Av, told, B, q0, v, rfl, A1, S1, hq, hn, hBl, fun H2 S2 f2 => ?_⟩
      exact qp h0 _ S2 ((Fr.of_same sz).trans f2)
    · obtain ⟨i0, is, eis⟩ : ∃ i0 is, B q0 v = i0 :: is := by
        cases e : B q0 v with
        | nil => exact absurd e h0
        | cons i0 is => exact ⟨i0, is, rfl⟩
      refine ite_t (by rw [eis]; simp) ?_
      refine ⟨_, rfl, sa, dxS, fS, rfl, e1', e4, _, rfl, _, rfl, D.sp, dx, _, rfl, S1.same _ _ hins, by kernel_rfl, _, rfl, lv, _, 0, .int i0, rfl, rfl, hlv, by rw [eis]; rfl, F, L, r, D, Av, told, B, _, i0, rfl, A1, S1, hBm i0 (by rw [eis]; simp), fun x H2 s2 => ?_⟩
      exact ⟨sa, d, q0, v, x, kvs, rfl, ⟨dxS, fS, s2 _ _ e1', e2, e3, e4⟩, s2 _ _ (sz _ _ hd), hkl, qr h0 _ x (sz.trans s2)⟩

end
end S1

/-! LD: why the search is right, in plain terms -/
namespace S1
open PySem L2
/-- an integer for each pair, so that each run's row is let -/
def Sol (L : Lots) (r : Nat) (T : Nat → Int) : Prop := ∀ i, i < mR L r → (ixAt L r i).map T ∈ lotAt L (runAt L r i).1
def Ext (told : List (Option Int)) (T : Nat → Int) : Prop := ∀ q v, told.getD q none = some v → T q = v
theorem row_eq {a b : List Int} {m : Nat} (ha : a.length = 3) (hb : b.length = 3) (hm : m < 3) (h : a.take m ++ a.drop (m + 1) = b.take m ++ b.drop (m + 1)) (e : a.getD m 0 = b.getD m 0) : a = b := by
  match a, ha, b, hb with
  | [a0, a1, a2], _, [b0, b1, b2], _ =>
    obtain rfl | rfl | rfl : m = 0 ∨ m = 1 ∨ m = 2 := by omega
    · simp_all
    · simp_all
    · simp_all
theorem filter_ne3 {l : List Nat} {m q : Nat} (hl : l.length = 3) (hn : l.Nodup) (hm : l[m]? = some q) : l.filter (fun j => decide (j ≠ q)) = l.take m ++ l.drop (m + 1) := by
  match l, hl with
  | [a, b, c], _ =>
    have hn' : a ≠ b ∧ a ≠ c ∧ b ≠ c := by simp at hn; omega
    obtain ⟨h1, h2, h3⟩ := hn'
    have hm3 : m < 3 := (List.getElem?_eq_some_iff.mp hm).1
    obtain rfl | rfl | rfl : m = 0 ∨ m = 1 ∨ m = 2 := by omega
    · obtain rfl : a = q := by simpa using hm
      simp [h1.symm, h2.symm]
    · obtain rfl : b = q := by simpa using hm
      simp [h1, h3.symm]
    · obtain rfl : c = q := by simpa using hm
      simp [h2, h3]
section
variable {L : Lots} {r : Nat}
theorem ix3 (hL : LotsOk L) {i : Nat} (hi : i < mR L r) : (ixAt L r i).length = 3 ∧ (ixAt L r i).Nodup := by
  obtain ⟨u, eu, hu⟩ := run_at hi
  rw [ixAt_of eu]
  exact ⟨ixOf_len hL hu, ixOf_nodup hu⟩
/-- a pair's machine is its place in a run -/
theorem mq_at (hL : LotsOk L) (hr : r ≤ 1) {i m q : Nat} (hi : i < mR L r) (h : (ixAt L r i)[m]? = some q) : mq L r q = m ∧ q < nP L r ∧ m < 3 := by
  obtain ⟨u, eu, hu⟩ := run_at hi
  rw [ixAt_of eu] at h
  have hm3 : m < 3 := by rw [← ixOf_len hL hu]; exact (List.getElem?_eq_some_iff.mp h).1
  have hq := ixOf_lt hu q (List.mem_of_getElem? h)
  simp only [ixOf, List.getElem?_map] at h
  obtain ⟨k, ek, rfl⟩ := Option.map_eq_some_iff.mp h
  have hk := prsR_sub hu k (List.mem_of_getElem? ek)
  have e1 := idxOf_get hk
  refine ⟨?_, hq, hm3⟩
  unfold mq
  rw [List.getD_eq_getElem?_getD, e1]
  simp only [prsR, pairsOf, List.getElem?_mapIdx] at ek
  obtain ⟨v, _, rfl⟩ := Option.map_eq_some_iff.mp ek
  simp [machK]
theorem pair_run (hL : LotsOk L) {q : Nat} (hq : q < nP L r) : ∃ i, i < mR L r ∧ q ∈ ixAt L r i := by
  have hm := List.getElem_mem (l := pairsL L r) hq
  obtain ⟨u, hu, hk⟩ := ksOf_mem.mp hm
  obtain ⟨i, ei⟩ := List.mem_iff_getElem?.mp hu
  refine ⟨i, (List.getElem?_eq_some_iff.mp ei).1, ?_⟩
  rw [ixAt_of ei]
  refine List.mem_map.mpr ⟨_, hk, ?_⟩
  have hn : (pairsL L r).Nodup := ksOf_nodup L _
  exact nodup_at hn (idxOf_get hm) (List.getElem?_eq_getElem hq)
theorem lot_row (hL : LotsOk L) {i : Nat} (hi : i < mR L r) {row : List Int} (h : row ∈ lotAt L (runAt L r i).1) : (runAt L r i).1 < L.length ∧ (∃ p ∈ L, p.2 = lotAt L (runAt L r i).1) ∧ Row3 row := by
  obtain ⟨u, eu, hu⟩ := run_at hi
  have hat := (runsL_at hu).1
  rw [runAt_of eu] at h ⊢
  have e : lotAt L u.1 = L[u.1].2 := by unfold lotAt; rw [List.getD_eq_getElem?_getD, List.getElem?_eq_getElem hat]; rfl
  refine ⟨hat, ⟨L[u.1], List.getElem_mem hat, e.symm⟩, ?_⟩
  rw [e] at h
  exact (hL.lots _ (List.getElem_mem hat)).rows row h
/-- what is let, said of rows -/
theorem let_iff (hL : LotsOk L) (hr : r ≤ 1) {i q : Nat} {told : List (Option Int)} {T : Nat → Int} (hi : i < mR L r) (hq : q ∈ ixAt L r i) (ht : ∀ j ∈ ixAt L r i, j ≠ q → told.getD j none = some (T j)) :
    V.int (T q) ∈ glist (eAll L L.length) (othK L r told i q) ↔ (ixAt L r i).map T ∈ lotAt L (runAt L r i).1 := by
  obtain ⟨m, em⟩ := List.mem_iff_getElem?.mp hq
  obtain ⟨h3, hnd⟩ := ix3 hL hi
  obtain ⟨emq, hqn, hm3⟩ := mq_at hL hr hi em
  obtain ⟨u, eu, hu⟩ := run_at hi
  have hat := (runsL_at hu).1
  have eru := runAt_of eu
  have ek : othK L r told i q = .tup [.num ((runAt L r i).1 : Nat), .num (m : Nat), rowK (((ixAt L r i).map T).take m ++ ((ixAt L r i).map T).drop (m + 1))] := by
    unfold othK rowK
    rw [emq, ← List.map_take, ← List.map_drop, ← List.map_append, ← filter_ne3 h3 hnd em, List.map_map]
    congr 4
    refine congrArg NestedKey.tup (List.map_congr_left fun j hj => ?_)
    have hj' := List.mem_filter.mp hj
    rw [ht j hj'.1 (by simpa using hj'.2)]
    rfl
  have eT : ((ixAt L r i).map T).getD m 0 = T q := by rw [List.getD_eq_getElem?_getD, List.getElem?_map, em]; rfl
  rw [glist_mem, ek]
  constructor
  · intro h
    simp only [eAll, List.mem_flatMap, List.mem_range, eRow, List.mem_map] at h
    obtain ⟨at', hat', row, hrow, me, hme, e⟩ := h
    obtain ⟨e1, e2⟩ := Prod.mk.inj e
    simp only [letK, NestedKey.tup.injEq, List.cons.injEq, NestedKey.num.injEq, and_true] at e1
    obtain ⟨g1, g2, g3⟩ := e1
    obtain rfl : at' = (runAt L r i).1 := by omega
    obtain rfl : me = m := by omega
    have g4 : row.take me ++ row.drop (me + 1) = ((ixAt L r i).map T).take me ++ ((ixAt L r i).map T).drop (me + 1) := by
      unfold rowK at g3
      have := NestedKey.tup.inj g3
      exact (List.map_inj_right (fun a b h => NestedKey.num.inj h)).mp this
    have hr3 := (lot_row hL hi hrow).2.2
    have : row = (ixAt L r i).map T := row_eq hr3.1 (by simp [h3]) hm3 g4 (by rw [eT]; exact V.int.inj e2)
    rw [← this]; exact hrow
  · intro h
    simp only [eAll, List.mem_flatMap, List.mem_range, eRow, List.mem_map]
    exact ⟨_, by rw [eru]; exact hat, _, h, m, hm3, by rw [letK, eT]⟩
theorem bar_sound (hL : LotsOk L) (hr : r ≤ 1) {i q : Nat} {told : List (Option Int)} {T : Nat → Int} (hi : i < mR L r) (hq : q ∈ ixAt L r i) (ht : ∀ j ∈ ixAt L r i, j ≠ q → told.getD j none = some (T j)) (h : (ixAt L r i).map T ∈ lotAt L (runAt L r i).1) :
    T q ∉ barredL L r told i q := fun hb => by
  have := (List.mem_filter.mp hb).2
  simp only [decide_eq_true_eq] at this
  exact this ((let_iff hL hr hi hq ht).mpr h)
theorem bar_complete (hL : LotsOk L) (hr : r ≤ 1) {i q : Nat} {told : List (Option Int)} {T : Nat → Int} (hi : i < mR L r) (hq : q ∈ ixAt L r i) (ht : ∀ j ∈ ixAt L r i, j ≠ q → told.getD j none = some (T j)) (hv : T q ∈ intsL L (mq L r q)) (h : T q ∉ barredL L r told i q) :
    (ixAt L r i).map T ∈ lotAt L (runAt L r i).1 := by
  refine (let_iff hL hr hi hq ht).mp (Classical.byContradiction fun c => h ?_)
  exact List.mem_filter.mpr ⟨hv, by simpa using c⟩
theorem sol_ints (hL : LotsOk L) (hr : r ≤ 1) {T : Nat → Int} (hT : Sol L r T) {q : Nat} (hq : q < nP L r) : T q ∈ intsL L (mq L r q) := by
  obtain ⟨i, hi, hm⟩ := pair_run hL hq
  obtain ⟨m, em⟩ := List.mem_iff_getElem?.mp hm
  obtain ⟨emq, hqn, hm3⟩ := mq_at hL hr hi em
  obtain ⟨_, ⟨p, hp, e⟩, h3⟩ := lot_row hL hi (hT i hi)
  rw [emq, intsL_mem hL hm3, intIn_iff]
  refine ⟨p, hp, _, by rw [e]; exact hT i hi, ?_⟩
  rw [List.getD_eq_getElem?_getD, List.getElem?_map, em]; rfl
structure Good (L : Lots) (r : Nat) (told : List (Option Int)) (B : Nat → Int → List Nat) : Prop where
  g0 : ∀ q v i, i ∈ B q v → i < mR L r
  g1 : ∀ q v i, told.getD q none = none → i ∈ B q v → openL L r told i = [q] ∧ v ∈ barredL L r told i q
  g2 : ∀ i q v, i < mR L r → openL L r told i = [q] → v ∈ barredL L r told i q → i ∈ B q v
  g3 : ∀ i, i < mR L r → openL L r told i = [] → (ixAt L r i).map (fun j => (told.getD j none).getD 0) ∈ lotAt L (runAt L r i).1
theorem stepB_mem {told : List (Option Int)} {B : Nat → Int → List Nat} {i j q : Nat} {v : Int} : j ∈ stepB L r told B i q v ↔ j ∈ B q v ∨ (j = i ∧ openL L r told i = [q] ∧ v ∈ barredL L r told i q) := by
  unfold stepB
  by_cases h : (openL L r told i).length = 1
  · rw [if_pos h]
    obtain ⟨q', e⟩ : ∃ q', openL L r told i = [q'] := by
      match openL L r told i, h with
      | [q'], _ => exact ⟨q', rfl⟩
    rw [e]
    show (j ∈ addB B q' (barredL L r told i q') i q v) ↔ _
    unfold addB
    by_cases c : q = q' ∧ v ∈ barredL L r told i q'
    · obtain ⟨rfl, hv⟩ := c
      rw [if_pos ⟨rfl, hv⟩]; simp [hv]
    · rw [if_neg c]
      constructor
      · exact .inl
      · rintro (h | ⟨_, h1, h2⟩)
        · exact h
        · have : q' = q := by simpa using h1
          subst this
          exact absurd ⟨rfl, h2⟩ c
  · rw [if_neg h]
    constructor
    · exact .inl
    · rintro (h1 | ⟨_, h1, _⟩)
      · exact h1
      · rw [h1] at h; exact absurd rfl h
theorem foldB_mem {told : List (Option Int)} {j q : Nat} {v : Int} : ∀ {is : List Nat} {B : Nat → Int → List Nat}, j ∈ is.foldl (stepB L r told) B q v ↔ j ∈ B q v ∨ (j ∈ is ∧ openL L r told j = [q] ∧ v ∈ barredL L r told j q)
  | [], B => by simp
  | i :: is, B => by
    rw [List.foldl_cons, foldB_mem, stepB_mem]
    constructor
    · rintro ((h | ⟨rfl, h⟩) | ⟨h1, h⟩)
      · exact .inl h
      · exact .inr ⟨List.mem_cons_self, h⟩
      · exact .inr ⟨List.mem_cons_of_mem _ h1, h⟩
    · rintro (h | ⟨h1, h⟩)
      · exact .inl (.inl h)
      · rcases List.mem_cons.mp h1 with rfl | h1
        · exact .inl (.inr ⟨rfl, h⟩)
        · exact .inr ⟨h1, h⟩
theorem barred_out {q i q' : Nat} {told : List (Option Int)} {x : Option Int} (hq : q < told.length) (h : q ∉ ixAt L r i) : barredL L r (told.set q x) i q' = barredL L r told i q' := by
  have e : othK L r (told.set q x) i q' = othK L r told i q' := by
    unfold othK
    congr 4
    refine congrArg NestedKey.tup (List.map_congr_left fun j hj => ?_)
    have hj' := (List.mem_filter.mp hj).1
    rw [getD_set hq, if_neg fun z : j = q => h (z ▸ hj')]
  unfold barredL
  rw [e]
theorem Good.init (hL : LotsOk L) : Good L r (List.replicate (nP L r) none) (fun _ _ => []) := by
  have ho : ∀ i, i < mR L r → (openL L r (List.replicate (nP L r) none) i).length = 3 := fun i hi => by
    unfold openL
    rw [List.filter_eq_self.mpr fun q _ => ?_]
    · exact (ix3 hL hi).1
    · rw [List.getD_eq_getElem?_getD]
      rw [List.getElem?_replicate]
      split <;> rfl
  refine ⟨by simp, by simp, fun i q v hi e _ => ?_, fun i hi e => ?_⟩
  · have := ho i hi; rw [e] at this; simp at this
  · have := ho i hi; rw [e] at this; simp at this
theorem Good.put (hL : LotsOk L) (hr : r ≤ 1) {told : List (Option Int)} {B : Nat → Int → List Nat} (G : Good L r told B) {q : Nat} {v : Int} (hq : q < told.length) (hn : told.getD q none = none) (hv : v ∈ intsL L (mq L r q)) (hB : B q v = []) :
    Good L r (told.set q (some v)) (putB L r (told.set q (some v)) B q) := by
  have nn : ∀ q', (told.set q (some v)).getD q' none = none → q' ≠ q ∧ told.getD q' none = none := fun q' h => by
    rw [getD_set hq] at h
    by_cases c : q' = q
    · rw [if_pos c] at h; cases h
    · rw [if_neg c] at h; exact ⟨c, h⟩
  have hmem : ∀ i, q ∈ ixAt L r i → q ∈ openL L r told i := fun i h => by
    unfold openL; rw [List.mem_filter]; exact ⟨h, by rw [hn]; rfl⟩
  refine ⟨fun q' v' i h => ?_, fun q' v' i h1 h2 => ?_, fun i q' v' hi h1 h2 => ?_, fun i hi h1 => ?_⟩
  · rcases foldB_mem.mp h with h | ⟨h, _⟩
    · exact G.g0 _ _ _ h
    · exact (placesL_mem.mp h).1
  · obtain ⟨n1, n2⟩ := nn q' h1
    rcases foldB_mem.mp h2 with h | ⟨_, h⟩
    · obtain ⟨a1, a2⟩ := G.g1 _ _ _ n2 h
      have hout : q ∉ ixAt L r i := fun hm => by
        have := hmem i hm
        rw [a1] at this
        exact n1 (List.mem_singleton.mp this).symm
      rw [open_out hq hout, barred_out hq hout]
      exact ⟨a1, a2⟩
    · exact h
  · refine foldB_mem.mpr ?_
    by_cases hm : q ∈ ixAt L r i
    · exact .inr ⟨placesL_mem.mpr ⟨hi, hm⟩, h1, h2⟩
    · rw [open_out hq hm] at h1
      rw [barred_out hq hm] at h2
      exact .inl (G.g2 _ _ _ hi h1 h2)
  · by_cases hm : q ∈ ixAt L r i
    · have ho := hmem i hm
      have e := open_in' (L := L) (r := r) (i := i) (v := v) hq
      rw [h1] at e
      have hnd : (openL L r told i).Nodup := (ix3 hL hi).2.sublist List.filter_sublist
      have hl := filter_ne_len hnd ho
      rw [← e] at hl
      obtain ⟨q', eo⟩ : ∃ q', openL L r told i = [q'] := by
        match openL L r told i, hl with
        | [q'], _ => exact ⟨q', rfl⟩
      rw [eo] at ho
      obtain rfl := List.mem_singleton.mp ho
      have hnb : v ∉ barredL L r told i q := fun hb => by
        have := G.g2 i q v hi eo hb
        rw [hB] at this; cases this
      have eq_ : ((told.set q (some v)).getD q none).getD 0 = v := by rw [getD_set hq, if_pos rfl]; rfl
      refine bar_complete hL hr (told := told) (q := q) (T := fun j => ((told.set q (some v)).getD j none).getD 0) hi hm (fun j hj hne => ?_) (by simp only [eq_]; exact hv) (by simp only [eq_]; exact hnb)
      simp only [getD_set hq, if_neg hne]
      cases et : told.getD j none with
      | some z => rfl
      | none =>
        have : j ∈ openL L r told i := by unfold openL; rw [List.mem_filter]; exact ⟨hj, by rw [et]; rfl⟩
        rw [eo] at this
        exact absurd (List.mem_singleton.mp this) hne
    · rw [open_out hq hm] at h1
      have := G.g3 i hi h1
      rw [show (ixAt L r i).map (fun j => ((told.set q (some v)).getD j none).getD 0) = (ixAt L r i).map (fun j => (told.getD j none).getD 0) from List.map_congr_left fun j hj => by rw [getD_set hq, if_neg fun z : j = q => hm (z ▸ hj)]]
      exact this
end
end S1

/-! LE: the search by levels -/
namespace S1
open PySem L2
section
variable {L : Lots} {r : Nat}
def vOf (L : Lots) (r q n : Nat) : Int := (intsL L (mq L r q)).getD n 0
abbrev Lvs := List (Nat × Nat)
def tOf (L : Lots) (r : Nat) : Lvs → List (Option Int)
  | [] => List.replicate (nP L r) none
  | (q, n) :: es => (tOf L r es).set q (some (vOf L r q n))
def bOf (L : Lots) (r : Nat) : Lvs → Nat → Int → List Nat
  | [] => fun _ _ => []
  | (q, n) :: es => putB L r (tOf L r ((q, n) :: es)) (bOf L r es) q
def NoExt (L : Lots) (r : Nat) (es : Lvs) (q n : Nat) : Prop := ∀ T, Sol L r T → Ext (tOf L r es) T → T q ≠ vOf L r q n
def lenI (L : Lots) (r q : Nat) : Nat := (intsL L (mq L r q)).length
def LvOk (L : Lots) (r : Nat) : Lvs → Prop
  | [] => True
  | (q, n) :: es => q < nP L r ∧ (tOf L r es).getD q none = none ∧ n < lenI L r q ∧ bOf L r es q (vOf L r q n) = [] ∧ (∀ k, k < n → NoExt L r es q k) ∧ LvOk L r es
structure TopOk (L : Lots) (r : Nat) (q n : Nat) (es : Lvs) : Prop where
  lt : q < nP L r
  op : (tOf L r es).getD q none = none
  le : n ≤ lenI L r q
  no : ∀ k, k < n → NoExt L r es q k
  ok : LvOk L r es
theorem tOf_len : ∀ es : Lvs, (tOf L r es).length = nP L r
  | [] => by simp [tOf]
  | (q, n) :: es => by simp [tOf, tOf_len es]
theorem vOf_mem {q n : Nat} (h : n < lenI L r q) : vOf L r q n ∈ intsL L (mq L r q) ∧ (intsL L (mq L r q))[n]? = some (vOf L r q n) := by
  unfold vOf lenI at *
  rw [List.getD_eq_getElem?_getD, List.getElem?_eq_getElem h]
  exact ⟨List.getElem_mem h, rfl⟩
theorem vOf_all {q : Nat} {v : Int} (h : v ∈ intsL L (mq L r q)) : ∃ n, n < lenI L r q ∧ v = vOf L r q n := by
  obtain ⟨n, e⟩ := List.mem_iff_getElem?.mp h
  refine ⟨n, (List.getElem?_eq_some_iff.mp e).1, ?_⟩
  unfold vOf
  rw [List.getD_eq_getElem?_getD, e]; rfl
theorem good_of (hL : LotsOk L) (hr : r ≤ 1) : ∀ es : Lvs, LvOk L r es → Good L r (tOf L r es) (bOf L r es)
  | [], _ => Good.init hL
  | (q, n) :: es, ⟨h1, h2, h3, h4, h5, h6⟩ => Good.put hL hr (good_of hL hr es h6) (by rw [tOf_len]; exact h1) h2 (vOf_mem h3).1 h4
theorem bOf_len : ∀ es : Lvs, ∀ q v, (bOf L r es q v).length ≤ mR L r * es.length
  | [] => fun q v => by simp [bOf]
  | (q, n) :: es => fun q' v' => by
    have := foldB_len (L := L) (r := r) (told := tOf L r ((q, n) :: es)) (is := placesL L r q) (bOf_len es) q' v'
    have h2 := placesL_len L r q
    show (putB L r (tOf L r ((q, n) :: es)) (bOf L r es) q q' v').length ≤ _
    unfold putB
    simp only [List.length_cons, Nat.mul_succ]; omega
/-- all that T is told, it tells -/
theorem Ext.put {es : Lvs} {T : Nat → Int} {q n : Nat} (h : Ext (tOf L r es) T) (hq : q < nP L r) (e : T q = vOf L r q n) : Ext (tOf L r ((q, n) :: es)) T := by
  intro j v hj
  simp only [tOf] at hj
  rw [getD_set (by rw [tOf_len]; exact hq)] at hj
  by_cases c : j = q
  · rw [if_pos c] at hj; cases hj; rw [c, e]
  · rw [if_neg c] at hj; exact h j v hj
theorem top_closed (hL : LotsOk L) (hr : r ≤ 1) {q n q1 n1 : Nat} {es : Lvs} (h : TopOk L r q n ((q1, n1) :: es)) (hn : n = lenI L r q) : TopOk L r q1 (n1 + 1) es := by
  obtain ⟨h1, h2, h3, h4, h5, h6⟩ := h.ok
  refine ⟨h1, h2, h3, fun k hk => ?_, h6⟩
  rcases Nat.lt_or_ge k n1 with c | c
  · exact h5 k c
  · obtain rfl : k = n1 := by omega
    intro T hT hE e
    obtain ⟨m, hm, ev⟩ := vOf_all (sol_ints hL hr hT h.lt)
    exact h.no m (by omega) T hT (hE.put h1 e) ev
theorem top_end (hL : LotsOk L) (hr : r ≤ 1) {q n : Nat} (h : TopOk L r q n []) (hn : n = lenI L r q) : ¬ ∃ T, Sol L r T := fun ⟨T, hT⟩ => by
  obtain ⟨m, hm, ev⟩ := vOf_all (sol_ints hL hr hT h.lt)
  refine h.no m (by omega) T hT (fun j v hj => ?_) ev
  simp only [tOf] at hj
  rw [List.getD_eq_getElem?_getD, List.getElem?_replicate] at hj
  split at hj <;> cases hj
theorem top_refused (hL : LotsOk L) (hr : r ≤ 1) {q n : Nat} {es : Lvs} (h : TopOk L r q n es) (hn : n < lenI L r q) (hB : bOf L r es q (vOf L r q n) ≠ []) : TopOk L r q (n + 1) es := by
  refine ⟨h.lt, h.op, hn, fun k hk => ?_, h.ok⟩
  rcases Nat.lt_or_ge k n with c | c
  · exact h.no k c
  · obtain rfl : k = n := by omega
    intro T hT hE e
    have G := good_of hL hr es h.ok
    obtain ⟨i, hi⟩ := List.exists_mem_of_ne_nil _ hB
    have him := G.g0 _ _ _ hi
    obtain ⟨ho, hb⟩ := G.g1 _ _ _ h.op hi
    have hq : q ∈ ixAt L r i := by
      have : q ∈ openL L r (tOf L r es) i := by rw [ho]; simp
      exact (List.mem_filter.mp this).1
    refine bar_sound hL hr him hq (fun j hj hne => ?_) (hT i him) (by rw [e]; exact hb)
    cases et : (tOf L r es).getD j none with
    | some z => rw [hE j z et]
    | none =>
      have : j ∈ openL L r (tOf L r es) i := by unfold openL; rw [List.mem_filter]; exact ⟨hj, by rw [et]; rfl⟩
      rw [ho] at this
      exact absurd (List.mem_singleton.mp this) hne
theorem top_put {q n : Nat} {es : Lvs} (h : TopOk L r q n es) (hn : n < lenI L r q) (hB : bOf L r es q (vOf L r q n) = []) : LvOk L r ((q, n) :: es) := ⟨h.lt, h.op, hn, hB, h.no, h.ok⟩
theorem all_told (hL : LotsOk L) (hr : r ≤ 1) {es : Lvs} (h : LvOk L r es) (ha : ∀ q, q < nP L r → (tOf L r es).getD q none ≠ none) : Sol L r fun j => ((tOf L r es).getD j none).getD 0 := fun i hi => by
  refine (good_of hL hr es h).g3 i hi ?_
  unfold openL
  rw [List.filter_eq_nil_iff]
  intro q hq
  obtain ⟨m, em⟩ := List.mem_iff_getElem?.mp hq
  have := ha q (mq_at hL hr hi em).2.1
  cases e : (tOf L r es).getD q none with
  | none => exact absurd e this
  | some z => simp
/-! the measure -/
def cst : Nat → Nat
  | 0 => 1
  | d + 1 => 1 + 3 * (1 + cst d)
def opn (L : Lots) (r : Nat) (es : Lvs) : Nat := ((tOf L r es).filter (·.isNone)).length
def muE (L : Lots) (r : Nat) : Lvs → Nat
  | [] => 0
  | (q, n) :: es => (lenI L r q - n - 1) * (1 + cst (opn L r es - 1)) + 1 + muE L r es
def mu (L : Lots) (r : Nat) (q n : Nat) (es : Lvs) : Nat := (lenI L r q - n) * (1 + cst (opn L r es - 1)) + 1 + muE L r es
theorem none_set {l : List (Option Int)} {v : Int} : ∀ {q : Nat}, q < l.length → l.getD q none = none → ((l.set q (some v)).filter (·.isNone)).length + 1 = (l.filter (·.isNone)).length := by
  induction l with
  | nil => intro q h _; cases h
  | cons a l ih =>
    intro q h hn
    cases q with
    | zero =>
      have : a = none := by simpa using hn
      subst this
      simp
    | succ q =>
      have := ih (q := q) (by simpa using h) (by simpa using hn)
      cases a <;> simp [this] <;> omega
theorem opn_put {es : Lvs} {q n : Nat} (hq : q < nP L r) (h : (tOf L r es).getD q none = none) : opn L r ((q, n) :: es) + 1 = opn L r es := none_set (by rw [tOf_len]; exact hq) h
theorem lenI_le (q : Nat) : lenI L r q ≤ 3 := by unfold lenI intsL; exact Nat.le_trans (List.length_filter_le _ _) (by decide)
theorem mu_closed {q n q1 n1 : Nat} {es : Lvs} (hn : n = lenI L r q) (h1 : n1 < lenI L r q1) : mu L r q1 (n1 + 1) es < mu L r q n ((q1, n1) :: es) := by
  simp only [mu, muE, hn, Nat.sub_self, Nat.zero_mul]
  rw [Nat.sub_add_eq]; omega
theorem mu_refused {q n : Nat} {es : Lvs} (hn : n < lenI L r q) : mu L r q (n + 1) es < mu L r q n es := by
  simp only [mu]
  obtain ⟨x, hx⟩ : ∃ x, lenI L r q - n = x + 1 := ⟨lenI L r q - n - 1, by omega⟩
  rw [show lenI L r q - (n + 1) = x by omega, hx, Nat.succ_mul]
  omega
theorem mu_put {q n p : Nat} {es : Lvs} (hn : n < lenI L r q) (hq : q < nP L r) (hop : (tOf L r es).getD q none = none) (hp : p < nP L r) (hpo : (tOf L r ((q, n) :: es)).getD p none = none) : mu L r p 0 ((q, n) :: es) < mu L r q n es := by
  have h1 := opn_put (n := n) hq hop
  have h2 := opn_put (n := 0) hp hpo
  obtain ⟨x, hx⟩ : ∃ x, lenI L r q - n = x + 1 := ⟨lenI L r q - n - 1, by omega⟩
  simp only [mu, muE]
  rw [hx, Nat.succ_mul, show x + 1 - 1 = x by omega, Nat.sub_zero]
  obtain ⟨d, hd⟩ : ∃ d, opn L r ((q, n) :: es) = d + 1 := ⟨_, h2.symm⟩
  rw [show opn L r es - 1 = d + 1 by omega, hd, show d + 1 - 1 = d by omega]
  have h3 := lenI_le (L := L) (r := r) p
  have h4 : lenI L r p * (1 + cst d) ≤ 3 * (1 + cst d) := Nat.mul_le_mul_right _ h3
  have h5 : cst (d + 1) = 1 + 3 * (1 + cst d) := rfl
  omega
theorem mu_pos (q n : Nat) (es : Lvs) : 0 < mu L r q n es := by unfold mu; omega
theorem nP_pos (hL : LotsOk L) : 0 < nP L r := by
  have hp := hL.pos
  have hm : 0 < mR L r := by
    unfold mR runsL
    rw [runsUp_len, Nat.add_zero]
    exact Nat.mul_pos hp (Nat.pow_pos (by decide))
  obtain ⟨h3, _⟩ := ix3 hL hm
  obtain ⟨u, eu, hu⟩ := run_at hm
  rw [ixAt_of eu] at h3
  match e : ixOf L r u, h3 with
  | [a, b, c], _ => exact Nat.lt_of_le_of_lt (Nat.zero_le _) (ixOf_lt hu a (by rw [e]; simp))
end
end S1

/-! LF: the search, walked -/
namespace S1
open PySem L2
theorem putK_new {kvs : List (L2.Key × V)} {k : L2.Key} {v : V} (h : k ∉ kvs.map (·.1)) : (putK kvs k v).map (·.1) = kvs.map (·.1) ++ [k] := by
  unfold putK
  have e : (kvs.any fun kv => decide (kv.1 = k)) = false := by
    rw [List.any_eq_false]
    intro p hp
    simp only [decide_eq_true_eq]
    exact fun z => h (List.mem_map.mpr ⟨p, hp, z⟩)
  rw [e, if_neg (by decide)]; simp
/-- splits and levels, side by side -/
def Sps (R : Addr × Addr → Nat × Nat → Prop) : List (Addr × Addr) → Lvs → Prop
  | [], [] => True
  | p :: ps, l :: ls => R p l ∧ Sps R ps ls
  | _, _ => False
theorem Sps.imp {R R' : Addr × Addr → Nat × Nat → Prop} : ∀ {ps : List (Addr × Addr)} {ls : Lvs} (_ : Sps R ps ls) (_ : ∀ p ∈ ps, ∀ l, R p l → R' p l), Sps R' ps ls
  | [], [], _, _ => trivial
  | p :: ps, l :: ls, ⟨a, b⟩, h => ⟨h p List.mem_cons_self l a, Sps.imp b fun p' hp => h p' (List.mem_cons_of_mem _ hp)⟩
  | [], _ :: _, h, _ => h
  | _ :: _, [], h, _ => h
section
variable {P : Program} {w : World} {K : PySem.W.Frag} {mg : Str → Option Value} {base : Heap} {cT cR cS cA : Addr}
structure Sp1 (cS : Addr) (F : Hp) (L : Lots) (r : Nat) (D : Ads) (H : Hp) (p : Addr × Addr) (l : Nat × Nat) : Prop where
  at_ : SplitAt cS H p.1 l.1 p.2
  new : F p.2 = none
  nb : p.2 ∉ D.bds
  kv : ∃ kvs : List (L2.Key × V), H p.2 = some (.dK kvs) ∧ kvs.map (·.1) = ((intsL L (mq L r l.1)).take l.2).map fun v => (Sum.inl v : L2.Key)
structure Pile (cS : Addr) (F : Hp) (L : Lots) (r : Nat) (D : Ads) (H : Hp) (pl : Addr) (sd : List (Addr × Addr)) (ls : Lvs) : Prop where
  lst : H pl = some (.lst (sd.map fun p => V.ref p.1).reverse)
  nF : F pl = none
  n4 : pl ∉ D.m4
  dis : (sd.map (·.2)).Nodup
  sps : Sps (Sp1 cS F L r D H) sd ls
section
variable {F : Hp} {L : Lots} {r : Nat} {D : Ads} {Av : List Addr} {H : Hp} {told : List (Option Int)} {B : Nat → Int → List Nat} {left : List Int} {pl : Addr} {sd : List (Addr × Addr)} {ls : Lvs}
theorem Sp1.keep {H' : Hp} {p : Addr × Addr} {l : Nat × Nat} (h : Sp1 cS F L r D H p l) (k : ∀ b o, H b = some o → (∀ ys, o ≠ .lst ys) → (b = p.1 ∨ b = p.2) → H' b = some o) : Sp1 cS F L r D H' p l :=
  ⟨let ⟨dx, fs, e, r⟩ := h.at_; ⟨dx, fs, k _ _ e (fun _ z => nomatch z) (.inl rfl), r⟩, h.new, h.nb, let ⟨kvs, e, r⟩ := h.kv; ⟨kvs, k _ _ e (fun _ z => nomatch z) (.inr rfl), r⟩⟩
theorem Sp1.ins (h : Sp1 cS F L r D H p l) : ∃ dx fs, H p.1 = some (.ins cS dx fs) := let ⟨dx, fs, e, _⟩ := h.at_; ⟨dx, fs, e⟩
theorem Pile.same {H' : Hp} (h : Pile cS F L r D H pl sd ls) (s : Same H H') : Pile cS F L r D H' pl sd ls :=
  ⟨s _ _ h.lst, h.nF, h.n4, h.dis, h.sps.imp fun p _ l hp => hp.keep fun b o e _ _ => s _ _ e⟩
theorem Pile.fr {H' : Hp} (h : Pile cS F L r D H pl sd ls) (S : AskSt F L r D [pl] H told B left) (f : Fr D [pl] H H') : Pile cS F L r D H' pl sd ls := by
  refine ⟨f _ _ h.lst h.n4 (fun hb => ?_) (.inl (by simp)), h.nF, h.n4, h.dis, h.sps.imp fun p _ l hp => ?_⟩
  · obtain ⟨kvs, e⟩ := S.bd hb
    rw [h.lst] at e; cases e
  · refine hp.keep fun b o e n hb => f _ _ e (fun h4 => ?_) (fun hbd => ?_) (.inr n)
    · obtain ⟨ys, e2⟩ := S.at4 h4
      rw [e] at e2; cases e2; exact n _ rfl
    · rcases hb with rfl | rfl
      · obtain ⟨kvs, e2⟩ := S.bd hbd
        obtain ⟨dx, fs, e3⟩ := hp.ins
        rw [e2] at e3; cases e3
      · exact hp.nb hbd
theorem AskSt.updO (S : AskSt F L r D Av H told B left) {c : Addr} (ob : HO) (hF : F c = none) (h4 : c ∉ D.m4) (hb : c ∉ D.bds) (hk : c ∈ Av ∨ ∀ ys, H c ≠ some (.lst ys)) : AskSt F L r D Av (upd H c ob) told B left := by
  have n4 : ∀ y ∈ D.m4, y ≠ c := fun y hy z => h4 (z ▸ hy)
  refine ⟨same_updN S.same hF, by rw [upd_ne (n4 _ m4tl)]; exact S.told_, S.tln, let ⟨z, h, l⟩ := S.near; ⟨z, by rw [upd_ne (n4 _ m4nl)]; exact h, l⟩, let ⟨z, h, l⟩ := S.dead; ⟨z, by rw [upd_ne (n4 _ m4dd)]; exact h, l⟩, by rw [upd_ne (n4 _ m4lf)]; exact S.left_, S.lfn, ?_, fun x hx => some_upd (S.av x hx)⟩
  obtain ⟨ks, o, W⟩ := S.bars
  refine ⟨ks, o, BarsW.frame W (fun b hbm => upd_ne fun z => hb (z ▸ hbm)) fun q v hq hv => upd_ne fun z => ?_⟩
  obtain ⟨a1, _, _, a4⟩ := W.2.2.1 q hq v hv
  rcases hk with hk | hk
  · exact a4 (z ▸ hk)
  · exact hk _ (z ▸ a1)
theorem Pile.updP (h : Pile cS F L r D H pl sd ls) {sd' : List (Addr × Addr)} {ls' : Lvs} (hd : (sd'.map (·.2)).Nodup) (hs : Sps (Sp1 cS F L r D H) sd' ls') : Pile cS F L r D (upd H pl (.lst (sd'.map fun p => V.ref p.1).reverse)) pl sd' ls' :=
  ⟨upd_same, h.nF, h.n4, hd, hs.imp fun p _ l hp => hp.keep fun b o e n _ => by rw [upd_ne (fun z => by rw [z, h.lst] at e; cases e; exact n _ rfl)]; exact e⟩
theorem opn_es : ∀ {es : Lvs}, LvOk L r es → opn L r es + es.length = nP L r
  | [], _ => by
    simp only [opn, tOf, List.length_nil, Nat.add_zero]
    rw [List.filter_eq_self.mpr (by intro x hx; rw [(List.mem_replicate.mp hx).2]; rfl)]; simp
  | (q, n) :: es, ⟨h1, h2, h3, h4, h5, h6⟩ => by
    have := opn_put (n := n) h1 h2
    have := opn_es h6
    simp only [List.length_cons]; omega
theorem bOf_bd (hL : LotsOk L) (hr : r ≤ 1) {es : Lvs} (h : LvOk L r es) : ∀ q v, (bOf L r es q v).length ≤ 900000 := fun q v => by
  have h1 := bOf_len (L := L) (r := r) es q v
  have h2 := opn_es h
  have h3 := nP_le hL hr
  have h4 := mR_le hL hr
  have : mR L r * es.length ≤ 108 * 324 := Nat.mul_le_mul h4 (by omega)
  omega
end
section
variable {F : Hp} {L : Lots} {r : Nat} {D : Ads} {Av : List Addr} {H : Hp} {told : List (Option Int)} {B : Nat → Int → List Nat} {left : List Int} {pl : Addr} {sd : List (Addr × Addr)} {ls : Lvs}
theorem Sps.all {R : Addr × Addr → Nat × Nat → Prop} : ∀ {ps : List (Addr × Addr)} {ls : Lvs} (_ : Sps R ps ls), ps.length = ls.length ∧ ∀ p ∈ ps, ∃ l, R p l
  | [], [], _ => ⟨rfl, by simp⟩
  | p :: ps, l :: ls, ⟨a, b⟩ => by
    obtain ⟨h1, h2⟩ := Sps.all b
    refine ⟨by simp [h1], fun p' hp => ?_⟩
    rcases List.mem_cons.mp hp with rfl | h
    · exact ⟨l, a⟩
    · exact h2 p' h
  | [], _ :: _, h => absurd h (fun h => h)
  | _ :: _, [], h => absurd h (fun h => h)
theorem Pile.refuse {s1 d1 : Addr} {sd1 : List (Addr × Addr)} {q1 n1 : Nat} {es1 : Lvs} (PL : Pile cS F L r D H pl ((s1, d1) :: sd1) ((q1, n1) :: es1)) (S : AskSt F L r D Av H told B left) {kvs : List (L2.Key × V)} (hk : H d1 = some (.dK kvs)) (hn : n1 < lenI L r q1) (x : V) :
    Pile cS F L r D (upd H d1 (.dK (putK kvs (.inl (vOf L r q1 n1)) x))) pl ((s1, d1) :: sd1) ((q1, n1 + 1) :: es1) ∧ AskSt F L r D Av (upd H d1 (.dK (putK kvs (.inl (vOf L r q1 n1)) x))) told B left := by
  obtain ⟨sp1, spr⟩ := PL.sps
  obtain ⟨kvs', hk', hkk⟩ := sp1.kv
  have e : kvs' = kvs := by
    have h : H d1 = some (.dK kvs') := hk'
    rw [hk] at h; cases h; rfl
  subst e
  have hdis := PL.dis
  simp only [List.map_cons, List.nodup_cons] at hdis
  have npl : pl ≠ d1 := fun z => by have := PL.lst; rw [z, hk] at this; cases this
  obtain ⟨dx1, fs1, hi1, r1⟩ := sp1.at_
  have ns1 : s1 ≠ d1 := fun z => by
    have h : H s1 = _ := hi1
    rw [z, hk] at h; cases h
  have hnew : (Sum.inl (vOf L r q1 n1) : L2.Key) ∉ kvs'.map (·.1) := by
    rw [hkk]
    intro hm
    obtain ⟨v, hv, e⟩ := List.mem_map.mp hm
    have e' : v = vOf L r q1 n1 := Sum.inl.inj e
    obtain ⟨i, hi, ei⟩ := at_take hv
    have hnd : (intsL L (mq L r q1)).Nodup := by
      refine List.Pairwise.imp ?_ (intsL_sorted L (mq L r q1))
      intro a b h e
      rw [e] at h; omega
    have := nodup_at hnd ei (by rw [e']; exact (vOf_mem hn).2)
    omega
  refine ⟨⟨by rw [upd_ne npl]; exact PL.lst, PL.nF, PL.n4, PL.dis, ⟨⟨⟨dx1, fs1, by rw [upd_ne ns1]; exact hi1, r1⟩, sp1.new, sp1.nb, _, upd_same, ?_⟩, spr.imp fun p hp l h => ?_⟩⟩, S.updO _ sp1.new (fun h4 => ?_) sp1.nb (.inr fun ys e => by rw [hk] at e; cases e)⟩
  · rw [putK_new hnew, hkk]
    simp only
    rw [List.take_add_one, (vOf_mem hn).2, List.map_append]; rfl
  · refine h.keep fun b o e n hb => ?_
    have nb : b ≠ d1 := fun z => by
      rcases hb with rfl | rfl
      · obtain ⟨dx2, fs2, h2⟩ := h.ins
        rw [z, hk] at h2; cases h2
      · exact hdis.1 (z ▸ List.mem_map.mpr ⟨p, hp, rfl⟩)
    rw [upd_ne nb]; exact e
  · obtain ⟨ys, e⟩ := S.at4 h4
    have h : H d1 = _ := hk
    rw [h] at e; cases e
end
abbrev s_Asking_search : Stmt := inClass (top 36) 11
def sp_Asking_search (P : Program) (w : World) (cT cR cA : Addr) : Sp := fun vs H Q _ => ∃ (F : Hp) (L : Lots) (r : Nat) (D : Ads), vs = [.ref D.sp] ∧ Asked P w cT cR cA F L r D ∧ AskSt F L r D [] H (List.replicate (nP L r) none) (fun _ _ => []) (leftOf L r (List.replicate (nP L r) none)) ∧
  (∀ H' Av told B left, AskSt F L r D Av H' told B left → (∀ q, q < nP L r → told.getD q none ≠ none) → Sol L r (fun j => (told.getD j none).getD 0) → Q .non H') ∧
  ∀ v H', Same F H' → (¬ ∃ T, Sol L r T) → Q (.ref v) H'
theorem ok_Asking_search {f : Addr} {fd : FuncData} (F : Fun K "search" "Asking.search" s_Asking_search f fd) (T : Txt K mg cT cR cS cA) (G_next_pair : Me P w K mg base 1 cA "next_pair" ["self"] (sp_Asking_next_pair P w cT cR cA)) (G_closed : Me P w K mg base 1 cA "closed" ["self", "split"] (sp_Asking_closed P w cT cR cS cA)) (G_take_back : Me P w K mg base 3 cA "take_back" ["self", "pair"] (sp_Asking_take_back P w cT cR cA)) (G_tried : Me P w K mg base 4 cA "tried" ["self", "split"] (sp_Asking_tried P w cT cR cS cA)) (G_refuse : Me P w K mg base 1 cS "refuse" ["self", "integer", "refusal"] (sp_Split_refuse cS)) (G_Split : Mk1 P w K mg base 1 "Split" cS ["self", "pair"] (sp_Split___init__ cS)) : FnOk P w K mg base CX0 5 f fd ["self"] (sp_Asking_search P w cT cR cA) := by
  have sc : FnScope ["self", "pile", "found", "top", "elder", "integer", "later"] ["self"] (defScope s_Asking_search) := sc_by (by decide +kernel)
  refine F.ok sc (fun vs H Q E h => ?_) (fun cdv A outer s H vs Q E hr h => ?_)
  · obtain ⟨_, _, _, _, rfl, _⟩ := h; rfl
  · obtain ⟨F, L, r, D, rfl, A1, S, qn, qs⟩ := h
    have hu := hu9 hr
    have hu65 := hu65 hr
    have hu1 := hu1_of hr
    refine ⟨_, (pss_cons (ps_set (i := 1) sc.nd rfl (Or.inl rfl) (pe_lst (pa_cons (pe_mk1 G_Split (hr.mono (by decide)) rfl (pa_cons (pe_me0 G_next_pair T.clA (hr.mono (by decide)) (pv 0)) pa_nil)) pa_nil)))
      (pss_cons (ps_set (i := 2) sc.nd rfl (Or.inl rfl) pe_non)
      (pss_cons (ps_while PassesOwn.never (pt_cmpR op_gt (pe_callB lenF (by rfl) T.len (by decide +kernel) (pa_cons (pv 1) pa_nil)) pe_int (nomark _))
        (pss_cons (ps_set (i := 3) sc.nd rfl (Or.inl rfl) (pe_ix ixlast (pv 1) (pe_un un_neg pe_int) (fun _ _ => rfl)))
          (pss_one (ps_if (pt_cmpR op_eq (pe_callB call_lenD (by rfl) T.len (by decide +kernel) (pa_cons (pe_fl T.clS T.nS_refusals (pv 3)) pa_nil)) (pe_callB lenF (by rfl) T.len (by decide +kernel) (pa_cons (pe_ix ixl (pe_fl T.clA T.nA_integers (pv 0)) (pe_ix ixt (pe_ix ixl (pe_fl T.clR T.nR_pairs (pe_fl T.clA T.nA_runs (pv 0))) (pe_fl T.clS T.nS_pair (pv 3)) (fun _ _ => rfl)) pe_int (fun _ _ => rfl)) (fun _ _ => rfl)) pa_nil)) (nomark _))
            (pss_cons (ps_set (i := 2) sc.nd rfl (Or.inl rfl) (pe_me G_closed T.clA (hr.mono (by decide)) (pv 0) (pa_cons (pe_bm0 PySem.F.plainAttrs_list PySem.F.slot_list_pop PySem.F.type_list_pop mt_pop (pv 1)) pa_nil)))
              (pss_one (ps_if (pt_cmpR op_gt (pe_callB lenF (by rfl) T.len (by decide +kernel) (pa_cons (pv 1) pa_nil)) pe_int (nomark _))
                (pss_cons (ps_set (i := 4) sc.nd rfl (Or.inl rfl) (pe_ix ixlast (pv 1) (pe_un un_neg pe_int) (fun _ _ => rfl)))
                  (pss_cons (ps_set (i := 5) sc.nd rfl (Or.inl rfl) (pe_ix ixl (pe_fl T.clA T.nA_told (pv 0)) (pe_fl T.clS T.nS_pair (pv 4)) (fun _ _ => rfl)))
                  (pss_cons (ps_expr (pe_me G_take_back T.clA (hr.mono (by decide)) (pv 0) (pa_cons (pe_fl T.clS T.nS_pair (pv 4)) pa_nil)))
                  (pss_one (ps_expr (pe_me G_refuse T.clS (hr.mono (by decide)) (pv 4) (pa_cons (pv 5) (pa_cons (pv 2) pa_nil))))))))
                pss_nil)))
            (pss_one (ps_if (pt_val (pe_me G_tried T.clA (hr.mono (by decide)) (pv 0) (pa_cons (pv 3) pa_nil)))
                (pss_cons (ps_set (i := 6) sc.nd rfl (Or.inl rfl) (pe_me0 G_next_pair T.clA (hr.mono (by decide)) (pv 0)))
                  (pss_cons (ps_if (pt_cmp (pc_isN (pv 6)))
                    (pss_one (ps_ret pe_non))
                    pss_nil)
                  (pss_one (ps_expr (pe_bm PySem.F.plainAttrs_list PySem.F.slot_list_append PySem.F.type_list_append mt_append (pv 1) (pa_cons (pe_mk1 G_Split (hr.mono (by decide)) rfl (pa_cons (pv 6) pa_nil)) pa_nil))))))
                pss_nil))))))
      (pss_one (ps_ret (pv 2)))))), ?_⟩
    obtain ⟨dx, hins⟩ := A1.ins
    obtain ⟨dxR, fR, lp, lr, a, pvs, rs, RF⟩ := A1.runs.view A1.ok A1.r1
    have hsp := S.same _ _ hins
    have hL := A1.ok
    have hr1 := A1.r1
    have hpos := nP_pos (L := L) (r := r) hL
    refine ⟨_, rfl, D.sp, dx, _, rfl, hsp, by kernel_rfl, F, L, r, D, [], _, _, _, rfl, A1, S, fun H1 s1 h => absurd (by rw [List.getD_eq_getElem?_getD, List.getElem?_replicate]; simp [hpos]) (h 0 hpos), fun q H1 s1 hq hn => ?_⟩
    have S1 := S.mono s1
    refine fun x dxx hx hdx ndx => ?_
    have s2 : Same H1 (upd (upd H1 dxx (.own x)) x (.ins cS dxx [])) := fun b o e => by rw [upd_ne (ne_of_none e hx), upd_ne (ne_of_none e hdx)]; exact e
    refine ⟨x, dxx, q, rfl, upd_same, fun d H2 hd nd k2 spl hdk => ⟨rfl, ?_⟩⟩
    have s12 : Same H1 H2 := fun b o e => k2 _ _ (s2 _ _ e) (by simpa using ne_of_none e hx)
    have S2 := S1.mono s12
    refine ⟨by show 1 ≤ sizeLine; decide, fun pl hpl => ?_⟩
    have s3 : Same H2 (upd H2 pl (.lst [.ref x])) := same_upd _ hpl
    have S3 := S2.avoid hpl s3 upd_same
    have P3 : Pile cS F L r D (upd H2 pl (.lst [.ref x])) pl [(x, d)] [(q, 0)] := by
      refine ⟨upd_same, (S1.same.trans s12).free hpl, fun h => ?_, by simp, ⟨⟨?_, (S1.same.trans s2).free hd, fun h => ?_, [], s3 _ _ hdk, by simp⟩, trivial⟩⟩
      · obtain ⟨ys, e⟩ := S2.at4 h
        rw [hpl] at e; cases e
      · obtain ⟨dx', fs', e, r'⟩ := spl
        exact ⟨dx', fs', s3 _ _ e, r'⟩
      · obtain ⟨kvs, e⟩ := S1.bd h
        rw [s2 _ _ e] at hd; cases hd
    generalize upd H2 pl (.lst [.ref x]) = H3 at S3 P3
    refine ⟨fun m σ H' => (∃ (q n : Nat) (es : Lvs) (sd : List (Addr × Addr)) (fv : V) (v3 v4 v5 v6 : Option V), σ = [some (.ref D.sp), some (.ref pl), some fv, v3, v4, v5, v6] ∧ m = mu L r q n es ∧ TopOk L r q n es ∧ AskSt F L r D [pl] H' (tOf L r es) (bOf L r es) (leftOf L r (tOf L r es)) ∧ Pile cS F L r D H' pl sd ((q, n) :: es)) ∨
      ∃ (f : Addr) (v3 v4 v5 v6 : Option V), σ = [some (.ref D.sp), some (.ref pl), some (.ref f), v3, v4, v5, v6] ∧ m = 0 ∧ Same F H' ∧ H' pl = some (.lst []) ∧ ¬ ∃ T, Sol L r T, ⟨_, .inl ⟨q, 0, [], [(x, d)], .non, none, none, none, none, rfl, rfl, ⟨hq, hn, Nat.zero_le _, fun k hk => absurd hk (Nat.not_lt_zero _), trivial⟩, S3, P3⟩⟩, ?_⟩
    rintro m σ H4 (⟨q, n, es, sd, fv, v3, v4, v5, v6, rfl, rfl, top, S4, PL⟩ | ⟨f, v3, v4, v5, v6, rfl, rfl, sF, hpl4, hno⟩)
    · obtain ⟨p, sd', rfl⟩ : ∃ p sd', sd = p :: sd' := by
        cases sd with
        | nil => exact absurd PL.sps (fun h => h)
        | cons p sd' => exact ⟨p, sd', rfl⟩
      obtain ⟨sa, d4⟩ := p
      obtain ⟨sp1, spr⟩ := PL.sps
      obtain ⟨kvs, hkv, hkk⟩ := sp1.kv
      have hkl : kvs.length = n := by
        have := congrArg List.length hkk
        have hle := top.le
        unfold lenI at hle
        simp at this; omega
      have hspl := sp1.at_
      obtain ⟨dxS, fS, e1, e2, e3, e4⟩ := id hspl
      have R := RF.mono S4.same
      have hsp4 := S4.same _ _ hins
      obtain ⟨b2, x2, w2, g1, g2, g3, g4, g5⟩ := R.pair q top.lt
      obtain ⟨bi, ebi⟩ : ∃ bi, D.iv[mq L r q]? = some bi := ⟨_, List.getElem?_eq_getElem (by rw [A1.ints3]; exact g5)⟩
      have hiv := S4.same _ _ (A1.intv _ _ ebi)
      refine ⟨_, rfl, pl, _, rfl, .inl PL.lst, _, _, rfl, rfl, _, rfl, ?_⟩
      refine ite_t (by simp) ?_
      refine ⟨fun σ' H' => ∃ m', m' < mu L r q n es ∧ ((∃ (q n : Nat) (es : Lvs) (sd : List (Addr × Addr)) (fv : V) (v3 v4 v5 v6 : Option V), σ' = [some (.ref D.sp), some (.ref pl), some fv, v3, v4, v5, v6] ∧ m' = mu L r q n es ∧ TopOk L r q n es ∧ AskSt F L r D [pl] H' (tOf L r es) (bOf L r es) (leftOf L r (tOf L r es)) ∧ Pile cS F L r D H' pl sd ((q, n) :: es)) ∨
        ∃ (f : Addr) (v3 v4 v5 v6 : Option V), σ' = [some (.ref D.sp), some (.ref pl), some (.ref f), v3, v4, v5, v6] ∧ m' = 0 ∧ Same F H' ∧ H' pl = some (.lst []) ∧ ¬ ∃ T, Sol L r T), fun _ _ h => h, ?_⟩
      refine ⟨_, rfl, _, rfl, pl, _, .ref sa, rfl, rfl, PL.lst, by simp, ?_⟩
      refine ⟨_, rfl, sa, dxS, fS, _, rfl, e1, e3, d4, kvs, rfl, hkv, _, rfl, D.sp, dx, _, _, rfl, hsp4, by kernel_rfl, _, rfl, D.sp, dx, _, _, rfl, hsp4, by kernel_rfl, D.rp, dxR, fR, _, rfl, R.ins, R.pr, _, rfl, sa, dxS, fS, _, rfl, e1, e2, lp, _, q, _, rfl, rfl, R.lp_, g1, b2, _, 0, _, rfl, rfl, g2, rfl, D.ip, _, mq L r q, .ref bi, rfl, rfl, S4.same _ _ A1.intz, by rw [List.getElem?_map, ebi]; rfl, bi, _, rfl, .inl hiv, rfl, _, rfl, ?_⟩
      by_cases hc : n = lenI L r q
      · refine ite_t (by rw [hkl, hc]; simp [lenI]) ?_
        have nplb : pl ∉ D.bds := fun hb => by
          obtain ⟨kv, e⟩ := S4.bd hb
          rw [PL.lst] at e; cases e
        have hdis := PL.dis
        simp only [List.map_cons, List.nodup_cons] at hdis
        have P5 := PL.updP (sd' := sd') (ls' := es) hdis.2 spr
        have S5 := S4.updO (.lst (sd'.map fun p => V.ref p.1).reverse) PL.nF PL.n4 nplb (.inl (by simp))
        have npls : sa ≠ pl := fun z => by
          have h : H4 sa = _ := e1
          rw [z, PL.lst] at h; cases h
        have ePL : (((sa, d4) :: sd').map fun p => V.ref p.1).reverse.dropLast = (sd'.map fun p => V.ref p.1).reverse := by simp
        refine ⟨_, rfl, D.sp, dx, _, rfl, hsp4, by kernel_rfl, _, rfl, .inl ⟨rfl, _, SqL.of PL.lst⟩, pl, _, .ref sa, rfl, rfl, PL.lst, by simp, ?_⟩
        rw [ePL]
        have e15 : (upd H4 pl (.lst (sd'.map fun p => V.ref p.1).reverse)) sa = some (.ins cS dxS fS) := by rw [upd_ne npls]; exact e1
        generalize upd H4 pl (.lst (sd'.map fun p => V.ref p.1).reverse) = H5 at P5 S5 e15
        refine ⟨F, L, r, D, [pl], _, _, _, sa, d4, q, rfl, A1, S5, ⟨dxS, fS, e15, e2, e3, e4⟩, top.lt, fun v H6 s6 => ?_⟩
        have S6 := S5.mono s6
        have P6 := P5.same s6
        refine ⟨_, rfl, pl, _, rfl, .inl P6.lst, _, _, rfl, rfl, _, rfl, ?_⟩
        cases es with
        | nil =>
          obtain rfl : sd' = [] := by
            have := (Sps.all spr).1
            exact List.eq_nil_of_length_eq_zero this
          refine ite_f (by simp) ?_
          exact ⟨0, mu_pos _ _ _, .inr ⟨v, _, _, _, _, rfl, rfl, S6.same, P6.lst, top_end hL hr1 top hc⟩⟩
        | cons l1 es1 =>
          obtain ⟨q1, n1⟩ := l1
          obtain ⟨p1, sd1, rfl⟩ : ∃ p1 sd1, sd' = p1 :: sd1 := by
            cases sd' with
            | nil => exact absurd spr (fun h => h)
            | cons p1 sd1 => exact ⟨p1, sd1, rfl⟩
          obtain ⟨s1', d1⟩ := p1
          have top1 := top_closed hL hr1 top hc
          obtain ⟨o1, o2, o3, o4, o5, o6⟩ := top.ok
          obtain ⟨sp6, _⟩ := P6.sps
          obtain ⟨dxE, fE, E1, E2, E3, E4⟩ := id sp6.at_
          have hsp6 := S6.same _ _ hins
          refine ite_t (by simp) ?_
          refine ⟨_, rfl, _, rfl, pl, _, .ref s1', rfl, rfl, P6.lst, by simp, ?_⟩
          refine ⟨_, rfl, D.sp, dx, _, _, rfl, hsp6, by kernel_rfl, _, rfl, s1', dxE, fE, _, rfl, E1, E2, D.tl, _, q1, .int (vOf L r q1 n1), rfl, rfl, S6.told_, ?_, ?_⟩
          · rw [List.getElem?_map]
            show (((tOf L r es1).set q1 (some (vOf L r q1 n1)))[q1]?).map toldV = _
            rw [List.getElem?_set_self (by rw [tOf_len]; exact o1)]; rfl
          refine ⟨_, rfl, D.sp, dx, _, rfl, hsp6, by kernel_rfl, _, rfl, s1', dxE, fE, _, rfl, E1, E2, F, L, r, D, [pl], tOf L r es1, bOf L r es1, q1, vOf L r q1 n1, rfl, A1, S6, o1, o2, fun H7 S7 f7 => ?_⟩
          have P7 := P6.fr S6 f7
          obtain ⟨sp7, _⟩ := P7.sps
          obtain ⟨dxE7, fE7, G1, G2, G3, G4⟩ := id sp7.at_
          obtain ⟨kv7, hk7, hkk7⟩ := sp7.kv
          have hl7 : kv7.length ≤ 3 := by
            have := congrArg List.length hkk7
            have h3 := lenI_le (L := L) (r := r) q1
            unfold lenI at h3
            simp at this; omega
          obtain ⟨P8, S8⟩ := P7.refuse S7 hk7 o3 (.ref v)
          refine ⟨_, rfl, s1', dxE7, fE7, rfl, G1, G4, _, rfl, _, rfl, s1', d1, q1, vOf L r q1 n1, .ref v, kv7, rfl, ⟨dxE7, fE7, G1, G2, G3, G4⟩, hk7, by omega, ?_⟩
          exact ⟨_, mu_closed hc o3, .inl ⟨q1, n1 + 1, es1, _, _, _, _, _, _, rfl, rfl, top1, S8, P8⟩⟩
      · refine ite_f (by rw [hkl]; simp only [List.length_map]; exact decide_eq_false fun z => hc (by have := V.int.inj z; unfold lenI; omega)) ?_
        have hlt : n < lenI L r q := by have := top.le; omega
        have hget : (intsL L (mq L r q))[kvs.length]? = some (vOf L r q n) := by rw [hkl]; exact (vOf_mem hlt).2
        have h3 := lenI_le (L := L) (r := r) q
        refine ⟨_, rfl, D.sp, dx, _, rfl, hsp4, by kernel_rfl, _, rfl, F, L, r, D, [pl], tOf L r es, bOf L r es, sa, d4, q, vOf L r q n, kvs, rfl, A1, S4, hspl, top.lt, hkv, by omega, hget, top.op, bOf_bd hL hr1 top.ok, fun i hi => (good_of hL hr1 es top.ok).g0 _ _ _ hi, fun hB H5 x s5 => ⟨_, rfl, ite_f rfl ?_⟩, fun hB H5 S5 f5 => ⟨_, rfl, ite_t rfl ?_⟩⟩
        · obtain ⟨P6, S6⟩ := (PL.same s5).refuse (S4.mono s5) (s5 _ _ hkv) hlt x
          exact ⟨_, mu_refused hlt, .inl ⟨q, n + 1, es, _, fv, _, _, _, _, rfl, rfl, top_refused hL hr1 top hlt hB, S6, P6⟩⟩
        · have P5 := PL.fr S4 f5
          have hok := top_put top hlt hB
          refine ⟨_, rfl, D.sp, dx, _, rfl, S5.same _ _ hins, by kernel_rfl, F, L, r, D, [pl], _, _, _, rfl, A1, S5, fun H6 s6 hall => ?_, fun q' H6 s6 hq' hn' => ?_⟩
          · refine ⟨_, rfl, _, rfl, ite_t rfl ?_⟩
            exact qn _ _ _ _ _ (S5.mono s6) hall (all_told hL hr1 hok hall)
          · refine ⟨_, rfl, _, rfl, ite_f rfl ?_⟩
            have P6 := P5.same s6
            have S6 := S5.mono s6
            refine ⟨_, rfl, .inl ⟨rfl, _, SqL.of P6.lst⟩, _, rfl, fun x dxx hx hdx ndx => ?_⟩
            have s7 : Same H6 (upd (upd H6 dxx (.own x)) x (.ins cS dxx [])) := fun b o e => by rw [upd_ne (ne_of_none e hx), upd_ne (ne_of_none e hdx)]; exact e
            refine ⟨x, dxx, q', rfl, upd_same, fun d H7 hd nd k7 spl hdk => ⟨rfl, ?_⟩⟩
            have s8 : Same H6 H7 := fun b o e => k7 _ _ (s7 _ _ e) (by simpa using ne_of_none e hx)
            have S7 := S6.mono s8
            have P7 := P6.same s8
            have nplb : pl ∉ D.bds := fun hb => by
              obtain ⟨kv, e⟩ := S7.bd hb
              rw [P7.lst] at e; cases e
            have hall := Sps.all P6.sps
            have hlen := opn_es hok
            have hnP := nP_le hL hr1
            refine ⟨pl, _, _, rfl, rfl, P7.lst, ?_, ?_⟩
            · have := hall.1
              simp only [List.length_cons] at this hlen
              rw [sizeLine_eq]; simp; omega
            have eL : (((sa, d4) :: sd').map fun p => V.ref p.1).reverse ++ [V.ref x] = (((x, d) :: (sa, d4) :: sd').map fun p => V.ref p.1).reverse := by simp
            rw [eL]
            have S8 := S7.updO (.lst (((x, d) :: (sa, d4) :: sd').map fun p => V.ref p.1).reverse) P7.nF P7.n4 nplb (.inl (by simp))
            have P8 := P7.updP (sd' := (x, d) :: (sa, d4) :: sd') (ls' := (q', 0) :: (q, n) :: es) ?_ ⟨⟨spl, (S6.same.trans s7).free hd, fun h => ?_, [], hdk, by simp⟩, P7.sps⟩
            · exact ⟨_, mu_put hlt top.lt top.op hq' hn', .inl ⟨q', 0, (q, n) :: es, _, _, _, _, _, _, rfl, rfl, ⟨hq', hn', Nat.zero_le _, fun k hk => absurd hk (Nat.not_lt_zero _), hok⟩, S8, P8⟩⟩
            · rw [List.map_cons, List.nodup_cons]
              refine ⟨fun hm => ?_, P7.dis⟩
              obtain ⟨p', hp', e⟩ := List.mem_map.mp hm
              obtain ⟨l', hl'⟩ := hall.2 p' hp'
              obtain ⟨kv, hk, _⟩ := hl'.kv
              have := s7 _ _ hk
              rw [e] at this
              have h : (upd (upd H6 dxx (.own x)) x (.ins cS dxx [])) d = _ := this
              rw [hd] at h; cases h
            · obtain ⟨kv, e⟩ := S6.bd h
              have h : (upd (upd H6 dxx (.own x)) x (.ins cS dxx [])) d = _ := s7 _ _ e
              rw [hd] at h; cases h
    · refine ⟨_, rfl, pl, _, rfl, .inl hpl4, _, _, rfl, rfl, _, rfl, ite_f rfl ?_⟩
      exact ⟨_, rfl, qs _ _ sF hno⟩

end
end S1

/-! LG: table and is_table -/
namespace S1
open PySem L2
def tabK (L : Lots) (r : Nat) (T : Nat → Int) : List (NestedKey × V) := (pairsL L r).map fun k => (k, V.int (T ((pairsL L r).idxOf k)))
def isIntV : V → Bool
  | .int _ => true
  | _ => false
def intV : V → Int
  | .int z => z
  | _ => 0
def rowOf (kvs : List (NestedKey × V)) (ks : List NestedKey) : List Int := ks.map fun k => intV ((valV kvs k).getD .non)
/-- what a thing with these items is -/
def tabOk (L : Lots) (r : Nat) (kvs : List (NestedKey × V)) : Bool :=
  decide (kvs.length = nP L r) && (pairsL L r).all (fun k => isIntV ((valV kvs k).getD .non)) && (runsL L r).all fun u => decide (rowOf kvs (prsR L u) ∈ lotAt L u.1)
def isTab (L : Lots) (r : Nat) : Option (List (NestedKey × V)) → Bool
  | none => false
  | some kvs => tabOk L r kvs
/-- a thing that may be a table: its items, or none where it is no dict -/
inductive Thing (P : Program) (w : World) (K : PySem.W.Frag) (H : Hp) : V → Option (List (NestedKey × V)) → Prop where
  | dict {a : Addr} {kvs : List (NestedKey × V)} (e : NDr P w H a kvs) (h : ∀ p ∈ kvs, ∃ t, Ty P w K H p.2 t) : Thing P w K H (.ref a) (some kvs)
  | other {v : V} {t : String} (e : Ty P w K H v t) (h : t ≠ "dict") : Thing P w K H v none
section
variable {P : Program} {w : World} {K : PySem.W.Frag} {mg : Str → Option Value} {base : Heap} {cT cR cS cA : Addr} {H H' : Hp}
theorem NDr.same {d : Addr} {kvs : List (NestedKey × V)} (x : NDr P w H d kvs) (s : Same H H') : NDr P w H' d kvs := x.mono (KeepT.of_same s) fun o e => s _ _ e
theorem Ty.mono {v : V} {t : String} (h : Ty P w K H v t) (s : Same H H') : Ty P w K H' v t := by
  cases h with
  | non => exact .non
  | bl b => exact .bl b
  | int i => exact .int i
  | str z => exact .str z
  | tup e => exact .tup (s _ _ e)
  | lst e => exact .lst (s _ _ e)
  | nd e => exact .nd (NDr.same e s)
theorem Thing.mono {v : V} {o : Option (List (NestedKey × V))} (h : Thing P w K H v o) (s : Same H H') : Thing P w K H' v o := by
  cases h with
  | dict e h => exact .dict (NDr.same e s) fun p hp => let ⟨t, ht⟩ := h p hp; ⟨t, ht.mono s⟩
  | other e h => exact .other (e.mono s) h
theorem Ty.int_iff {v : V} {t : String} (h : Ty P w K H v t) : (t == "int") = isIntV v := by cases h <;> rfl
theorem valV_mem {kvs : List (NestedKey × V)} {k : NestedKey} {v : V} (h : valV kvs k = some v) : (k, v) ∈ kvs := by
  unfold valV at h
  obtain ⟨p, hp, rfl⟩ := Option.map_eq_some_iff.mp h
  have h1 := List.mem_of_find?_eq_some hp
  have h2 := List.find?_some hp
  simp only [decide_eq_true_eq] at h2
  rw [← h2]; exact h1
theorem leftOf_init {L : Lots} {r : Nat} (hL : LotsOk L) : leftOf L r (List.replicate (nP L r) none) = List.replicate (mR L r) 3 := by
  unfold leftOf
  rw [List.eq_replicate_iff]
  refine ⟨by simp, fun x hx => ?_⟩
  obtain ⟨i, hi, rfl⟩ := List.mem_map.mp hx
  have hi' := List.mem_range.mp hi
  unfold openN openL
  rw [List.filter_eq_self.mpr fun q _ => ?_]
  · rw [(ix3 hL hi').1]; rfl
  · rw [List.getD_eq_getElem?_getD, List.getElem?_replicate]
    split <;> rfl
abbrev s_table : Stmt := top 37
def sp_table (P : Program) (w : World) (cT : Addr) : Sp := fun vs H Q _ => ∃ (t a : Addr) (L : Lots) (r : Nat), vs = [.ref t, .int r] ∧ TaskAt cT H t a ∧ NK H (lotsK L) (.ref a) ∧ LotsOk L ∧ r ≤ 1 ∧
  (∀ d H' T, Same H H' → ND P w H' d (tabK L r T) → Sol L r T → Q (.ref d) H') ∧ ∀ H', Same H H' → (¬ ∃ T, Sol L r T) → Q .non H'
theorem ok_table {f : Addr} {fd : FuncData} (F : Fun K "table" "table" s_table f fd) (T : Txt K mg cT cR cS cA) (G_checked_runs : Fn P w K mg base 7 "checked_runs" ["task", "rounds"] (sp_checked_runs cT cR)) (G_Asking : Mk1 P w K mg base 2 "Asking" cA ["self", "runs"] (sp_Asking___init__ P w cT cR cA)) (G_search : Me P w K mg base 5 cA "search" ["self"] (sp_Asking_search P w cT cR cA)) : FnOk P w K mg base CX0 8 f fd ["task", "rounds"] (sp_table P w cT) := by
  have sc : FnScope ["task", "rounds", "asking", "number", "pair"] ["task", "rounds"] (defScope s_table) := sc_by (by decide +kernel)
  refine F.ok sc (fun vs H Q E h => ?_) (fun cdv A outer s H vs Q E hr h => ?_)
  · obtain ⟨_, _, _, _, rfl, _⟩ := h; rfl
  · obtain ⟨t, a, L, r, rfl, ht, h, hL, hr1, qs, qn⟩ := h
    have hu := hu9 hr
    have hu65 := hu65 hr
    have hu1 := hu1_of hr
    refine ⟨_, (pss_cons (ps_set (i := 2) sc.nd rfl (Or.inr rfl) (pe_mk1 G_Asking (hr.mono (by decide)) rfl (pa_cons (pe_fn G_checked_runs (hr.mono (by decide)) rfl (pa_cons (pv 0) (pa_cons (pv 1) pa_nil))) pa_nil)))
      (pss_cons (ps_if (pt_cmp (pc_notN (pe_me0 G_search T.clA (hr.mono (by decide)) (pv 2))))
        (pss_one (ps_ret pe_non))
        pss_nil)
      (pss_one (ps_ret (pe_dcN (own := [("number", 3), ("pair", 4)]) hu rfl sc.nd (pi_enum (by rfl) T.enumerate (pa_cons (pe_fl T.clR T.nR_pairs (pe_fl T.clA T.nA_runs (pv 2))) pa_nil)) (blkOk_by (by kernel_rfl)) (fun _ _ _ _ _ => (pg_tu 2 rfl (pgs_cons (pg_name (i := 3) sc.nd rfl (Or.inl rfl) (Or.inr rfl)) (pgs_cons (pg_name (i := 4) sc.nd rfl (Or.inl rfl) (Or.inr rfl)) pgs_nil)))) (fun _ _ _ _ _ => pts_nil) (fun _ _ _ _ _ => (pv 4)) (fun _ _ _ _ _ => (pe_ix ixl (pe_fl T.clA T.nA_told (pv 2)) (pv 3) (fun _ _ => rfl)))))))), ?_⟩
    refine ⟨_, rfl, _, rfl, t, a, L, r, rfl, ht, h, hL, hr1, fun rp H1 s1 R1 => fun x dx hx hdx ndx => ?_⟩
    have s2 : Same H1 (upd (upd H1 dx (.own x)) x (.ins cA dx [])) := fun b o e => by rw [upd_ne (ne_of_none e hx), upd_ne (ne_of_none e hdx)]; exact e
    refine ⟨x, dx, rp, t, L, r, rfl, upd_same, R1.mono s2, hL, hr1, fun H2 F D e1 e2 e3 kF A1 S2 => ⟨rfl, ?_⟩⟩
    subst e1
    have s1F : Same H1 F := fun b o e => kF _ _ (s2 _ _ e) (by simpa using ne_of_none e hx)
    rw [← leftOf_init hL] at S2
    obtain ⟨dxA, hins⟩ := A1.ins
    refine ⟨_, rfl, D.sp, dxA, _, rfl, S2.same _ _ hins, by kernel_rfl, F, L, r, D, rfl, A1, S2, fun H3 Av told B left S3 hall hsol => ?_, fun v H3 s3 hno => ?_⟩
    · refine ⟨_, rfl, ite_f rfl ?_⟩
      obtain ⟨dxR, fR, lp, lr, a', pvs, rs, RF⟩ := A1.runs.view A1.ok A1.r1
      have R := RF.mono S3.same
      have hsp := S3.same _ _ hins
      have hnd : (pairsL L r).Nodup := ksOf_nodup L _
      have htn := S3.tln
      have hnP := nP_le hL hr1
      generalize hT : (fun j => (told.getD j none).getD 0) = T at hsol
      refine ⟨_, rfl, D.sp, dxA, _, _, rfl, hsp, by kernel_rfl, D.rp, dxR, fR, _, rfl, R.ins, R.pr, lp, pvs, rfl, SqL.of R.lp_, fun d hd => ?_⟩
      refine dc_map walkE (by rw [R.pn]; omega) hd (fun H' s => s _ _ R.lp_) (fun i kvs => kvs = ((pairsL L r).take i).map fun k => (k, V.int (T ((pairsL L r).idxOf k)))) rfl (fun i x H4 H4' kvs Kf hi sm nd hr2 hY hK => ?_) (fun H4 kvs sm nd hr2 => ?_)
      · obtain ⟨T0, y, rfl, hT0, rfl, hy⟩ := hY
        have hiq : i < nP L r := by rw [← R.pn]; exact hi
        obtain ⟨b, x1, v1, g1, g2, g3, g4, g5⟩ := R.pair i hiq
        rw [g1] at hy; cases hy
        have sT : Same H4 (upd H4 T0 (.tup [.int i, .ref b])) := same_upd _ hT0
        have s4 := sm.trans sT
        have hki : ((pairsL L r).idxOf (.tup [.num (mq L r i : Nat), v1])) = i := nodup_at hnd (idxOf_get (List.mem_of_getElem? g4)) g4
        have hkn : (NestedKey.tup [.num (mq L r i : Nat), v1]) ∉ (pairsL L r).take i := fun hm => by
          obtain ⟨j, hj, ej⟩ := at_take hm
          have := nodup_at hnd ej g4
          omega
        have hU := keysU_depth _ (pairsL_U hL hr1 _ (List.mem_of_getElem? g4))
        refine ⟨T0, _, rfl, upd_same, rfl, _, _, rfl, _, _, rfl, rfl, rfl, ?_⟩
        have hti : told[i]? = some (some (T i)) := by
          have e := List.getElem?_eq_getElem (l := told) (i := i) (by omega)
          have h1 := hall i hiq
          rw [← hT]
          simp only [List.getD_eq_getElem?_getD, e, Option.getD_some] at h1 ⊢
          cases h2 : told[i]'(by omega) with
          | none => exact absurd h2 h1
          | some z => rfl
        refine ⟨_, rfl, _, rfl, D.sp, dxA, _, _, rfl, s4 _ _ hsp, by kernel_rfl, _, rfl, D.tl, _, i, .int (T i), rfl, rfl, s4 _ _ S3.told_, by rw [List.getElem?_map, hti]; rfl, ?_⟩
        refine hK _ _ (.tup [.num (mq L r i : Nat), v1]) _ sT ⟨b, _, rfl, s4 _ _ g2, _, _, rfl, rfl, _, _, rfl, NK.mono (KeepT.of_same s4) _ _ g3, rfl⟩ hU ?_
        rw [hr2, putK_mapV (g := fun k => V.int (T ((pairsL L r).idxOf k))) hkn (fun _ _ => rfl) (by rw [hki]), List.take_add_one, g4]
        rfl
      · rw [hr2, R.pn, List.take_of_length_le (by exact Nat.le_refl _)] at nd
        exact qs _ _ T (((s1.trans s1F).trans S3.same).trans sm) nd hsol
    · refine ⟨_, rfl, ite_t rfl ?_⟩
      exact qn _ ((s1.trans s1F).trans s3) hno

abbrev s_is_table : Stmt := top 38
def sp_is_table (P : Program) (w : World) (K : PySem.W.Frag) (cT : Addr) : Sp := fun vs H Q _ => ∃ (t a : Addr) (L : Lots) (r : Nat) (v : V) (o : Option (List (NestedKey × V))), vs = [.ref t, .int r, v] ∧ TaskAt cT H t a ∧ NK H (lotsK L) (.ref a) ∧ LotsOk L ∧ r ≤ 1 ∧ Thing P w K H v o ∧
  ∀ H', Same H H' → Q (.bl (isTab L r o)) H'
theorem ok_is_table {f : Addr} {fd : FuncData} (F : Fun K "is_table" "is_table" s_is_table f fd) (T : Txt K mg cT cR cS cA) (G_checked_runs : Fn P w K mg base 7 "checked_runs" ["task", "rounds"] (sp_checked_runs cT cR)) (G_is_integer : Fn P w K mg base 1 "is_integer" ["thing"] (sp_is_integer P w K)) : FnOk P w K mg base CX0 8 f fd ["task", "rounds", "thing"] (sp_is_table P w K cT) := by
  have sc : FnScope ["task", "rounds", "thing", "runs", "at", "pattern", "pairs", "pair", "number"] ["task", "rounds", "thing"] (defScope s_is_table) := sc_by (by decide +kernel)
  refine F.ok sc (fun vs H Q E h => ?_) (fun cdv A outer s H vs Q E hr h => ?_)
  · obtain ⟨_, _, _, _, _, _, rfl, _⟩ := h; rfl
  · obtain ⟨t, a, L, r, v, o, rfl, ht, h, hL, hr1, hv, q⟩ := h
    have hu := hu9 hr
    have hu65 := hu65 hr
    have hu1 := hu1_of hr
    refine ⟨_, (pss_cons (ps_set (i := 3) sc.nd rfl (Or.inr rfl) (pe_fn G_checked_runs (hr.mono (by decide)) rfl (pa_cons (pv 0) (pa_cons (pv 1) pa_nil))))
      (pss_cons (ps_if (PW.pt (pw_or (pt_not (pt_val (pe_callB call_isT (by rfl) T.isinstance (by decide +kernel) (pa_cons (pv 2) (pa_cons (pe_bltn (v := .ty "dict") rfl T.dict (by decide +kernel) rfl) pa_nil))))) (pw_or1 (pt_cmpR op_ne (pe_callB call_lenN (by rfl) T.len (by decide +kernel) (pa_cons (pv 2) pa_nil)) (pe_callB lenF (by rfl) T.len (by decide +kernel) (pa_cons (pe_fl T.clR T.nR_pairs (pv 3)) pa_nil)) (nomark _)))))
        (pss_one (ps_ret pe_bl))
        pss_nil)
      (pss_cons (ps_if (pt_not (pt_val (pe_callB (allF rfl) (by rfl) T.all_ (by decide +kernel) (pa_cons (pe_lc (own := [("pair", 7)]) rfl sc.nd (pi_list (pe_fl T.clR T.nR_pairs (pv 3))) (blkOk_by (by kernel_rfl)) (fun _ _ _ _ _ => (pg_name (i := 7) sc.nd rfl (Or.inl rfl) (Or.inr rfl))) (fun _ _ _ _ _ => pts_nil) (fun _ _ _ _ _ => (pe_and (pe_cmpR (by exact or_ninP P w hu) (pv 7) (pv 2) (by with_unfolding_all rfl)) (pe_one (pe_fn G_is_integer (hr.mono (by decide)) rfl (pa_cons (pe_ngetP P w hu (pv 2) (pv 7) (fun _ _ => rfl)) pa_nil)))))) pa_nil))))
        (pss_one (ps_ret pe_bl))
        pss_nil)
      (pss_cons (ps_for PassesOwn.never rfl (pi_list (pe_fl T.clR T.nR_rows (pv 3))) (pg_tu 3 rfl (pgs_cons (pg_name (i := 4) sc.nd rfl (Or.inl rfl) (Or.inl rfl)) (pgs_cons (pg_name (i := 5) sc.nd rfl (Or.inl rfl) (Or.inl rfl)) (pgs_cons (pg_name (i := 6) sc.nd rfl (Or.inl rfl) (Or.inl rfl)) pgs_nil))))
        (pss_one (ps_if (pt_cmpR (by exact or_notInTF hu65) (pe_callTy call_tupL (by rfl) T.tuple (by decide +kernel) (pa_cons (pe_lc (own := [("number", 8)]) rfl sc.nd (pi_tup (pv 6)) (blkOk_by (by kernel_rfl)) (fun _ _ _ _ _ => (pg_name (i := 8) sc.nd rfl (Or.inl rfl) (Or.inr rfl))) (fun _ _ _ _ _ => pts_nil) (fun _ _ _ _ _ => (pe_ngetP P w hu (pv 2) (pe_ix ixl (pe_fl T.clR T.nR_pairs (pv 3)) (pv 8) (fun _ _ => rfl)) (fun _ _ => rfl)))) pa_nil)) (pe_ix ixt (pe_ix ixt (pe_fl T.clT T.nT_lots (pv 0)) (pv 4) (fun _ _ => rfl)) pe_int (fun _ _ => rfl)) (by with_unfolding_all rfl))
            (pss_one (ps_ret pe_bl))
            pss_nil)))
      (pss_one (ps_ret pe_bl)))))), ?_⟩
    refine ⟨_, rfl, _, rfl, t, a, L, r, rfl, ht, h, hL, hr1, fun rp H1 s1 R1 => ?_⟩
    obtain ⟨dxR, fR, lp, lr, a', pvs, rs, R⟩ := R1.view hL hr1
    have hnP := nP_le hL hr1
    have hmR := mR_le hL hr1
    cases hv with
    | other e hne =>
      refine ⟨_, rfl, v, _, "dict", false, rfl, e.mono s1, ?_, _, rfl, ?_⟩
      · cases e with
        | non => exact kit_ty (by decide +kernel)
        | bl b => exact kit_ty (by decide +kernel)
        | int i => exact kit_ty (by decide +kernel)
        | str z => exact kit_ty (by decide +kernel)
        | tup e => exact kit_ty (by decide +kernel)
        | lst e => exact kit_ty (by decide +kernel)
        | nd e => exact absurd rfl hne
      · exact ite_t rfl (ite_t rfl (q _ s1))
    | @dict d kvs e hty =>
      refine ⟨_, rfl, .ref d, "dict", "dict", true, rfl, .nd (NDr.same e s1), kit_ty (by decide +kernel), _, rfl, ?_⟩
      have e1 := NDr.same e s1
      refine ite_f rfl ?_
      refine ⟨_, rfl, d, kvs, rfl, e1, _, rfl, rp, dxR, fR, _, rfl, R.ins, R.pr, lp, pvs, rfl, .inl R.lp_, rfl, _, rfl, ?_⟩
      by_cases hl : kvs.length = nP L r
      · refine ite_f (by rw [R.pn, hl]; simp) ?_
        refine ⟨_, rfl, rp, dxR, fR, _, rfl, R.ins, R.pr, lp, rfl, ⟨_, SqL.of R.lp_⟩, fun l hl1 => lc_map walkL [] (by simp) (by rw [R.pn]; omega) hl1 (fun H' k => k _ _ R.lp_ (by simp)) (fun i H' acc => acc = (((pairsL L r).take i).map fun k => isIntV ((valV kvs k).getD .non)).map V.bl) rfl (fun i x H3' H3 acc Kf hi k hacc hl2 hR hY hK => ?_) (fun H3 acc k hacc hl2 hR => ?_)⟩
        · obtain ⟨rfl, hx⟩ := hY
          have s3 := Keep.same k
          have hiq : i < nP L r := by rw [← R.pn]; exact hi
          obtain ⟨b, x1, v1, g1, g2, g3, g4, g5⟩ := R.pair i hiq
          rw [g1] at hx; cases hx
          have nk : NK H3 (.tup [.num (mq L r i : Nat), v1]) (.ref b) := ⟨b, _, rfl, s3 _ _ g2, _, _, rfl, rfl, _, _, rfl, NK.mono (KeepT.of_same s3) _ _ g3, rfl⟩
          have hU := keysU_depth _ (pairsL_U hL hr1 _ (List.mem_of_getElem? g4))
          generalize NestedKey.tup [.num (mq L r i : Nat), v1] = key at g4 nk hU
          have e3 := NDr.same e1 s3
          have fin : ∀ bb, bb = isIntV ((valV kvs key).getD .non) → Kf (.bl bb) H3 := fun bb hb => hK _ _ (Keep.refl _ _) (by
            rw [hR, List.take_add_one, g4, hb]
            simp)
          refine ⟨rfl, _, rfl, _, rfl, d, kvs, b, key, rfl, rfl, e3, nk, hU, _, rfl, ?_⟩
          cases hv : valV kvs key with
          | none =>
            refine ite_f rfl (fin _ ?_)
            rw [hv]; rfl
          | some z =>
            refine ite_t rfl ?_
            obtain ⟨tz, htz⟩ := hty _ (valV_mem hv)
            refine ⟨_, rfl, _, rfl, d, kvs, b, key, z, rfl, rfl, e3, nk, hU, hv, z, tz, rfl, htz.mono (s1.trans s3), fin _ ?_⟩
            rw [hv, htz.int_iff]; rfl
        · have s3 := Keep.same k
          have e9 : (pairsL L r).take pvs.length = pairsL L r := by rw [R.pn]; exact List.take_of_length_le (Nat.le_refl _)
          rw [e9] at hR
          refine ⟨l, _, rfl, hacc.trans (by rw [hR]), _, rfl, ?_⟩
          by_cases ha : (pairsL L r).all (fun k => isIntV ((valV kvs k).getD .non)) = true
          · have hall := List.all_eq_true.mp ha
            refine ite_f (by rw [List.all_map]; simp only [Function.comp_def, id]; rw [ha]; rfl) ?_
            have R3 := R.mono s3
            have e3 := NDr.same e1 s3
            obtain ⟨dxT, fT, t1, t2, t3⟩ := R3.task
            obtain ⟨_, us, ee, hla, hks⟩ := id R3.lots
            cases ee
            have hlu := hks.lenK
            have htt : R3.task = R3.task := rfl
            obtain ⟨dxT0, fT0, u1, u2, u3⟩ := id ht
            have s13 := s1.trans s3
            obtain ⟨_, us0, ee0, hla0, hks0⟩ := id (NK.mono (KeepT.of_same s13) _ _ h)
            cases ee0
            have hlu0 := hks0.lenK
            refine ⟨_, rfl, rp, dxR, fR, _, rfl, R3.ins, R3.rw_, lr, rfl, ⟨_, SqL.of R3.lr_⟩, for_it walkL (fun i σ H' => ∃ v4 v5 v6, σ = [some (.ref t), some (.int r), some (.ref d), some (.ref rp), v4, v5, v6, none, none] ∧ Same H3 H' ∧ ((runsL L r).take i).all (fun u => decide (rowOf kvs (prsR L u) ∈ lotAt L u.1)) = true) ⟨none, none, none, rfl, Same.refl _, rfl⟩ (fun i σ H' _ ⟨_, _, _, _, s, _⟩ => s _ _ R3.lr_) ?_ ?_⟩
            · rintro i x σ H4' H4 hi ⟨v4, v5, v6, rfl, s4, hsofar⟩ ⟨rfl, hx⟩
              have hiR : i < mR L r := by rw [← R3.rn]; exact hi
              obtain ⟨b, pv, c, g1, g2, g3, g4⟩ := R3.row i hiR
              rw [g1] at hx; cases hx
              obtain ⟨u, eu, hu⟩ := run_at hiR
              have eru := runAt_of eu
              have eix := ixAt_of eu
              have hat := (runsL_at hu).1
              rw [eru] at g2
              refine ⟨b, _, rfl, s4 _ _ g2, rfl, _, _, rfl, _, _, rfl, _, _, rfl, rfl, ?_⟩
              refine ⟨_, rfl, c, rfl, ⟨_, SqT.of (s4 _ _ g4)⟩, fun l5 hl5 => lc_map walkT [] (by simp) (by rw [List.length_map, eix, ixOf_len hL hu]; decide) hl5 (fun H' k => k _ _ (s4 _ _ g4) (by simp)) (fun j H' acc => acc = (rowOf kvs ((prsR L u).take j)).map V.int) rfl (fun j x H5' H5 acc Kf hj k hacc hl2 hR hY hK => ?_) (fun H5 acc k hacc hl2 hR => ?_)⟩
              · obtain ⟨rfl, hx⟩ := hY
                rw [List.getElem?_map, eix] at hx
                obtain ⟨q0, eq0, rfl⟩ := Option.map_eq_some_iff.mp hx
                have s5 := Keep.same k
                have s35 := s4.trans s5
                have hq0 := ixOf_lt hu q0 (List.mem_of_getElem? eq0)
                simp only [ixOf, List.getElem?_map] at eq0
                obtain ⟨key, ekey, rfl⟩ := Option.map_eq_some_iff.mp eq0
                have hkm := prsR_sub hu key (List.mem_of_getElem? ekey)
                obtain ⟨b6, x6, v6', k1, k2, k3, k4, k5⟩ := R3.pair _ hq0
                rw [idxOf_get hkm] at k4
                have ek : key = .tup [.num (mq L r ((pairsL L r).idxOf key) : Nat), v6'] := Option.some.inj k4
                have nk : NK H5 key (.ref b6) := by
                  rw [ek]
                  exact ⟨b6, _, rfl, s35 _ _ k2, _, _, rfl, rfl, _, _, rfl, NK.mono (KeepT.of_same s35) _ _ k3, rfl⟩
                have hU := keysU_depth _ (pairsL_U hL hr1 _ hkm)
                have hint := hall key hkm
                obtain ⟨z, hz⟩ : ∃ z : Int, valV kvs key = some (.int z) := by
                  cases hv : valV kvs key with
                  | none => rw [hv] at hint; cases hint
                  | some y =>
                    rw [hv] at hint
                    cases y with
                    | int z => exact ⟨z, rfl⟩
                    | _ => cases hint
                refine ⟨rfl, _, rfl, _, rfl, rp, dxR, fR, _, rfl, s35 _ _ R3.ins, R3.pr, _, rfl, lp, _, (pairsL L r).idxOf key, .ref b6, rfl, rfl, s35 _ _ R3.lp_, k1, d, kvs, b6, key, .int z, rfl, rfl, NDr.same e3 s35, nk, hU, hz, hK _ _ (Keep.refl _ _) ?_⟩
                rw [hR, List.take_add_one, ekey]
                simp [rowOf, hz, intV]
              · have s5 := Keep.same k
                rw [List.take_of_length_le (by rw [List.length_map, eix, ixOf_len hL hu, prsR_len3 hL hu]; exact Nat.le_refl _)] at hR
                refine ⟨l5, _, rfl, hacc, fun t6 H6 s6 e6 => ?_⟩
                have s36 := (s4.trans s5).trans s6
                have sH6 := s13.trans s36
                obtain ⟨x7, ex7⟩ : ∃ x7, us0[u.1]? = some x7 := ⟨_, List.getElem?_eq_getElem (by omega)⟩
                obtain ⟨⟨ns7, l7⟩, ep7, np7⟩ := hks0.atK ex7
                obtain ⟨b7, ws, rfl, hb7, hws⟩ := id np7
                obtain ⟨y1, _, rfl, hy1, y2, _, rfl, hy2, rfl⟩ := id hws
                obtain ⟨c7, vs7, rfl, hc7, hcs7⟩ := id hy2
                have elot := lotAt_eq ep7
                refine ⟨_, rfl, t, dxT0, fT0, _, rfl, sH6 _ _ u1, u3, _, rfl, a, us0, u.1, _, rfl, rfl, s36 _ _ hla0, ex7, b7, _, 1, _, rfl, rfl, s36 _ _ hb7, rfl, c7, vs7, l7.map rowK, rowK (rowOf kvs (prsR L u)), rfl, s36 _ _ hc7, NKs.mono (KeepT.of_same s36) _ _ hcs7, NK.row.mpr ⟨t6, rfl, by rw [e6, hR]⟩, by have := depth_row (rowOf kvs (prsR L u)); omega, _, rfl, ?_⟩
                have hinj : rowK (rowOf kvs (prsR L u)) ∈ l7.map rowK ↔ rowOf kvs (prsR L u) ∈ lotAt L u.1 := by
                  rw [elot, List.mem_map]
                  constructor
                  · rintro ⟨y, hy, e⟩
                    have := (List.map_inj_right (fun a b h => NestedKey.num.inj h)).mp (NestedKey.tup.inj e)
                    rw [← this]; exact hy
                  · exact fun h => ⟨_, h, rfl⟩
                by_cases hin : rowOf kvs (prsR L u) ∈ lotAt L u.1
                · refine ite_f (by show (!decide (rowK (rowOf kvs (prsR L u)) ∈ l7.map rowK)) = false; rw [decide_eq_true (hinj.mpr hin)]; rfl) ?_
                  refine ⟨_, _, _, rfl, s36, ?_⟩
                  rw [List.take_add_one, eu, List.all_append, hsofar]
                  simp [hin]
                · refine ite_t (by show (!decide (rowK (rowOf kvs (prsR L u)) ∈ l7.map rowK)) = true; rw [decide_eq_false fun z => hin (hinj.mp z)]; rfl) ?_
                  have : isTab L r (some kvs) = false := by
                    have hx : (runsL L r).all (fun u => decide (rowOf kvs (prsR L u) ∈ lotAt L u.1)) = false := by
                      rw [List.all_eq_false]
                      exact ⟨u, hu, by simpa using hin⟩
                    simp [isTab, tabOk, hx]
                  rw [this] at q
                  exact q _ sH6
            · rintro σ H4 ⟨v4, v5, v6, rfl, s4, hsofar⟩
              have : isTab L r (some kvs) = true := by
                rw [List.take_of_length_le (by rw [R3.rn]; exact Nat.le_refl _)] at hsofar
                simp only [isTab, tabOk, hl, ha, hsofar, decide_true, Bool.and_self]
              rw [this] at q
              exact q _ ((s1.trans s3).trans s4)
          · have ha' : (pairsL L r).all (fun k => isIntV ((valV kvs k).getD .non)) = false := by simpa using ha
            refine ite_t (by rw [List.all_map]; simp only [Function.comp_def, id]; rw [ha']; rfl) ?_
            have : isTab L r (some kvs) = false := by simp only [isTab, tabOk, ha', Bool.and_false, Bool.false_and]
            rw [this] at q
            exact q _ (s1.trans s3)
      · refine ite_t (by rw [R.pn]; simp; omega) ?_
        have : isTab L r (some kvs) = false := by simp [isTab, tabOk, hl]
        rw [this] at q
        exact q _ s1

end
end S1

/-! LH: the law's draws -/
namespace S1
open PySem L2
/-- the pot of the law's draws -/
def Pot (H : Hp) (p c : Addr) : Prop := ∃ (ns : List Int) (k : Nat) (a b d : Int), H p = some (.lst [.ref c, .int k, .int a, .int b, .int d]) ∧ H c = some (.lst (ns.map V.int)) ∧ c ≠ p
theorem Pot.mono {H H' : Hp} {p c : Addr} (h : Pot H p c) (s : Same H H') : Pot H' p c := let ⟨ns, k, a, b, d, h1, h2, h3⟩ := h; ⟨ns, k, a, b, d, s _ _ h1, s _ _ h2, h3⟩
theorem Pot.upd' {H : Hp} {p c x : Addr} (h : Pot H p c) (o : HO) (n1 : x ≠ p) (n2 : x ≠ c) : Pot (upd H x o) p c := let ⟨ns, k, a, b, d, h1, h2, h3⟩ := h; ⟨ns, k, a, b, d, by rw [upd_ne n1.symm]; exact h1, by rw [upd_ne n2.symm]; exact h2, h3⟩
theorem Pot.ne {H : Hp} {p c x : Addr} (h : Pot H p c) (hx : H x = none) : x ≠ p ∧ x ≠ c := by
  obtain ⟨ns, k, a, b, d, h1, h2, h3⟩ := h
  exact ⟨(fun z => by rw [z, h1] at hx; cases hx), (fun z => by rw [z, h2] at hx; cases hx)⟩
theorem Pot.nn {H : Hp} {p c : Addr} (h : Pot H p c) : H p ≠ none := by
  obtain ⟨ns, k, a, b, d, h1, h2, h3⟩ := h
  rw [h1]; exact fun z => nomatch z
section
variable {P : Program} {w : World} {K : PySem.W.Frag} {mg : Str → Option Value} {base : Heap} {cT cR cS cA : Addr}
abbrev s__law_pot : Stmt := top 51
def sp__law_pot (K : PySem.W.Frag) : Sp := fun vs H Q _ => ∃ (a : Addr) (ns : List Int), vs = [.ref a] ∧ SqL K H a (ns.map V.int) ∧ ∀ p c H', Same H H' → H p = none → H c = none → Pot H' p c → Q (.ref p) H'
theorem ok__law_pot {f : Addr} {fd : FuncData} (F : Fun K "_law_pot" "_law_pot" s__law_pot f fd) (T : Txt K mg cT cR cS cA) : FnOk P w K mg base CX0 1 f fd ["_law_script"] (sp__law_pot K) := by
  have sc : FnScope ["_law_script", "_law_cells", "_law_cell"] ["_law_script"] (defScope s__law_pot) := sc_by (by decide +kernel)
  refine F.ok sc (fun vs H Q E h => ?_) (fun cdv A outer s H vs Q E hr h => ?_)
  · obtain ⟨_, _, rfl, _⟩ := h; rfl
  · obtain ⟨a, ns, rfl, h, q⟩ := h
    have hu := hu9 hr
    have hu65 := hu65 hr
    have hu1 := hu1_of hr
    refine ⟨_, (pss_cons (ps_setLc (i := 1) (own := [("_law_cell", 2)]) rfl sc.nd rfl rfl (sw_true rfl rfl rfl (by decide +kernel)) (pi_list (pe_slice sl_list (pv 0) po_none (po_some pe_int))) (blkOk_by (by kernel_rfl)) (fun _ _ _ _ _ => (pg_name (i := 2) sc.nd rfl (Or.inl rfl) (Or.inr rfl))) (fun _ _ _ _ _ => pts_nil) (fun _ _ _ _ _ => (pe_callB call_abs (by rfl) T.abs (by decide +kernel) (pa_cons (pe_callTy call_int1 (by rfl) T.int (by decide +kernel) (pa_cons (pv 2) pa_nil)) pa_nil))))
      (pss_one (ps_ret (pe_lst (pa_cons (pv 1) (pa_cons pe_int (pa_cons pe_int (pa_cons (pe_op op_add pe_int (pe_callB lenF (by rfl) T.len (by decide +kernel) (pa_cons (pv 1) pa_nil))) (pa_cons pe_int pa_nil))))))))), ?_⟩
    refine ⟨_, rfl, _, rfl, a, _, rfl, h, fun c hc => ?_⟩
    rw [show (some (63 : Int)) = some ((63 : Nat) : Int) from rfl, cut_take, ← List.map_take]
    have s1 : Same H (upd H c (.lst ((ns.take 63).map V.int))) := same_upd _ hc
    have hc1 : (upd H c (.lst ((ns.take 63).map V.int))) c = some (.lst ((ns.take 63).map V.int)) := upd_same
    generalize upd H c (.lst ((ns.take 63).map V.int)) = H1 at s1 hc1
    refine ⟨c, rfl, ⟨_, SqL.of hc1⟩, fun D hD => lc_map walkL [] (by simp) (by simp; omega) hD (fun H' k => k _ _ hc1 (by simp)) (fun i H' acc => ∃ ms : List Int, acc = ms.map V.int) ⟨[], rfl⟩ (fun i x H3' H3 acc Kf hi k hacc hl hR hY hK => ?_) (fun H3 acc k hacc hl hR => ?_)⟩
    · obtain ⟨rfl, hx⟩ := hY
      rw [List.getElem?_map] at hx
      obtain ⟨z, ez, rfl⟩ := Option.map_eq_some_iff.mp hx
      obtain ⟨ms, rfl⟩ := hR
      exact ⟨rfl, _, rfl, .inl ⟨z, rfl, _, rfl, hK _ _ (Keep.refl _ _) ⟨ms ++ [_], by rw [List.map_append]; rfl⟩⟩⟩
    · obtain ⟨ms, rfl⟩ := hR
      have s2 := s1.trans (Keep.same k)
      refine ⟨_, rfl, _, rfl, D, _, rfl, .inl hacc, _, _, rfl, rfl, by show 5 ≤ sizeLine; decide, fun p hp => ?_⟩
      have np : D ≠ p := fun z => by rw [z, hp] at hacc; cases hacc
      exact q p D _ (s2.trans (same_upd _ hp)) (s2.free hp) (s1.free hD) ⟨ms, 0, 0, _, 0, upd_same, by rw [upd_ne np]; exact hacc, np⟩

abbrev s__law_draw : Stmt := top 52
def sp__law_draw : Sp := fun vs H Q _ => ∃ (p c : Addr) (n : Nat), vs = [.ref p, .int n] ∧ Pot H p c ∧ 0 < n ∧ n < 1000000 ∧ ∀ (r : Nat) H', Keep [p] H H' → Pot H' p c → r < n → Q (.int r) H'
theorem ok__law_draw {f : Addr} {fd : FuncData} (F : Fun K "_law_draw" "_law_draw" s__law_draw f fd) (T : Txt K mg cT cR cS cA) : FnOk P w K mg base CX0 1 f fd ["_law_pot_here", "_law_many"] sp__law_draw := by
  have sc : FnScope ["_law_pot_here", "_law_many", "_law_cell", "_law_digit", "_law_number"] ["_law_pot_here", "_law_many"] (defScope s__law_draw) := sc_by (by decide +kernel)
  refine F.ok sc (fun vs H Q E h => ?_) (fun cdv A outer s H vs Q E hr h => ?_)
  · obtain ⟨_, _, _, rfl, _⟩ := h; rfl
  · obtain ⟨p, c, n, rfl, hp, hn0, hn1, q⟩ := h
    have hu := hu9 hr
    have hu65 := hu65 hr
    have hu1 := hu1_of hr
    refine ⟨_, (C8.pss_cut (ps_if (PW.pt (pw_and (pt_cmpR op_eq (pe_ix ixl (pv 0) pe_int (fun _ _ => rfl)) pe_int (nomark _)) (pw_and1 (pt_cmpR op_lt (pe_ix ixl (pv 0) pe_int (fun _ _ => rfl)) (pe_callB lenF (by rfl) T.len (by decide +kernel) (pa_cons (pe_ix ixl (pv 0) pe_int (fun _ _ => rfl)) pa_nil)) (nomark _)))))
        (pss_cons (ps_set (i := 2) sc.nd rfl (Or.inl rfl) (pe_ix ixl (pe_ix ixl (pv 0) pe_int (fun _ _ => rfl)) (pe_ix ixl (pv 0) pe_int (fun _ _ => rfl)) (fun _ _ => rfl)))
          (pss_cons (ps_asg (pe_op op_add (pe_ix ixl (pv 0) pe_int (fun _ _ => rfl)) pe_int) (pg_sub (pv 0) pe_int set_list))
          (pss_cons (ps_asg (pe_op op_mod (pe_callTy call_int1 (by rfl) T.int (by decide +kernel) (pa_cons (pe_op op_add (pe_op op_add (pe_op op_mul (pe_ix ixl (pv 0) pe_int (fun _ _ => rfl)) pe_int) (pv 2)) pe_int) pa_nil)) pe_int) (pg_sub (pv 0) pe_int set_list))
          (pss_one (ps_if (pt_cmpR op_ge (pv 2) (pe_op op_pow pe_int pe_int) (nomark _))
            (pss_one (ps_asg (pv 2) (pg_sub (pv 0) pe_int set_list)))
            pss_nil)))))
        pss_nil)
      (C8.pss_cut (ps_if (pt_cmpR op_gt (pe_ix ixl (pv 0) pe_int (fun _ _ => rfl)) pe_int (nomark _))
        (pss_cons (ps_set (i := 3) sc.nd rfl (Or.inl rfl) (pe_op op_mod (pe_callTy call_int1 (by rfl) T.int (by decide +kernel) (pa_cons (pe_ix ixl (pv 0) pe_int (fun _ _ => rfl)) pa_nil)) (pv 1)))
          (pss_cons (ps_asg (pe_op op_fdiv (pe_ix ixl (pv 0) pe_int (fun _ _ => rfl)) (pv 1)) (pg_sub (pv 0) pe_int set_list))
          (pss_one (ps_ret (pv 3)))))
        pss_nil)
      (pss_cons (ps_asg (pe_op op_add (pe_ix ixl (pv 0) pe_int (fun _ _ => rfl)) pe_int) (pg_sub (pv 0) pe_int set_list))
      (pss_cons (ps_set (i := 4) sc.nd rfl (Or.inl rfl) (pe_op op_mod (pe_callTy call_int1 (by rfl) T.int (by decide +kernel) (pa_cons (pe_op op_mul (pe_callTy call_int1 (by rfl) T.int (by decide +kernel) (pa_cons (pe_op op_add (pe_ix ixl (pv 0) pe_int (fun _ _ => rfl)) (pe_op op_mul pe_int (pe_ix ixl (pv 0) pe_int (fun _ _ => rfl)))) pa_nil)) pe_int) pa_nil)) pe_int))
      (pss_cons (ps_set (i := 4) sc.nd rfl (Or.inl rfl) (pe_op op_mod (pe_callTy call_int1 (by rfl) T.int (by decide +kernel) (pa_cons (pe_op op_mul (pv 4) (pe_op op_add (pe_op op_fdiv (pv 4) pe_int) pe_int)) pa_nil)) pe_int))
      (pss_cons (ps_set (i := 4) sc.nd rfl (Or.inl rfl) (pe_op op_mod (pe_callTy call_int1 (by rfl) T.int (by decide +kernel) (pa_cons (pe_op op_mul (pv 4) (pe_op op_add (pe_op op_fdiv (pv 4) pe_int) pe_int)) pa_nil)) pe_int))
      (pss_one (ps_ret (pe_op op_mod (pe_callTy call_int1 (by rfl) T.int (by decide +kernel) (pa_cons (pe_op op_fdiv (pv 4) pe_int) pa_nil)) (pv 1)))))))))), ?_⟩
    obtain ⟨ns, k, a, b, d, h1, h2, hcp⟩ := hp
    have mk : ∀ (k' : Nat) (a' b' d' : Int) (H' : Hp), Keep [p] H H' → H' p = some (.lst [.ref c, .int k', .int a', .int b', .int d']) → Pot H' p c := fun k' a' b' d' H' k e => ⟨ns, k', a', b', d', e, k _ _ h2 (by simpa using hcp), hcp⟩
    have ku : ∀ {H'} {o : HO}, Keep [p] H H' → Keep [p] H (upd H' p o) := fun k b o e n => by rw [upd_ne (by simpa using n)]; exact k b o e n
    refine ⟨fun σ' H' => ∃ (v2 v3 v4 : Option V) (k' : Nat) (a' b' d' : Int), σ' = [some (.ref p), some (.int n), v2, v3, v4] ∧ Keep [p] H H' ∧ H' p = some (.lst [.ref c, .int k', .int a', .int b', .int d']), ?_, ?_⟩
    · refine ⟨_, rfl, p, _, 2, _, rfl, rfl, h1, rfl, rfl, _, rfl, ?_⟩
      have stay : ∃ (v2 v3 v4 : Option V) (k' : Nat) (a' b' d' : Int), L2.start ["_law_pot_here", "_law_many", "_law_cell", "_law_digit", "_law_number"] [V.ref p, V.int n] = [some (.ref p), some (.int n), v2, v3, v4] ∧ Keep [p] H H ∧ H p = some (.lst [.ref c, .int k', .int a', .int b', .int d']) := ⟨_, _, _, k, a, b, d, rfl, Keep.refl _ _, h1⟩
      refine ite_any ?_ (ite_f rfl stay)
      refine ⟨_, rfl, p, _, 1, _, rfl, rfl, h1, rfl, _, rfl, p, _, 0, _, rfl, rfl, h1, rfl, c, _, rfl, .inl h2, _, _, rfl, rfl, _, rfl, ?_⟩
      by_cases hk : k < ns.length
      · refine ite_t (by simp [hk]) ?_
        refine ⟨_, rfl, p, _, 0, _, rfl, rfl, h1, rfl, _, rfl, p, _, 1, _, rfl, rfl, h1, rfl, c, _, k, .int ns[k], rfl, rfl, h2, by rw [List.getElem?_map, List.getElem?_eq_getElem hk]; rfl, ?_⟩
        refine ⟨_, rfl, p, _, 1, _, rfl, rfl, h1, rfl, _, _, rfl, rfl, _, rfl, p, _, 1, 1, rfl, rfl, h1, rfl, ?_⟩
        refine ⟨_, rfl, p, _, 3, _, rfl, rfl, upd_same, rfl, _, _, rfl, rfl, .inr ⟨by decide, by decide⟩, _, rfl, _, _, rfl, rfl, _, _, rfl, rfl, .inl ⟨_, rfl, _, _, rfl, rfl, (by decide : (0 : Int) < 2147483629), _, rfl, p, _, 3, 3, rfl, rfl, upd_same, rfl, ?_⟩⟩
        refine ⟨_, rfl, _, _, rfl, rfl, ⟨by decide, by decide, by decide⟩, _, _, rfl, rfl, _, rfl, ite_any ?_ ?_⟩
        · exact ⟨_, rfl, _, rfl, p, _, 2, 2, rfl, rfl, upd_same, rfl, _, _, _, k + 1, _, _, _, rfl, ku (ku (ku (Keep.refl _ _))), upd_same⟩
        · exact ⟨_, _, _, k + 1, _, _, _, rfl, ku (ku (Keep.refl _ _)), upd_same⟩
      · exact ite_f (by simp; omega) stay
    · rintro σ' H1 ⟨v2, v3, v4, k1, a1, b1, d1, rfl, kp1, e1⟩
      have nat_of : ∀ z : Int, ∃ x : Nat, z % (n : Int) = x ∧ x < n := fun z => by
        have h1 := Int.emod_nonneg z (show (n : Int) ≠ 0 by omega)
        have h2 := Int.emod_lt_of_pos z (show (0 : Int) < n by omega)
        exact ⟨(z % (n : Int)).toNat, (Int.toNat_of_nonneg h1).symm, by omega⟩
      refine ⟨fun σ' H' => σ' = [some (.ref p), some (.int n), v2, v3, v4] ∧ H' = H1, ?_, ?_⟩
      · refine ⟨_, rfl, p, _, 2, _, rfl, rfl, e1, rfl, _, _, rfl, rfl, _, rfl, ite_any ?_ ⟨rfl, rfl⟩⟩
        refine ⟨_, rfl, p, _, 2, _, rfl, rfl, e1, rfl, .inl ⟨_, rfl, _, rfl, _, _, rfl, rfl, (by omega : (0 : Int) < n), ?_⟩⟩
        refine ⟨_, rfl, p, _, 2, _, rfl, rfl, e1, rfl, _, rfl, _, _, rfl, rfl, ⟨by omega, by omega⟩, _, rfl, p, _, 2, 2, rfl, rfl, e1, rfl, ?_⟩
        obtain ⟨x, hx, hxn⟩ := nat_of a1
        refine ⟨_, rfl, ?_⟩
        have := q x (upd H1 p (.lst [.ref c, .int k1, .int (a1 / (n : Int)), .int b1, .int d1])) (ku kp1) (mk k1 (a1 / (n : Int)) b1 d1 _ (ku kp1) upd_same) hxn
        rw [← hx] at this
        exact this
      · rintro σ2 H9 ⟨rfl, rfl⟩
        refine ⟨_, rfl, p, _, 4, _, rfl, rfl, e1, rfl, _, _, rfl, rfl, _, rfl, p, _, 4, 4, rfl, rfl, e1, rfl, ?_⟩
        refine ⟨_, rfl, p, _, 3, _, rfl, rfl, upd_same, rfl, _, rfl, p, _, 4, _, rfl, rfl, upd_same, rfl, _, _, rfl, rfl, .inl ⟨by decide, by decide⟩, _, _, rfl, rfl, .inl ⟨_, rfl, _, _, rfl, rfl, .inr ⟨by decide, by decide⟩, .inl ⟨_, rfl, _, _, rfl, rfl, (by decide : (0 : Int) < 2147483647), ?_⟩⟩⟩
        have em : ∀ X : Int, -(2 ^ 64) < X % 2147483647 ∧ X % 2147483647 < 2 ^ 64 := fun X => ⟨by omega, by omega⟩
        refine ⟨_, rfl, _, rfl, _, _, rfl, rfl, ⟨by decide, by decide⟩, _, _, rfl, rfl, _, _, rfl, rfl, .inl ⟨(em _).1, (em _).2⟩, .inl ⟨_, rfl, _, _, rfl, rfl, (by decide : (0 : Int) < 2147483647), ?_⟩⟩
        refine ⟨_, rfl, _, rfl, _, _, rfl, rfl, ⟨by decide, by decide⟩, _, _, rfl, rfl, _, _, rfl, rfl, .inl ⟨(em _).1, (em _).2⟩, .inl ⟨_, rfl, _, _, rfl, rfl, (by decide : (0 : Int) < 2147483399), ?_⟩⟩
        refine ⟨_, rfl, _, _, rfl, rfl, ⟨by decide, by decide⟩, .inl ⟨_, rfl, _, rfl, _, _, rfl, rfl, (by omega : (0 : Int) < n), ?_⟩⟩
        have fin : ∀ z : Int, Q (.int (z % (n : Int))) (upd H9 p (.lst [.ref c, .int k1, .int a1, .int b1, .int (d1 + 1)])) := fun z => by
          obtain ⟨x, hx, hxn⟩ := nat_of z
          rw [hx]
          exact q x _ (ku kp1) (mk k1 a1 b1 (d1 + 1) _ (ku kp1) upd_same) hxn
        exact fin _

abbrev s__law_any : Stmt := top 53
def sp__law_any : Sp := fun vs H Q _ => ∃ (p c l : Addr) (xs : List V), vs = [.ref p, .ref l] ∧ Pot H p c ∧ H l = some (.lst xs) ∧ l ≠ p ∧ 0 < xs.length ∧ xs.length < 1000000 ∧ ∀ (i : Nat) v H', Keep [p] H H' → Pot H' p c → xs[i]? = some v → Q v H'
theorem ok__law_any {f : Addr} {fd : FuncData} (F : Fun K "_law_any" "_law_any" s__law_any f fd) (T : Txt K mg cT cR cS cA) (G__law_draw : Fn P w K mg base 1 "_law_draw" ["_law_pot_here", "_law_many"] sp__law_draw) : FnOk P w K mg base CX0 2 f fd ["_law_pot_here", "_law_things"] sp__law_any := by
  have sc : FnScope ["_law_pot_here", "_law_things"] ["_law_pot_here", "_law_things"] (defScope s__law_any) := sc_by (by decide +kernel)
  refine F.ok sc (fun vs H Q E h => ?_) (fun cdv A outer s H vs Q E hr h => ?_)
  · obtain ⟨_, _, _, _, rfl, _⟩ := h; rfl
  · obtain ⟨p, c, l, xs, rfl, hp, hl, nlp, h0, h1, q⟩ := h
    have hu := hu9 hr
    have hu65 := hu65 hr
    have hu1 := hu1_of hr
    refine ⟨_, (pss_one (ps_ret (pe_ix ixl (pv 1) (pe_fn G__law_draw (hr.mono (by decide)) rfl (pa_cons (pv 0) (pa_cons (pe_callB lenF (by rfl) T.len (by decide +kernel) (pa_cons (pv 1) pa_nil)) pa_nil))) (fun _ _ => rfl)))), ?_⟩
    refine ⟨_, rfl, _, rfl, _, rfl, l, xs, rfl, .inl hl, p, c, xs.length, rfl, hp, h0, h1, fun i H' k hp' hi => ?_⟩
    exact ⟨l, xs, i, _, rfl, rfl, k _ _ hl (by simpa using nlp), List.getElem?_eq_getElem hi, q i _ _ k hp' (List.getElem?_eq_getElem hi)⟩

end
end S1

/-! LI: the law's lots -/
namespace S1
open PySem L2
theorem rows_of {H : Hp} : ∀ {rs : List (List Int)} {vs : List V}, NKs H (rs.map rowK) vs → ∃ ks : List (Addr × List Int), vs = ks.map (fun p => V.ref p.1) ∧ ks.map (·.2) = rs ∧ ∀ p ∈ ks, H p.1 = some (.tup (p.2.map V.int))
  | [], vs, h => by
    obtain rfl : vs = [] := h
    exact ⟨[], rfl, rfl, by simp⟩
  | r :: rs, vs, h => by
    obtain ⟨v, vs', rfl, h1, h2⟩ := h
    obtain ⟨a, rfl, ha⟩ := NK.row.mp h1
    obtain ⟨ks, rfl, e, hk⟩ := rows_of h2
    refine ⟨(a, r) :: ks, rfl, by simp [e], fun p hp => ?_⟩
    rcases List.mem_cons.mp hp with rfl | hp
    · exact ha
    · exact hk p hp
theorem of_rows {H : Hp} : ∀ {ks : List (Addr × List Int)}, (∀ p ∈ ks, H p.1 = some (.tup (p.2.map V.int))) → NKs H ((ks.map (·.2)).map rowK) (ks.map fun p => V.ref p.1)
  | [], _ => rfl
  | (a, r) :: ks, h => ⟨_, _, rfl, NK.row.mpr ⟨a, rfl, h _ List.mem_cons_self⟩, of_rows fun p hp => h p (List.mem_cons_of_mem _ hp)⟩
theorem row_code {a b : List Int} (ha : Row3 a) (hb : Row3 b) (h : TS.code 3 a ≤ TS.code 3 b) (n : a ≠ b) : HT.lexLt a b = true := by
  obtain ⟨la, ba⟩ := ha
  obtain ⟨lb, bb⟩ := hb
  match a, la, b, lb with
  | [a0, a1, a2], _, [b0, b1, b2], _ =>
    have x0 := ba a0 (by simp)
    have x1 := ba a1 (by simp)
    have x2 := ba a2 (by simp)
    have y0 := bb b0 (by simp)
    have y1 := bb b1 (by simp)
    have y2 := bb b2 (by simp)
    simp only [TS.code, List.length_cons, List.length_nil] at h
    have h' : a0 * 9 + (a1 * 3 + a2) ≤ b0 * 9 + (b1 * 3 + b2) := by
      have e2 : (3 : Int) ^ (0 + 1 + 1) = 9 := by decide
      have e1 : (3 : Int) ^ (0 + 1) = 3 := by decide
      have e0 : (3 : Int) ^ 0 = 1 := by decide
      rw [e2, e1, e0] at h
      omega
    simp only [HT.lexLt]
    by_cases c0 : a0 = b0
    · rw [if_pos c0]
      by_cases c1 : a1 = b1
      · rw [if_pos c1]
        by_cases c2 : a2 = b2
        · exact absurd (by rw [c0, c1, c2]) n
        · rw [if_neg c2]; simp; omega
      · rw [if_neg c1]; simp; omega
    · rw [if_neg c0]; simp; omega
theorem set_sort {K : PySem.W.Frag} {P : Program} {w : World} {H : Hp} {l : Addr} {vs : List V} {rs : List (List Int)} {Q : VK} (hl : H l = some (.lst vs)) (hv : NKs H (rs.map rowK) vs) (h3 : ∀ r ∈ rs, Row3 r) (hn : rs.length < 64)
    (q : ∀ p H' ls vs', Same H H' → H' p = some (.lst vs') → NKs H' (ls.map rowK) vs' → Rising ls → (∀ r, r ∈ ls ↔ r ∈ rs) → ls.length ≤ 27 → Q (.ref p) H') : rSetOfT K P w [.ref l] H (fun x H1 => rSortedT K P w [x] H1 Q) := by
  obtain ⟨ks, rfl, rfl, hk⟩ := rows_of hv
  refine ⟨l, ks, rfl, SqL.of hl, fun p hp => SqT.of (hk p hp), by simpa using hn, fun a L ha h1 h2 => ?_⟩
  have s1 : Same H (upd H a (SetTO P w a L)) := same_upd _ ha
  have hLk : ∀ p ∈ L, (upd H a (SetTO P w a L)) p.1 = some (.tup (p.2.map V.int)) := fun p hp => s1 _ _ (hk p (h1 p hp))
  have hL3 : ∀ p ∈ L, Row3 p.2 := fun p hp => h3 p.2 (List.mem_map.mpr ⟨p, h1 p hp, rfl⟩)
  refine ⟨a, L, 3, 3, rfl, upd_same, fun p hp => SqT.of (hLk p hp), by decide, fun p hp => ⟨(hL3 p hp).1, fun m hm => by have := (hL3 p hp).2 m hm; omega⟩, fun L' p hperm hnd hlen hpw hp => ?_⟩
  have s2 : Same (upd H a (SetTO P w a L)) (upd (upd H a (SetTO P w a L)) p (.lst (L'.map fun q => V.ref q.1))) := same_upd _ hp
  have hm' : ∀ q ∈ L', q ∈ L := fun q hq => hperm.mem_iff.mp hq
  refine q p _ (L'.map (·.2)) _ (s1.trans s2) upd_same (of_rows fun q hq => s2 _ _ (hLk q (hm' q hq))) ?_ (fun r => ?_) ?_
  · unfold Rising
    rw [List.pairwise_map]
    have hnd' := List.pairwise_map.mp (List.nodup_iff_pairwise_ne.mp hnd)
    have := hpw.and hnd'
    exact List.Pairwise.imp_of_mem (fun {x y} hx hy h => row_code (hL3 x (hm' x hx)) (hL3 y (hm' y hy)) h.1 h.2) this
  · constructor
    · intro hr
      obtain ⟨q, hq, rfl⟩ := List.mem_map.mp hr
      exact List.mem_map.mpr ⟨q, h1 q (hm' q hq), rfl⟩
    · intro hr
      obtain ⟨q, hq, rfl⟩ := List.mem_map.mp hr
      obtain ⟨q', hq', e⟩ := List.mem_map.mp (h2 q hq)
      exact List.mem_map.mpr ⟨q', hperm.mem_iff.mpr hq', e⟩
  · refine Nat.le_trans (nodup_sub_len (m := rows3) hnd fun r hr => ?_) (by decide)
    obtain ⟨q, hq, rfl⟩ := List.mem_map.mp hr
    exact row3_mem (hL3 q (hm' q hq))
theorem Pot.keepT {H H' : Hp} {p c : Addr} (h : Pot H p c) (k : Keep [p] H H') : KeepT H H' := by
  obtain ⟨ns, x, a, b, d, h1, h2, h3⟩ := h
  exact k.keepT fun b hb ys e => by rw [List.mem_singleton.mp hb, h1] at e; cases e
section
variable {P : Program} {w : World} {K : PySem.W.Frag} {mg : Str → Option Value} {base : Heap} {cT cR cS cA : Addr}
abbrev s__law_lot : Stmt := top 54
def sp__law_lot : Sp := fun vs H Q _ => ∃ (p c : Addr) (vals most : Nat), vs = [.ref p, .int 3, .int vals, .int most] ∧ Pot H p c ∧ 0 < vals ∧ vals ≤ 3 ∧ 0 < most ∧ most ≤ 20 ∧ ∀ (t : Addr) (ls : List (List Int)) H', Keep [p] H H' → Pot H' p c → LotOk ls → NK H' (lotK ls) (.ref t) → Q (.ref t) H'
theorem ok__law_lot {f : Addr} {fd : FuncData} (F : Fun K "_law_lot" "_law_lot" s__law_lot f fd) (T : Txt K mg cT cR cS cA) (G__law_draw : Fn P w K mg base 1 "_law_draw" ["_law_pot_here", "_law_many"] sp__law_draw) (G__law_any : Fn P w K mg base 2 "_law_any" ["_law_pot_here", "_law_things"] sp__law_any) : FnOk P w K mg base CX0 3 f fd ["_law_pot_here", "_law_many", "_law_values", "_law_most"] sp__law_lot := by
  have sc : FnScope ["_law_pot_here", "_law_many", "_law_values", "_law_most", "_law_place", "_law_rows", "_law_turn", "_law_row", "_law_near", "_law_far", "_law_at"] ["_law_pot_here", "_law_many", "_law_values", "_law_most"] (defScope s__law_lot) := sc_by (by decide +kernel)
  refine F.ok sc (fun vs H Q E h => ?_) (fun cdv A outer s H vs Q E hr h => ?_)
  · obtain ⟨_, _, _, _, rfl, _⟩ := h; rfl
  · obtain ⟨p, c, vals, most, rfl, hp, hv0, hv3, hm0, hm1, q⟩ := h
    have hu := hu9 hr
    have hu65 := hu65 hr
    have hu1 := hu1_of hr
    refine ⟨_, (pss_cons (ps_set (i := 5) sc.nd rfl (Or.inl rfl) (pe_lst (pa_cons (pe_callTy call_tupL (by rfl) T.tuple (by decide +kernel) (pa_cons (pe_lc (own := [("_law_place", 4)]) rfl sc.nd (pi_range1 (by rfl) T.range (pa_cons (pv 1) pa_nil)) (blkOk_by (by kernel_rfl)) (fun _ _ _ _ _ => (pg_name (i := 4) sc.nd rfl (Or.inl rfl) (Or.inr rfl))) (fun _ _ _ _ _ => pts_nil) (fun _ _ _ _ _ => (pe_fn G__law_draw (hr.mono (by decide)) rfl (pa_cons (pv 0) (pa_cons (pv 2) pa_nil))))) pa_nil)) pa_nil)))
      (pss_cons (ps_for PassesOwn.never rfl (pi_range1 (by rfl) T.range (pa_cons (pe_fn G__law_draw (hr.mono (by decide)) rfl (pa_cons (pv 0) (pa_cons (pv 3) pa_nil))) pa_nil)) (pg_name (i := 6) sc.nd rfl (Or.inl rfl) (Or.inl rfl))
        (pss_cons (ps_par rfl sc.nd (i := 7) (j := 4) rfl rfl (by decide) rfl rfl (pa_cons (pe_fn G__law_any (hr.mono (by decide)) rfl (pa_cons (pv 0) (pa_cons (pv 5) pa_nil))) (pa_cons (pe_fn G__law_draw (hr.mono (by decide)) rfl (pa_cons (pv 0) (pa_cons (pv 1) pa_nil))) pa_nil)) rfl)
          (pss_cons (ps_set (i := 8) sc.nd rfl (Or.inl rfl) (pe_op op_catI (pe_op op_catI (pe_slice sl_imm (pv 7) po_none (po_some (pv 4))) (pe_tup (pa_cons (pe_fn G__law_draw (hr.mono (by decide)) rfl (pa_cons (pv 0) (pa_cons (pv 2) pa_nil))) pa_nil))) (pe_slice sl_imm (pv 7) (po_some (pe_op op_add (pv 4) pe_int)) po_none)))
          (pss_cons (ps_set (i := 9) sc.nd rfl (Or.inl rfl) (pe_callTy call_tupL (by rfl) T.tuple (by decide +kernel) (pa_cons (pe_lc (own := [("_law_at", 10)]) rfl sc.nd (pi_range1 (by rfl) T.range (pa_cons (pv 1) pa_nil)) (blkOk_by (by kernel_rfl)) (fun _ _ _ _ _ => (pg_name (i := 10) sc.nd rfl (Or.inl rfl) (Or.inr rfl))) (fun _ _ _ _ _ => pts_nil) (fun _ _ _ _ _ => (pe_fn G__law_draw (hr.mono (by decide)) rfl (pa_cons (pv 0) (pa_cons (pv 2) pa_nil))))) pa_nil)))
          (pss_one (ps_expr (pe_bm PySem.F.plainAttrs_list PySem.F.slot_list_append PySem.F.type_list_append mt_append (pv 5) (pa_cons (pe_fn G__law_any (hr.mono (by decide)) rfl (pa_cons (pv 0) (pa_cons (pe_lst (pa_cons (pv 8) (pa_cons (pv 8) (pa_cons (pv 9) pa_nil)))) pa_nil))) pa_nil))))))))
      (pss_one (ps_ret (pe_callTy call_tupL (by rfl) T.tuple (by decide +kernel) (pa_cons (pe_callB (cr_sortedT rfl) (by rfl) T.sorted (by decide +kernel) (pa_cons (pe_callTy (cr_setOfT rfl hr.units) (by rfl) T.set (by decide +kernel) (pa_cons (pv 5) pa_nil)) pa_nil)) pa_nil)))))), ?_⟩
    refine ⟨_, rfl, 3, rfl, by decide, by decide, fun D hD => lc_map (walkR (n := 3)) [p] (by simp; exact hp.nn) (by decide) hD (fun _ _ => trivial) (fun i H' acc => Pot H' p c ∧ ∃ ns : List Int, acc = ns.map V.int ∧ ns.length = i ∧ ∀ x ∈ ns, 0 ≤ x ∧ x ≤ 2) ⟨hp.mono (same_upd _ hD), [], rfl, rfl, by simp⟩ (fun i x H1' H1 acc Kf hi k hacc hl hR hY hK => ?_) (fun H1 acc k hacc hl hR => ?_)⟩
    · obtain ⟨rfl, rfl⟩ := hY
      obtain ⟨hp1, ns, rfl, hl1, hb⟩ := hR
      obtain ⟨n1, n2⟩ := hp.ne hD
      refine ⟨rfl, _, rfl, _, rfl, p, c, vals, rfl, hp1, hv0, by omega, fun z H2 k2 hp2 hz => hK _ _ k2 ⟨hp2.upd' _ n1 n2, ns ++ [(z : Int)], by simp, by simp [hl1], fun x hx => ?_⟩⟩
      rcases List.mem_append.mp hx with h | h
      · exact hb x h
      · rw [List.mem_singleton.mp h]; omega
    obtain ⟨hp1, ns, rfl, hl1, hb⟩ := hR
    refine ⟨D, _, rfl, hacc, fun t0 H2 s2 e2 => ?_⟩
    have kk2 : Keep [p] H H2 := k.trans (Keep.of_same s2)
    refine ⟨by show 1 ≤ sizeLine; decide, fun rl hrl => ?_⟩
    have hrl0 : H rl = none := by
      cases e : H rl with
      | none => rfl
      | some o =>
        by_cases z : rl = p
        · exact absurd (by rw [← z]; exact hrl) (hp1.mono s2).nn
        · rw [kk2 _ _ e (by simpa using z)] at hrl; cases hrl
    obtain ⟨m1, m2⟩ := hp.ne hrl0
    have hrows : ∀ {H' : Hp}, Keep [rl] H' H' := Keep.refl _ _
    refine ⟨_, rfl, _, rfl, p, c, most, rfl, (hp1.mono s2).mono (same_upd _ hrl), hm0, by omega, fun z H3 k3 hp3 hz => ?_⟩
    refine ⟨(z : Int), rfl, by omega, by omega, for_it (n := z) walkR (fun i σ H' => ∃ (vs : List V) (rs : List (List Int)) (v4 v6 v7 v8 v9 v10 : Option V), σ = [some (.ref p), some (.int 3), some (.int vals), some (.int most), v4, some (.ref rl), v6, v7, v8, v9, v10] ∧ Keep [p] H H' ∧ Pot H' p c ∧ H' rl = some (.lst vs) ∧ NKs H' (rs.map rowK) vs ∧ (∀ r ∈ rs, Row3 r) ∧ rs.length = i + 1) ⟨[.ref t0], [ns], none, none, none, none, none, none, rfl, ?_, hp3, ?_, ?_, ?_, rfl⟩ (fun _ _ _ _ _ => trivial) ?_ ?_⟩
    · exact fun b o e n => k3 b o (by rw [upd_ne (ne_of_none e hrl0)]; exact kk2 b o e n) n
    · exact k3 rl _ upd_same (by simpa using m1)
    · have n0 : t0 ≠ rl := fun z => by rw [z, hrl] at e2; cases e2
      exact ⟨_, _, rfl, NK.row.mpr ⟨t0, rfl, ((hp1.mono s2).mono (same_upd _ hrl)).keepT k3 _ _ (by rw [upd_ne n0]; exact e2)⟩, rfl⟩
    · intro r hr
      rw [List.mem_singleton.mp hr]
      exact ⟨hl1, hb⟩
    · rintro i x σ H4' H4 hi ⟨vs, rs, v4, v6, v7, v8, v9, v10, rfl, k4, hp4, hrl4, hnk, h3, hlen⟩ ⟨rfl, rfl⟩
      have hvl : vs.length = i + 1 := by rw [hnk.lenK, hlen]
      refine ⟨_, rfl, _, rfl, p, c, rl, vs, rfl, hp4, hrl4, m1, by omega, by omega, fun j v H5 k5 hp5 hj => ⟨_, rfl, _, rfl, p, c, 3, rfl, hp5, by decide, by decide, fun pl H6 k6 hp6 hpl => ⟨_, _, rfl, ?_⟩⟩⟩
      obtain ⟨r, er, nr⟩ := hnk.atK hj
      obtain ⟨a, rfl, ha⟩ := nr.rowI
      have hr3 := h3 r (List.mem_of_getElem? er)
      have t46 : KeepT H4 H6 := (hp4.keepT k5).trans (hp5.keepT k6)
      have ha6 := t46 _ _ ha
      refine ⟨_, rfl, _, rfl, _, rfl, a, _, rfl, ha6, fun p1 H7 s7 h7 => ?_⟩
      rw [cut_take] at h7
      have hp7 := hp6.mono s7
      refine ⟨_, rfl, _, rfl, p, c, vals, rfl, hp7, hv0, by omega, fun y H8 k8 hp8 hy => ⟨by show 1 ≤ sizeLine; decide, fun q1 hq1 => ?_⟩⟩
      have s8 : Same H8 (upd H8 q1 (.tup [.int y])) := same_upd _ hq1
      refine ⟨p1, q1, _, _, rfl, rfl, s8 _ _ (hp7.keepT k8 _ _ h7), upd_same, by simp [sizeLine_eq, hr3.1]; omega, fun p2 H9 s9 h9 => ?_⟩
      have t69 : KeepT H6 H9 := (((KeepT.of_same s7).trans (hp7.keepT k8)).trans (KeepT.of_same s8)).trans (KeepT.of_same s9)
      refine ⟨_, rfl, _, rfl, _, _, rfl, rfl, _, rfl, a, _, rfl, t69 _ _ ha6, fun p3 H10 s10 h10 => ?_⟩
      rw [show (some ((pl : Int) + 1)) = some ((pl + 1 : Nat) : Int) by simp, cut_drop] at h10
      refine ⟨p2, p3, _, _, rfl, rfl, s10 _ _ h9, h10, by simp [sizeLine_eq, hr3.1]; omega, fun p4 H11 s11 h11 => ?_⟩
      have hp11 : Pot H11 p c := (((hp8.mono s8).mono s9).mono s10).mono s11
      have k411 : Keep [p] H4 H11 := ((((((k5.trans k6).trans (Keep.of_same s7)).trans k8).trans (Keep.of_same s8)).trans (Keep.of_same s9)).trans (Keep.of_same s10)).trans (Keep.of_same s11)
      have hnear : ∃ r4, Row3 r4 ∧ NK H11 (rowK r4) (.ref p4) := by
        refine ⟨r.take pl ++ [(y : Int)] ++ r.drop (pl + 1), ⟨by simp [hr3.1]; omega, fun x hx => ?_⟩, NK.row.mpr ⟨p4, rfl, by rw [h11]; simp [List.map_take, List.map_drop]⟩⟩
        simp only [List.mem_append, List.mem_singleton] at hx
        rcases hx with (h | h) | h
        · exact hr3.2 x (List.mem_of_mem_take h)
        · rw [h]; omega
        · exact hr3.2 x (List.mem_of_mem_drop h)
      obtain ⟨r4, hr4, nk4⟩ := hnear
      clear h7 h9 h10 h11
      refine ⟨_, rfl, 3, rfl, by decide, by decide, fun D2 hD2 => lc_map (walkR (n := 3)) [p] (by simp; exact hp11.nn) (by decide) hD2 (fun _ _ => trivial) (fun i H' acc => Pot H' p c ∧ ∃ ns : List Int, acc = ns.map V.int ∧ ns.length = i ∧ ∀ x ∈ ns, 0 ≤ x ∧ x ≤ 2) ⟨hp11.mono (same_upd _ hD2), [], rfl, rfl, by simp⟩ (fun i x H1' H1 acc Kf hi k hacc hl hR hY hK => ?_) (fun H12 acc k12 hacc hl hR => ?_)⟩
      · obtain ⟨rfl, rfl⟩ := hY
        obtain ⟨hp1, ns, rfl, hl1, hb⟩ := hR
        obtain ⟨n1, n2⟩ := hp11.ne hD2
        refine ⟨rfl, _, rfl, _, rfl, p, c, vals, rfl, hp1, hv0, by omega, fun z H2 k2 hp2 hz => hK _ _ k2 ⟨hp2.upd' _ n1 n2, ns ++ [(z : Int)], by simp, by simp [hl1], fun x hx => ?_⟩⟩
        rcases List.mem_append.mp hx with h | h
        · exact hb x h
        · rw [List.mem_singleton.mp h]; omega
      obtain ⟨hp12, ns5, rfl, hl5, hb5⟩ := hR
      refine ⟨D2, _, rfl, hacc, fun t5 H13 s13 e13 => ?_⟩
      have hp13 := hp12.mono s13
      have k413 : Keep [p] H4 H13 := (k411.trans k12).trans (Keep.of_same s13)
      have hrl13 : H13 rl = some (.lst vs) := k413 _ _ hrl4 (by simpa using m1)
      refine ⟨_, rfl, .inl ⟨rfl, _, SqL.of hrl13⟩, ?_⟩
      refine ⟨_, rfl, _, rfl, _, rfl, _, rfl, by show 3 ≤ sizeLine; decide, fun l3 hl3 => ?_⟩
      obtain ⟨n31, n32⟩ := hp13.ne hl3
      have s14 : Same H13 (upd H13 l3 (.lst [.ref p4, .ref p4, .ref t5])) := same_upd _ hl3
      refine ⟨p, c, l3, _, rfl, hp13.mono s14, upd_same, n31, by show 0 < 3; decide, by show 3 < 1000000; decide, fun j6 v6' H15 k15 hp15 hj6 => ?_⟩
      have t1315 : KeepT H13 H15 := (KeepT.of_same s14).trans ((hp13.mono s14).keepT k15)
      have t1115 : KeepT H11 H15 := ((hp11.keepT k12).trans (KeepT.of_same s13)).trans t1315
      have k415 : Keep [p] H4 H15 := (k413.trans (Keep.of_same s14)).trans k15
      have hv6 : ∃ r6, Row3 r6 ∧ NK H15 (rowK r6) v6' := by
        match j6, hj6 with
        | 0, h => cases h; exact ⟨r4, hr4, NK.mono t1115 _ _ nk4⟩
        | 1, h => cases h; exact ⟨r4, hr4, NK.mono t1115 _ _ nk4⟩
        | 2, h => cases h; exact ⟨ns5, ⟨hl5, hb5⟩, NK.row.mpr ⟨t5, rfl, t1315 _ _ e13⟩⟩
      obtain ⟨r6, hr6, nk6⟩ := hv6
      have hrl15 : H15 rl = some (.lst vs) := k415 _ _ hrl4 (by simpa using m1)
      have kt : KeepT H15 (upd H15 rl (.lst (vs ++ [v6']))) := keepT_upd fun xs e => by rw [hrl15] at e; cases e
      refine ⟨rl, _, _, rfl, rfl, hrl15, by rw [sizeLine_eq]; omega, vs ++ [v6'], rs ++ [r6], _, _, _, _, _, _, rfl, fun b o e n => ?_, hp15.upd' _ m1 m2, upd_same, ?_, ?_, ?_⟩
      · rw [upd_ne (ne_of_none e hrl0)]; exact k415 _ _ (k4 _ _ e n) n
      · rw [List.map_append]
        exact NKs.snoc (NKs.mono ((hp4.keepT k415).trans kt) _ _ hnk) (NK.mono kt _ _ nk6)
      · intro r hr
        rcases List.mem_append.mp hr with h | h
        · exact h3 r h
        · rw [List.mem_singleton.mp h]; exact hr6
      · simp [hlen]
    · rintro σ H4 ⟨vs, rs, v4, v6, v7, v8, v9, v10, rfl, k4, hp4, hrl4, hnk, h3, hlen⟩
      refine ⟨_, rfl, ?_⟩
      simp only [tNil]
      refine set_sort hrl4 hnk h3 (by omega) (fun p5 H5 ls vs' s5 e5 nk5 hris hmem hll => ?_)
      refine ⟨p5, _, rfl, e5, fun t H6 s6 e6 => q t ls H6 ((k4.trans (Keep.of_same s5)).trans (Keep.of_same s6)) ((hp4.mono s5).mono s6) ⟨?_, by omega, fun r hr => h3 r ((hmem r).mp hr), hris⟩ ⟨t, vs', rfl, e6, NKs.mono (KeepT.of_same s6) _ _ nk5⟩⟩
      obtain ⟨r0, rs', e⟩ : ∃ r0 rs', rs = r0 :: rs' := by
        cases rs with
        | nil => simp at hlen
        | cons r0 rs' => exact ⟨r0, rs', rfl⟩
      exact List.length_pos_of_mem ((hmem r0).mpr (by rw [e]; simp))

end
end S1

/-! LJ: the law's views -/
namespace S1
open PySem L2
theorem pi_listP {X : Cx} {tg l : Expr} {tl : TE} (K : PySem.W.Frag) (he : PE X l tl) (hK : X.K = K := by rfl) : PI X tg l (iList K tl) := by subst hK; exact pi_list he
section
variable {P : Program} {w : World} {K : PySem.W.Frag} {mg : Str → Option Value} {base : Heap} {cT cR cS cA : Addr}
abbrev s__law_views : Stmt := top 55
def sp__law_views : Sp := fun vs H Q _ => ∃ (a b : Addr) (ns : List Int) (p : Pat), vs = [.ref a, .ref b] ∧ NK H (rowK ns) (.ref a) ∧ NK H (patK p) (.ref b) ∧ ns.length = 3 ∧ (∀ m ∈ p, m.length = 3 ∧ ∀ k ∈ m, k = .none ∨ ∃ x : Int, k = .num x) ∧
  ∀ t H', Same H H' → NK H' (.tup (viewsK ns p)) (.ref t) → Q (.ref t) H'
theorem ok__law_views {f : Addr} {fd : FuncData} (F : Fun K "_law_views" "_law_views" s__law_views f fd) (T : Txt K mg cT cR cS cA) : FnOk P w K mg base CX0 1 f fd ["_law_inputs", "_law_pattern"] sp__law_views := by
  have sc : FnScope ["_law_inputs", "_law_pattern", "_law_here", "_law_every", "_law_row", "_law_value", "_law_me", "_law_other"] ["_law_inputs", "_law_pattern"] (defScope s__law_views) := sc_by (by decide +kernel)
  refine F.ok sc (fun vs H Q E h => ?_) (fun cdv A outer s H vs Q E hr h => ?_)
  · obtain ⟨_, _, _, _, rfl, _⟩ := h; rfl
  · obtain ⟨a, b, ns, p, rfl, ha, hb, h3, hm3, q⟩ := h
    have hu := hu9 hr
    have hu65 := hu65 hr
    have hu1 := hu1_of hr
    refine ⟨_, (pss_cons (ps_asg (pe_tup (pa_cons (pe_callTy call_tupL (by rfl) T.tuple (by decide +kernel) (pa_cons (pe_lc (own := [("_law_value", 5)]) rfl sc.nd (pi_tup (pv 0)) (blkOk_by (by kernel_rfl)) (fun _ _ _ _ _ => (pg_name (i := 5) sc.nd rfl (Or.inl rfl) (Or.inr rfl))) (fun _ _ _ _ _ => pts_nil) (fun _ _ _ _ _ => (pe_tup (pa_cons (pv 5) pa_nil)))) pa_nil)) (pa_cons (pe_listRg rfl rfl T.list (prg_1 rfl T.range (pe_callB lenF (by rfl) T.len (by decide +kernel) (pa_cons (pv 0) pa_nil)))) pa_nil))) (pg_tu 2 rfl (pgs_cons (pg_name (i := 2) sc.nd rfl (Or.inr rfl) (Or.inl rfl)) (pgs_cons (pg_name (i := 3) sc.nd rfl (Or.inr rfl) (Or.inl rfl)) pgs_nil))))
      (pss_cons (ps_for PassesOwn.never rfl (pi_tup (pv 1)) (pg_name (i := 4) sc.nd rfl (Or.inr rfl) (Or.inl rfl))
        (pss_one (ps_set (i := 2) sc.nd rfl (Or.inr rfl) (pe_callTy call_tupL (by rfl) T.tuple (by decide +kernel) (pa_cons (pe_lc (own := [("_law_me", 6)]) rfl sc.nd (pi_listP K (pv 3)) (blkOk_by (by kernel_rfl)) (fun _ _ _ _ _ => (pg_name (i := 6) sc.nd rfl (Or.inr rfl) (Or.inl rfl))) (fun _ _ _ _ _ => pts_nil) (fun _ _ _ _ _ => (pe_callTy call_tupL (by rfl) T.tuple (by decide +kernel) (pa_cons (pe_lc (own := [("_law_other", 7)]) rfl sc.nd (pi_listP K (pv 3)) (blkOk_by (by kernel_rfl)) (fun _ _ _ _ _ => (pg_name (i := 7) sc.nd rfl (Or.inl rfl) (Or.inr rfl))) (fun _ _ _ _ _ => pts_nil) (fun _ _ _ _ _ => (pe_ifExp (pt_cmpR op_eq (pe_ix ixt (pv 4) (pv 6) (fun _ _ => rfl)) (pv 7) (nomark _)) pe_non (pe_ix ixt (pv 2) (pv 7) (fun _ _ => rfl))))) pa_nil)))) pa_nil)))))
      (pss_one (ps_ret (pv 2))))), ?_⟩
    obtain ⟨a', ea, ga⟩ := ha.rowI
    cases ea
    obtain ⟨b', us, eb, gb, hks⟩ := id hb
    cases eb
    have hlu := hks.lenK
    refine ⟨_, rfl, a, rfl, ⟨_, SqT.of ga⟩, fun D hD => lc_map (walkT (xs := ns.map V.int)) [] (by simp) (by simp; omega) hD (fun H' k => k _ _ ga (by simp)) (fun i H' acc => NKs H' ((ns.take i).map fun x => .tup [.num x]) acc) rfl (fun i x H1' H2 acc Kf hi k hacc hl hR hY hK => ?_) (fun H1 vs1 k1 e1 hl1 k2 => ?_)⟩
    · obtain ⟨rfl, hx⟩ := hY
      rw [List.getElem?_map] at hx
      obtain ⟨n, en, rfl⟩ := Option.map_eq_some_iff.mp hx
      refine ⟨rfl, _, rfl, by show 1 ≤ sizeLine; decide, fun t ht => hK _ _ (Keep.of_same (same_upd _ ht)) ?_⟩
      have nt : D ≠ t := fun z => by rw [z, ht] at hacc; cases hacc
      rw [List.take_add_one, en, List.map_append]
      have k4 : KeepT H2 (upd (upd H2 t (.tup [.int n])) D (.lst (acc ++ [.ref t]))) := (KeepT.of_same (same_upd _ ht)).trans (keepT_upd fun xs e => by rw [upd_ne nt, hacc] at e; cases e)
      exact NKs.snoc (NKs.mono k4 _ _ hR) ⟨t, _, rfl, by rw [upd_ne nt.symm, upd_same], _, _, rfl, rfl, rfl⟩
    have s1 := Keep.same k1
    rw [List.take_of_length_le (by simp)] at k2
    have l1 : vs1.length = 3 := by rw [k2.lenK, h3]
    refine ⟨D, _, rfl, e1, fun t0 H2 s2 e2 => ?_⟩
    refine ⟨_, rfl, a, _, rfl, .inr (s2 _ _ (s1 _ _ ga)), _, rfl, RgOk.of_le (by decide) (by simp; omega) (by decide) (by omega), fun e he => ?_⟩
    have hrg : rgV 0 ((ns.map V.int).length : Int) = (List.range 3).map fun (j : Nat) => V.int (j : Int) := by rw [List.length_map, h3]; decide
    rw [hrg]
    have s3 : Same H2 (upd H2 e (.lst ((List.range 3).map fun (j : Nat) => V.int (j : Int)))) := same_upd _ he
    refine ⟨by show 2 ≤ sizeLine; decide, fun p0 hp0 => ?_⟩
    have s4 := s3.trans (same_upd (.tup [.ref t0, .ref e]) hp0)
    have e4 : (upd (upd H2 e (.lst ((List.range 3).map fun (j : Nat) => V.int (j : Int)))) p0 (.tup [.ref t0, .ref e])) e = some (.lst ((List.range 3).map fun (j : Nat) => V.int (j : Int))) := by
      rw [upd_ne fun z => by rw [← z, upd_same] at hp0; cases hp0]; exact upd_same
    refine ⟨p0, _, rfl, upd_same, rfl, _, _, rfl, _, _, rfl, rfl, ?_⟩
    generalize upd (upd H2 e _) p0 _ = H4 at s4 e4
    have s5 : Same H H4 := (s1.trans s2).trans s4
    have l0 : (ns.map fun x => NestedKey.tup [.num x]).length = 3 := by simp [h3]
    have hrl : ∀ {j : Nat} {x : V}, ((List.range 3).map fun (j : Nat) => V.int (j : Int))[j]? = some x → x = .int (j : Int) ∧ j < 3 := fun {j x} hx => by
      have hj : j < 3 := by simpa using (List.getElem?_eq_some_iff.mp hx).1
      rw [List.getElem?_map, List.getElem?_range hj] at hx
      cases hx; exact ⟨rfl, hj⟩
    refine ⟨_, rfl, b, rfl, ⟨_, SqT.of (s5 _ _ gb)⟩, for_it walkT (fun i σ H' => ∃ h v4 v5 v6 v7, σ = [some (.ref a), some (.ref b), some (.ref h), some (.ref e), v4, v5, v6, v7] ∧ Same H4 H' ∧ ((p.take i).foldl stepK (ns.map fun x => .tup [.num x])).length = 3 ∧ NK H' (.tup ((p.take i).foldl stepK (ns.map fun x => .tup [.num x]))) (.ref h)) ⟨t0, none, none, none, none, rfl, Same.refl _, l0, ?_⟩ (fun i σ H' _ ⟨_, _, _, _, _, _, s, _⟩ => s _ _ (s5 _ _ gb)) ?_ ?_⟩
    · exact ⟨t0, vs1, rfl, s4 _ _ e2, NKs.mono (KeepT.of_same (s2.trans s4)) _ _ k2⟩
    · rintro i x σ H5' H5 hi ⟨h, v4, v5, v6, v7, rfl, s6, lcur, n6⟩ ⟨rfl, hx⟩
      obtain ⟨m, em, nm⟩ := hks.atK hx
      obtain ⟨c, ms, rfl, gc, hms⟩ := id nm
      obtain ⟨hm, hmk⟩ := hm3 m (List.mem_of_getElem? em)
      have lms := hms.len
      rw [List.take_add_one, em, List.foldl_append]
      generalize hcur : (p.take i).foldl stepK (ns.map fun x => .tup [.num x]) = cur at n6 lcur
      obtain ⟨h', cs, eh, gh, hcs⟩ := id n6
      cases eh
      refine ⟨_, rfl, e, rfl, ⟨_, SqL.of (s6 _ _ e4)⟩, fun D1 hD1 => lc_map walkL [] (by simp) (by simp) hD1 (fun H' k => k _ _ (s6 _ _ e4) (by simp)) (fun j H' acc => NKs H' ((stepK cur m).take j) acc) rfl (fun j x H6' H6 acc Kf hj k hacc hl hR hY hK => ?_) (fun H6 vs6 k6 e6 hl6 n6 => ?_)⟩
      · obtain ⟨rfl, hx⟩ := hY
        obtain ⟨rfl, hj3⟩ := hrl hx
        have s7 : Same H5 H6 := Keep.same k
        obtain ⟨mk, emk⟩ : ∃ mk, m[j]? = some mk := ⟨_, List.getElem?_eq_getElem (by omega)⟩
        obtain ⟨mv, emv, nmv⟩ := hms.at' emk
        refine ⟨rfl, _, rfl, e, rfl, ⟨_, SqL.of (s7 _ _ (s6 _ _ e4))⟩, fun D2 hD2 => lc_map walkL [] (by simp) (by simp) hD2 (fun H' k => k _ _ (s7 _ _ (s6 _ _ e4)) (by simp)) (fun o H' acc => NKs H' ((cur.mapIdx fun other v => if mk = .num other then .none else v).take o) acc) rfl (fun o x H8' H8 acc2 Kf2 ho k2' hacc2 hl2 hR2 hY2 hK2 => ?_) (fun H8 vs8 k8 e8 hl8 n8 => ?_)⟩
        · obtain ⟨rfl, hx⟩ := hY2
          obtain ⟨rfl, ho3⟩ := hrl hx
          have s8 : Same H6 H8 := Keep.same k2'
          obtain ⟨kz, ekz⟩ : ∃ kz, cur[o]? = some kz := ⟨_, List.getElem?_eq_getElem (by omega)⟩
          obtain ⟨z, hz, nkz⟩ := hcs.at' ekz
          have fin : ∀ y, NK H5 (if mk = .num o then .none else kz) y → Kf2 y H8 := fun y hy => hK2 _ _ (Keep.refl _ _) (by
            have k6 : KeepT H8 (upd H8 D2 (.lst (acc2 ++ [y]))) := keepT_upd fun xs e => by rw [hacc2] at e; cases e
            rw [List.take_add_one, List.getElem?_mapIdx, ekz]
            exact NKs.snoc (NKs.mono k6 _ _ hR2) (NK.mono (((KeepT.of_same s7).trans (KeepT.of_same s8)).trans k6) _ _ hy))
          refine ⟨rfl, _, rfl, _, rfl, c, ms, j, mv, rfl, rfl, s8 _ _ (s7 _ _ (s6 _ _ (s5 _ _ gc))), emv, _, rfl, ?_⟩
          have hmk' := hmk mk (List.mem_of_getElem? emk)
          rcases hmk' with rfl | ⟨w1, rfl⟩
          · obtain rfl : mv = .non := nmv
            refine ⟨rfl, _, rfl, ite_f rfl ?_⟩
            exact ⟨_, rfl, _, rfl, _, _, o, _, rfl, rfl, s8 _ _ (s7 _ _ gh), hz, fin _ (by rw [if_neg (by simp)]; exact nkz)⟩
          · obtain rfl : mv = .int w1 := nmv
            refine ⟨rfl, _, rfl, ?_⟩
            by_cases hw : w1 = (o : Int)
            · subst hw
              exact ite_t (by simp) (fin _ (by rw [if_pos rfl]; rfl))
            · refine ite_f (by simp; omega) ?_
              exact ⟨_, rfl, _, rfl, _, _, o, _, rfl, rfl, s8 _ _ (s7 _ _ gh), hz, fin _ (by rw [if_neg (by simpa using hw)]; exact nkz)⟩
        · have s8 : Same H6 H8 := Keep.same k8
          refine ⟨D2, _, rfl, e8, fun t2 H9 s9 e9 => hK _ _ (Keep.of_same (s8.trans s9)) ?_⟩
          have nd1 : D1 ≠ t2 := fun z => by rw [← z, s9 _ _ (s8 _ _ hacc)] at e9; cases e9
          have k6 : KeepT H9 (upd H9 D1 (.lst (acc ++ [.ref t2]))) := keepT_upd fun xs e => by rw [s9 _ _ (s8 _ _ hacc)] at e; cases e
          rw [List.take_add_one, show (stepK cur m)[j]? = some (.tup (cur.mapIdx fun other v => if mk = .num other then .none else v)) by unfold stepK; rw [List.getElem?_map, emk]; rfl]
          rw [List.take_of_length_le (by simp; omega)] at n8
          exact NKs.snoc (NKs.mono (((KeepT.of_same s8).trans (KeepT.of_same s9)).trans k6) _ _ hR) ⟨t2, _, rfl, by rw [upd_ne nd1.symm]; exact e9, NKs.mono ((KeepT.of_same s9).trans k6) _ _ n8⟩
      · have s7 : Same H5 H6 := Keep.same k6
        rw [List.take_of_length_le (by simp [stepK]; omega)] at n6
        refine ⟨D1, _, rfl, e6, fun t2 H7 s8 e8 => ⟨t2, _, _, _, _, rfl, (s6.trans s7).trans s8, ?_, t2, _, rfl, e8, NKs.mono (KeepT.of_same s8) _ _ n6⟩⟩
        show (stepK cur m).length = 3
        simp [stepK, hm]
    · rintro σ H5 ⟨h, v4, v5, v6, v7, rfl, s6, lcur, n6⟩
      rw [hlu, List.take_of_length_le (Nat.le_refl _)] at n6
      exact ⟨_, rfl, q _ _ (s5.trans s6) n6⟩

end
end S1

/-! LK: the law's patterns and runs -/
namespace S1
open PySem L2
def othersK (i : Nat) : List NestedKey := .none :: ((List.range 3).filter fun j => decide (j ≠ i)).map fun (j : Nat) => .num (j : Int)
def othersV (i : Nat) : List V := .non :: ((List.range 3).filter fun j => decide (j ≠ i)).map fun (j : Nat) => .int (j : Int)
def rowsUp : Nat → List (List NestedKey)
  | 0 => [[]]
  | i + 1 => (rowsUp i).flatMap fun row => (othersK i).map fun m => row ++ [m]
def patsUp : Nat → List Pat
  | 0 => [[]]
  | j + 1 => (patsUp j).flatMap fun p => (rowsUp 3).map fun r => p ++ [r]
theorem rowsUp_len {i : Nat} (h : i ≤ 3) : (rowsUp i).length ≤ 27 := by
  obtain rfl | rfl | rfl | rfl : i = 0 ∨ i = 1 ∨ i = 2 ∨ i = 3 := by omega
  all_goals decide
theorem rowsUp_row : ∀ {i : Nat}, ∀ r ∈ rowsUp i, r.length = i
  | 0, r, h => by simp [rowsUp] at h; simp [h]
  | i + 1, r, h => by
    simp only [rowsUp, List.mem_flatMap, List.mem_map] at h
    obtain ⟨row, hr, m, _, rfl⟩ := h
    simp [rowsUp_row row hr]
theorem patsUp_eq {r : Nat} (h : r ≤ 1) : patsUp r = (List.range (3 ^ (3 * r))).map (patL r) := by
  obtain rfl | rfl : r = 0 ∨ r = 1 := by omega
  · decide +kernel
  · decide +kernel
theorem patsUp_len {r : Nat} (h : r ≤ 1) : (patsUp r).length ≤ 27 := by
  rw [patsUp_eq h]
  obtain rfl | rfl : r = 0 ∨ r = 1 := by omega
  all_goals simp
theorem patsUp_row : ∀ {i : Nat}, ∀ r ∈ patsUp i, r.length = i
  | 0, r, h => by simp [patsUp] at h; simp [h]
  | i + 1, r, h => by
    simp only [patsUp, List.mem_flatMap, List.mem_map] at h
    obtain ⟨row, hr, m, _, rfl⟩ := h
    simp [patsUp_row row hr]
theorem othersNK {H : Hp} {i : Nat} : NKs H (othersK i) (othersV i) := by
  refine ⟨_, _, rfl, rfl, ?_⟩
  induction ((List.range 3).filter fun j => decide (j ≠ i)) with
  | nil => rfl
  | cons j js ih => exact ⟨_, _, rfl, rfl, ih⟩
theorem flat_take {α β : Type} {f : α → List β} {xs : List α} {j : Nat} {x : α} (h : xs[j]? = some x) : (xs.take (j + 1)).flatMap f = (xs.take j).flatMap f ++ f x := by
  rw [List.take_add_one, h]; simp
theorem flat_len {α β : Type} {f : α → List β} {c : Nat} (h : ∀ x, (f x).length ≤ c) : ∀ xs : List α, (xs.flatMap f).length ≤ xs.length * c
  | [] => by simp
  | x :: xs => by
    have := flat_len h xs
    have := h x
    rw [List.flatMap_cons, List.length_append, List.length_cons, Nat.succ_mul]; omega
theorem othersK_len (i : Nat) : (othersK i).length ≤ 4 := by
  unfold othersK
  rw [List.length_cons, List.length_map]
  have := List.length_filter_le (fun j => decide (j ≠ i)) (List.range 3)
  simp at this ⊢; omega
section
variable {P : Program} {w : World} {K : PySem.W.Frag} {mg : Str → Option Value} {base : Heap} {cT cR cS cA : Addr}
abbrev s__law_patterns : Stmt := top 56
def sp__law_patterns : Sp := fun vs H Q _ => ∃ r : Nat, vs = [.int 3, .int r] ∧ r ≤ 1 ∧ ∀ l vs H', Same H H' → H l = none → H' l = some (.lst vs) → NKs H' ((patsUp r).map patK) vs → Q (.ref l) H'
theorem ok__law_patterns {f : Addr} {fd : FuncData} (F : Fun K "_law_patterns" "_law_patterns" s__law_patterns f fd) (T : Txt K mg cT cR cS cA) : FnOk P w K mg base CX0 1 f fd ["_law_many", "_law_rounds"] sp__law_patterns := by
  have sc : FnScope ["_law_many", "_law_rounds", "_law_rows", "_law_found", "_law_me", "_law_longer", "_law_others", "_law_row", "_law_turn", "_law_pattern", "_law_other", "_law_missed"] ["_law_many", "_law_rounds"] (defScope s__law_patterns) := sc_by (by decide +kernel)
  refine F.ok sc (fun vs H Q E h => ?_) (fun cdv A outer s H vs Q E hr h => ?_)
  · obtain ⟨_, rfl, _⟩ := h; rfl
  · obtain ⟨r, rfl, hr1, q⟩ := h
    have hu := hu9 hr
    have hu65 := hu65 hr
    have hu1 := hu1_of hr
    refine ⟨_, (pss_cons (ps_par rfl sc.nd (i := 2) (j := 3) rfl rfl (by decide) rfl rfl (pa_cons (pe_lst (pa_cons (pe_tup pa_nil) pa_nil)) (pa_cons (pe_lst (pa_cons (pe_tup pa_nil) pa_nil)) pa_nil)) rfl)
      (pss_cons (ps_for PassesOwn.never rfl (pi_range1 (by rfl) T.range (pa_cons (pv 0) pa_nil)) (pg_name (i := 4) sc.nd rfl (Or.inr rfl) (Or.inl rfl))
        (pss_cons (ps_par rfl sc.nd (i := 5) (j := 6) rfl rfl (by decide) rfl rfl (pa_cons (pe_lst pa_nil) (pa_cons (pe_op op_cat (pe_lst (pa_cons pe_non pa_nil)) (pe_lc (own := [("_law_other", 10)]) rfl sc.nd (pi_range1 (by rfl) T.range (pa_cons (pv 0) pa_nil)) (blkOk_by (by kernel_rfl)) (fun _ _ _ _ _ => (pg_name (i := 10) sc.nd rfl (Or.inl rfl) (Or.inr rfl))) (fun _ _ _ _ _ => pts_one (pt_cmpR op_ne (pv 10) (pv 4) (nomark _))) (fun _ _ _ _ _ => (pv 10)))) pa_nil)) rfl)
          (pss_cons (ps_for PassesOwn.never rfl (pi_list (pv 2)) (pg_name (i := 7) sc.nd rfl (Or.inr rfl) (Or.inl rfl))
            (pss_one (ps_expr (pe_bm PySem.F.plainAttrs_list PySem.F.slot_list_extend PySem.F.type_list_extend mt_extend (pv 5) (pa_cons (pe_lc (own := [("_law_missed", 11)]) rfl sc.nd (pi_list (pv 6)) (blkOk_by (by kernel_rfl)) (fun _ _ _ _ _ => (pg_name (i := 11) sc.nd rfl (Or.inl rfl) (Or.inr rfl))) (fun _ _ _ _ _ => pts_nil) (fun _ _ _ _ _ => (pe_op op_catI (pv 7) (pe_tup (pa_cons (pv 11) pa_nil))))) pa_nil)))))
          (pss_one (ps_set (i := 2) sc.nd rfl (Or.inl rfl) (pv 5))))))
      (pss_cons (ps_for PassesOwn.never rfl (pi_range1 (by rfl) T.range (pa_cons (pv 1) pa_nil)) (pg_name (i := 8) sc.nd rfl (Or.inl rfl) (Or.inl rfl))
        (pss_cons (ps_set (i := 5) sc.nd rfl (Or.inl rfl) (pe_lst pa_nil))
          (pss_cons (ps_for PassesOwn.never rfl (pi_list (pv 3)) (pg_name (i := 9) sc.nd rfl (Or.inr rfl) (Or.inl rfl))
            (pss_one (ps_expr (pe_bm PySem.F.plainAttrs_list PySem.F.slot_list_extend PySem.F.type_list_extend mt_extend (pv 5) (pa_cons (pe_lc (own := [("_law_row", 7)]) rfl sc.nd (pi_list (pv 2)) (blkOk_by (by kernel_rfl)) (fun _ _ _ _ _ => (pg_name (i := 7) sc.nd rfl (Or.inl rfl) (Or.inr rfl))) (fun _ _ _ _ _ => pts_nil) (fun _ _ _ _ _ => (pe_op op_catI (pv 9) (pe_tup (pa_cons (pv 7) pa_nil))))) pa_nil)))))
          (pss_one (ps_set (i := 3) sc.nd rfl (Or.inl rfl) (pv 5))))))
      (pss_one (ps_ret (pv 3)))))), ?_⟩
    refine ⟨Nat.zero_le _, fun t1 ht1 => ⟨by show 1 ≤ sizeLine; decide, fun l1 hl1 => ⟨Nat.zero_le _, fun t2 ht2 => ⟨by show 1 ≤ sizeLine; decide, fun l2 hl2 => ⟨_, _, rfl, ?_⟩⟩⟩⟩⟩
    have a1 : Same H (upd H t1 (.tup [])) := same_upd _ ht1
    have a2 := a1.trans (same_upd (.lst [.ref t1]) hl1)
    have a3 := a2.trans (same_upd (.tup []) ht2)
    have s1 := a3.trans (same_upd (.lst [.ref t2]) hl2)
    have z2 : H l2 = none := a3.free hl2
    have b1 : upd (upd (upd (upd H t1 (.tup [])) l1 (.lst [.ref t1])) t2 (.tup [])) l2 (.lst [.ref t2]) t1 = some (.tup []) := same_upd _ hl2 _ _ (same_upd _ ht2 _ _ (same_upd _ hl1 _ _ upd_same))
    have b2 : upd (upd (upd (upd H t1 (.tup [])) l1 (.lst [.ref t1])) t2 (.tup [])) l2 (.lst [.ref t2]) l1 = some (.lst [.ref t1]) := same_upd _ hl2 _ _ (same_upd _ ht2 _ _ upd_same)
    have b3 : upd (upd (upd (upd H t1 (.tup [])) l1 (.lst [.ref t1])) t2 (.tup [])) l2 (.lst [.ref t2]) t2 = some (.tup []) := same_upd _ hl2 _ _ upd_same
    have b4 : upd (upd (upd (upd H t1 (.tup [])) l1 (.lst [.ref t1])) t2 (.tup [])) l2 (.lst [.ref t2]) l2 = some (.lst [.ref t2]) := upd_same
    generalize upd (upd (upd (upd H t1 (.tup [])) l1 (.lst [.ref t1])) t2 (.tup [])) l2 (.lst [.ref t2]) = H1 at s1 b1 b2 b3 b4
    clear a1 a2 a3 hl1 ht2 hl2
    refine ⟨_, rfl, 3, rfl, by decide, by decide, for_it (walkR (n := 3)) (fun i σ H' => ∃ l vs v4 v5 v6 v7 v8 v9 v10 v11, σ = [some (.int 3), some (.int r), some (.ref l), some (.ref l2), v4, v5, v6, v7, v8, v9, v10, v11] ∧ Same H1 H' ∧ H' l = some (.lst vs) ∧ NKs H' ((rowsUp i).map .tup) vs) ⟨l1, [.ref t1], none, none, none, none, none, none, none, none, rfl, Same.refl _, b2, _, _, rfl, ⟨t1, [], rfl, b1, rfl⟩, rfl⟩ (fun _ _ _ _ _ => trivial) ?_ ?_⟩
    · rintro i x σ H2' H2 hi ⟨l, vs, v4, v5, v6, v7, v8, v9, v10, v11, rfl, s2, e2, n2⟩ ⟨rfl, rfl⟩
      refine ⟨Nat.zero_le _, fun g hg => ⟨by show 1 ≤ sizeLine; decide, fun n1 hn1 => ?_⟩⟩
      have sg : Same H2 (upd H2 g (.lst [])) := same_upd _ hg
      have sn := sg.trans (same_upd (.lst [.non]) hn1)
      refine ⟨_, rfl, 3, rfl, by decide, by decide, fun D hD => lc_keep (walkR (n := 3)) [] (by simp) (by decide) hD (fun _ _ => trivial) (fun j H' acc => acc = ((List.range j).filter fun j => decide (j ≠ i)).map fun (j : Nat) => V.int (j : Int)) rfl (fun j x H3' H3 acc Kf Nx hj k hacc hl hR hY hK hN => ?_) (fun H3 acc k3 hacc hl hR => ?_)⟩
      · obtain ⟨rfl, rfl⟩ := hY
        refine ⟨rfl, _, rfl, _, rfl, ?_⟩
        have el : (List.range (j + 1)).filter (fun j => decide (j ≠ i)) = (List.range j).filter (fun j => decide (j ≠ i)) ++ if j ≠ i then [j] else [] := by
          rw [List.range_succ, List.filter_append]
          by_cases c : j = i <;> simp [c]
        rw [el] at hK hN
        refine ⟨rfl, _, rfl, ?_⟩
        by_cases c : j = i
        · subst c
          exact ite_f (by simp) (hN _ (Keep.refl _ _) (by rw [hR]; simp))
        · exact ite_t (by simp; omega) ⟨_, rfl, hK _ _ (Keep.refl _ _) (by rw [hR]; simp [c])⟩
      have s3 : Same H2 H3 := sn.trans (Keep.same k3)
      have g3 : H3 g = some (.lst []) := Keep.same k3 _ _ (same_upd _ hn1 _ _ upd_same)
      have n3 : H3 n1 = some (.lst [.non]) := Keep.same k3 _ _ upd_same
      refine ⟨n1, D, _, _, rfl, rfl, n3, hacc, ?_, fun o ho => ⟨_, _, rfl, ?_⟩⟩
      · rw [sizeLine_eq]; simp; omega
      have eo : [V.non] ++ acc = othersV i := by rw [hR]; rfl
      rw [eo]
      have s4 := s3.trans (same_upd (.lst (othersV i)) ho)
      have g4 : upd H3 o (.lst (othersV i)) g = some (.lst []) := same_upd _ ho _ _ g3
      have o4 : upd H3 o (.lst (othersV i)) o = some (.lst (othersV i)) := upd_same
      have nog : o ≠ g := fun z => by rw [z, g3] at ho; cases ho
      generalize upd H3 o (.lst (othersV i)) = H4 at s4 g4 o4
      have nlg : l ≠ g := fun z => by rw [z, hg] at e2; cases e2
      have vlen : vs.length ≤ 27 := by rw [n2.lenK]; exact rowsUp_len (by omega)
      have olen : (othersV i).length ≤ 4 := by rw [(othersNK (H := H) (i := i)).len]; exact othersK_len i
      refine ⟨_, rfl, l, rfl, ⟨_, SqL.of (s4 _ _ e2)⟩, for_it walkL (fun j σ H' => ∃ v7 v8 v9 v10 v11 ws, σ = [some (.int 3), some (.int r), some (.ref l), some (.ref l2), some (.int i), some (.ref g), some (.ref o), v7, v8, v9, v10, v11] ∧ Keep [g] H4 H' ∧ H' g = some (.lst ws) ∧ NKs H' ((((rowsUp i).take j).flatMap fun row => (othersK i).map fun m => row ++ [m]).map .tup) ws) ⟨_, _, _, _, _, [], rfl, Keep.refl _ _, g4, rfl⟩ (fun j σ H' _ ⟨_, _, _, _, _, _, _, k, _⟩ => k _ _ (s4 _ _ e2) (by simp [nlg])) ?_ ?_⟩
      · rintro j x σ H5' H5 hj ⟨v7, v8, v9, v10, v11, ws, rfl, k5, g5, n5⟩ ⟨rfl, hx⟩
        obtain ⟨row, er, nr⟩ := n2.atK hx
        obtain ⟨c, cs, rfl, gc, hcs⟩ := id nr
        have kT : KeepT H4 H5 := k5.keepT fun b hb ys e => by rw [List.mem_singleton.mp hb, g4] at e; cases e
        have hcs5 := NKs.mono ((KeepT.of_same s4).trans kT) _ _ hcs
        have gc5 := kT _ _ (s4 _ _ gc)
        have o5 := k5 _ _ o4 (by simp [nog])
        have crow : cs.length ≤ 3 := by rw [hcs.len, rowsUp_row row (List.mem_of_getElem? er)]; omega
        have wsl : ws.length ≤ 108 := by
          rw [n5.lenK]
          refine Nat.le_trans (flat_len (c := 4) (fun row => by rw [List.length_map]; exact othersK_len i) _) ?_
          rw [List.length_take]
          have := rowsUp_len (i := i) (by omega)
          omega
        refine ⟨_, rfl, .inl ⟨rfl, _, SqL.of g5⟩, _, rfl, o, rfl, ⟨_, SqL.of o5⟩, fun D2 hD2 => lc_map walkL [] (by simp) (by omega) hD2 (fun H' k => k _ _ o5 (by simp)) (fun k H' acc => NKs H' (((othersK i).take k).map fun m => .tup (row ++ [m])) acc) rfl (fun k x H6' H6 acc2 Kf hk k6 hacc2 hl2 hR2 hY2 hK2 => ?_) (fun H6 acc2 k6 hacc2 hl2 hR2 => ?_)⟩
        · obtain ⟨rfl, hx2⟩ := hY2
          obtain ⟨m, em, nm⟩ := (othersNK (H := H6) (i := i)).at hx2
          have nm' : ∀ H', NK H' m x := fun H' => by
            obtain ⟨m', em', nm'⟩ := (othersNK (H := H') (i := i)).at hx2
            rw [em] at em'; cases em'; exact nm'
          have s6 : Same H5 H6 := Keep.same k6
          refine ⟨rfl, _, rfl, _, rfl, by show 1 ≤ sizeLine; decide, fun q1 hq1 => ?_⟩
          have s7 : Same H6 (upd H6 q1 (.tup [x])) := same_upd _ hq1
          have hc7 := s7 _ _ (s6 _ _ gc5)
          refine ⟨c, q1, _, _, rfl, rfl, hc7, upd_same, by rw [sizeLine_eq]; simp; omega, fun p2 H8 s8 e8 => hK2 _ _ (Keep.of_same (s7.trans s8)) ?_⟩
          have np2 : D2 ≠ p2 := fun z => by rw [← z, s8 _ _ (s7 _ _ hacc2)] at e8; cases e8
          have k9 : KeepT H8 (upd H8 D2 (.lst (acc2 ++ [.ref p2]))) := keepT_upd fun xs e => by rw [s8 _ _ (s7 _ _ hacc2)] at e; cases e
          rw [List.take_add_one, em, List.map_append]
          exact NKs.snoc (NKs.mono (((KeepT.of_same s7).trans (KeepT.of_same s8)).trans k9) _ _ hR2) ⟨p2, _, rfl, by rw [upd_ne np2.symm]; exact e8, NKs.snoc (NKs.mono (((KeepT.of_same s6).trans (KeepT.of_same (s7.trans s8))).trans k9) _ _ hcs5) (nm' _)⟩
        · have s6 : Same H5 H6 := Keep.same k6
          rw [List.take_of_length_le (by rw [(othersNK (H := H) (i := i)).len]; exact Nat.le_refl _)] at hR2
          have k9 : KeepT H6 (upd H6 g (.lst (ws ++ acc2))) := keepT_upd fun xs e => by rw [s6 _ _ g5] at e; cases e
          refine ⟨g, D2, _, _, rfl, rfl, s6 _ _ g5, hacc2, by rw [sizeLine_eq]; omega, _, _, _, _, _, ws ++ acc2, rfl, fun b u e n => ?_, upd_same, ?_⟩
          · rw [upd_ne (by simpa using n)]; exact s6 _ _ (k5 _ _ e n)
          · rw [flat_take er, List.map_append, List.map_map]
            exact NKs.app (NKs.mono ((KeepT.of_same s6).trans k9) _ _ n5) (NKs.mono k9 _ _ hR2)
      · rintro σ H5 ⟨v7, v8, v9, v10, v11, ws, rfl, k5, g5, n5⟩
        rw [n2.lenK, List.take_of_length_le (by simp)] at n5
        refine ⟨_, rfl, g, ws, _, _, _, _, _, _, _, _, rfl, fun b u e => k5 _ _ (s4 _ _ (s2 _ _ e)) ?_, g5, n5⟩
        rw [List.mem_singleton]
        exact ne_of_none (s2 _ _ e) hg
    · rintro σ H2 ⟨l, vs, v4, v5, v6, v7, v8, v9, v10, v11, rfl, s2, e2, n2⟩
      have vlen : vs.length ≤ 27 := by rw [n2.lenK]; exact rowsUp_len (by omega)
      refine ⟨_, rfl, _, rfl, by omega, by omega, for_it (n := r) walkR (fun i σ H' => ∃ f fs v4 v5 v6 v7 v8 v9 v10 v11, σ = [some (.int 3), some (.int r), some (.ref l), some (.ref f), v4, v5, v6, v7, v8, v9, v10, v11] ∧ Same H2 H' ∧ H f = none ∧ H' f = some (.lst fs) ∧ NKs H' ((patsUp i).map patK) fs) ⟨l2, [.ref t2], v4, v5, v6, v7, v8, v9, v10, v11, rfl, Same.refl _, z2, s2 _ _ b4, _, _, rfl, ⟨t2, [], rfl, s2 _ _ b3, rfl⟩, rfl⟩ (fun _ _ _ _ _ => trivial) ?_ ?_⟩
      · rintro i x σ H3' H3 hi ⟨f, fs, v4, v5, v6, v7, v8, v9, v10, v11, rfl, s3, zf, e3, n3⟩ ⟨rfl, rfl⟩
        refine ⟨Nat.zero_le _, fun g hg => ?_⟩
        have s4 : Same H3 (upd H3 g (.lst [])) := same_upd _ hg
        have g4 : upd H3 g (.lst []) g = some (.lst []) := upd_same
        have zg : H g = none := ((s1.trans s2).trans s3).free hg
        have nfg : f ≠ g := fun z => by rw [z, hg] at e3; cases e3
        have nlg : l ≠ g := fun z => by rw [z] at e2; rw [s3 _ _ e2] at hg; cases hg
        generalize upd H3 g (.lst []) = H4 at s4 g4
        have flen : fs.length ≤ 27 := by rw [n3.lenK]; exact patsUp_len (by omega)
        refine ⟨_, rfl, f, rfl, ⟨_, SqL.of (s4 _ _ e3)⟩, for_it walkL (fun j σ H' => ∃ v6 v7 v9 v10 v11 ws, σ = [some (.int 3), some (.int r), some (.ref l), some (.ref f), v4, some (.ref g), v6, v7, some (.int i), v9, v10, v11] ∧ Keep [g] H4 H' ∧ H' g = some (.lst ws) ∧ NKs H' ((((patsUp i).take j).flatMap fun p => (rowsUp 3).map fun r => p ++ [r]).map patK) ws) ⟨_, _, _, _, _, [], rfl, Keep.refl _ _, g4, rfl⟩ (fun j σ H' _ ⟨_, _, _, _, _, _, _, k, _⟩ => k _ _ (s4 _ _ e3) (by simp [nfg])) ?_ ?_⟩
        · rintro j x σ H5' H5 hj ⟨v6, v7, v9, v10, v11, ws, rfl, k5, g5, n5⟩ ⟨rfl, hx⟩
          obtain ⟨pat, er, nr⟩ := n3.atK hx
          obtain ⟨c, cs, rfl, gc, hcs⟩ := id nr
          have kT : KeepT H4 H5 := k5.keepT fun b hb ys e => by rw [List.mem_singleton.mp hb, g4] at e; cases e
          have hcs5 := NKs.mono ((KeepT.of_same s4).trans kT) _ _ hcs
          have gc5 := kT _ _ (s4 _ _ gc)
          have l5 := k5 _ _ (s4 _ _ (s3 _ _ e2)) (by simp [nlg])
          have n25 := NKs.mono (((KeepT.of_same s3).trans (KeepT.of_same s4)).trans kT) _ _ n2
          have crow : cs.length ≤ 3 := by rw [hcs.len, List.length_map, patsUp_row pat (List.mem_of_getElem? er)]; omega
          have wsl : ws.length ≤ 729 := by
            rw [n5.lenK]
            refine Nat.le_trans (flat_len (c := 27) (fun row => by rw [List.length_map]; exact rowsUp_len (by omega)) _) ?_
            rw [List.length_take]
            have := patsUp_len (r := i) (by omega)
            omega
          refine ⟨_, rfl, .inl ⟨rfl, _, SqL.of g5⟩, _, rfl, l, rfl, ⟨_, SqL.of l5⟩, fun D2 hD2 => lc_map walkL [] (by simp) (by omega) hD2 (fun H' k => k _ _ l5 (by simp)) (fun k H' acc => NKs H' (((rowsUp 3).take k).map fun m => patK (pat ++ [m])) acc) rfl (fun k x H6' H6 acc2 Kf hk k6 hacc2 hl2 hR2 hY2 hK2 => ?_) (fun H6 acc2 k6 hacc2 hl2 hR2 => ?_)⟩
          · obtain ⟨rfl, hx2⟩ := hY2
            obtain ⟨m, em, nm⟩ := n25.atK hx2
            have s6 : Same H5 H6 := Keep.same k6
            refine ⟨rfl, _, rfl, _, rfl, by show 1 ≤ sizeLine; decide, fun q1 hq1 => ?_⟩
            have s7 : Same H6 (upd H6 q1 (.tup [x])) := same_upd _ hq1
            have hc7 := s7 _ _ (s6 _ _ gc5)
            refine ⟨c, q1, _, _, rfl, rfl, hc7, upd_same, by rw [sizeLine_eq]; simp; omega, fun p2 H8 s8 e8 => hK2 _ _ (Keep.of_same (s7.trans s8)) ?_⟩
            have np2 : D2 ≠ p2 := fun z => by rw [← z, s8 _ _ (s7 _ _ hacc2)] at e8; cases e8
            have k9 : KeepT H8 (upd H8 D2 (.lst (acc2 ++ [.ref p2]))) := keepT_upd fun xs e => by rw [s8 _ _ (s7 _ _ hacc2)] at e; cases e
            have k59 := ((KeepT.of_same s6).trans (KeepT.of_same (s7.trans s8))).trans k9
            rw [List.take_add_one, em, List.map_append]
            refine NKs.snoc (NKs.mono (((KeepT.of_same s7).trans (KeepT.of_same s8)).trans k9) _ _ hR2) ⟨p2, _, rfl, by rw [upd_ne np2.symm]; exact e8, ?_⟩
            rw [List.map_append]
            exact NKs.snoc (NKs.mono k59 _ _ hcs5) (NK.mono k59 _ _ nm)
          · have s6 : Same H5 H6 := Keep.same k6
            rw [List.take_of_length_le (by rw [n2.lenK]; exact Nat.le_refl _)] at hR2
            have k9 : KeepT H6 (upd H6 g (.lst (ws ++ acc2))) := keepT_upd fun xs e => by rw [s6 _ _ g5] at e; cases e
            refine ⟨g, D2, _, _, rfl, rfl, s6 _ _ g5, hacc2, by rw [sizeLine_eq]; omega, _, _, _, _, _, ws ++ acc2, rfl, fun b u e n => ?_, upd_same, ?_⟩
            · rw [upd_ne (by simpa using n)]; exact s6 _ _ (k5 _ _ e n)
            · rw [flat_take er, List.map_append, List.map_map]
              exact NKs.app (NKs.mono ((KeepT.of_same s6).trans k9) _ _ n5) (NKs.mono k9 _ _ hR2)
        · rintro σ H5 ⟨v6, v7, v9, v10, v11, ws, rfl, k5, g5, n5⟩
          rw [n3.lenK, List.take_of_length_le (by simp)] at n5
          refine ⟨_, rfl, g, ws, _, _, _, _, _, _, _, _, rfl, fun b u e => k5 _ _ (s4 _ _ (s3 _ _ e)) ?_, zg, g5, n5⟩
          rw [List.mem_singleton]
          exact ne_of_none (s3 _ _ e) hg
      · rintro σ H3 ⟨f, fs, v4, v5, v6, v7, v8, v9, v10, v11, rfl, s3, zf, e3, n3⟩
        exact ⟨_, rfl, q f fs H3 ((s1.trans s2).trans s3) zf e3 n3⟩

end
end S1

/-! LL: the law's own search, plainly -/
namespace S1
open PySem L2
section
variable {L : Lots} {r : Nat}
/-- an integer for each pair, so that each run's row is let -/
def SolK (L : Lots) (r : Nat) (f : NestedKey → Int) : Prop := ∀ u ∈ runsL L r, (prsR L u).map f ∈ lotAt L u.1
theorem sol_K {T : Nat → Int} (h : Sol L r T) : SolK L r fun k => T ((pairsL L r).idxOf k) := by
  intro u hu
  obtain ⟨i, ei⟩ := List.mem_iff_getElem?.mp hu
  have := h i (List.getElem?_eq_some_iff.mp ei).1
  rw [ixAt_of ei, runAt_of ei] at this
  unfold ixOf at this
  rw [List.map_map] at this
  exact this
theorem K_sol {f : NestedKey → Int} (h : SolK L r f) : ∃ T, Sol L r T := by
  refine ⟨fun q => f ((pairsL L r).getD q .none), fun i hi => ?_⟩
  obtain ⟨u, eu, hu⟩ := run_at hi
  rw [ixAt_of eu, runAt_of eu]
  have e : (ixOf L r u).map (fun q => f ((pairsL L r).getD q .none)) = (prsR L u).map f := by
    unfold ixOf
    rw [List.map_map]
    refine List.map_congr_left fun k hk => ?_
    show f ((pairsL L r).getD ((pairsL L r).idxOf k) .none) = f k
    rw [List.getD_eq_getElem?_getD, idxOf_get (prsR_sub hu k hk)]; rfl
  rw [e]; exact h u hu
/-- some let row has what is told of a run's views -/
def fitB (L : Lots) (ks : List NestedKey) (f : NestedKey → Int) (u : Run) : Bool :=
  (lotAt L u.1).any fun row => (List.range row.length).all fun m => decide ((if (prsR L u).getD m .none ∈ ks then f ((prsR L u).getD m .none) else row.getD m 0) = row.getD m 0)
theorem fit_iff {ks : List NestedKey} {f : NestedKey → Int} {u : Run} : fitB L ks f u = true ↔ ∃ row ∈ lotAt L u.1, ∀ m, m < row.length → (prsR L u).getD m .none ∈ ks → f ((prsR L u).getD m .none) = row.getD m 0 := by
  unfold fitB
  rw [List.any_eq_true]
  constructor
  · rintro ⟨row, hr, h⟩
    refine ⟨row, hr, fun m hm hk => ?_⟩
    have := List.all_eq_true.mp h m (List.mem_range.mpr hm)
    rw [if_pos hk] at this
    simpa using this
  · rintro ⟨row, hr, h⟩
    refine ⟨row, hr, List.all_eq_true.mpr fun m hm => ?_⟩
    by_cases hk : (prsR L u).getD m .none ∈ ks
    · rw [if_pos hk]; simpa using h m (List.mem_range.mp hm) hk
    · rw [if_neg hk]; simp
theorem lot_at {u : Run} (hu : u ∈ runsL L r) : lotAt L u.1 ∈ L.map (·.2) ∧ u.1 < L.length := by
  have hat := (runsL_at hu).1
  have e : lotAt L u.1 = L[u.1].2 := by unfold lotAt; rw [List.getD_eq_getElem?_getD, List.getElem?_eq_getElem hat]; rfl
  exact ⟨by rw [e]; exact List.mem_map.mpr ⟨_, List.getElem_mem hat, rfl⟩, hat⟩
theorem lot_ok (hL : LotsOk L) {u : Run} (hu : u ∈ runsL L r) : LotOk (lotAt L u.1) := by
  obtain ⟨p, hp, e⟩ := List.mem_map.mp (lot_at hu).1
  rw [← e]; exact hL.lots p hp
/-- what is told of the first i pairs has been looked at -/
def ToldOk (L : Lots) (r i : Nat) (f : NestedKey → Int) : Prop := ∀ u ∈ runsL L r, (∃ k ∈ prsR L u, k ∈ (pairsL L r).take i) → fitB L ((pairsL L r).take i) f u = true
theorem told0 (f : NestedKey → Int) : ToldOk L r 0 f := fun u _ ⟨k, _, h⟩ => by simp at h
def putF' (f : NestedKey → Int) (k : NestedKey) (v : Int) : NestedKey → Int := fun j => if j = k then v else f j
theorem told_end (hL : LotsOk L) {i : Nat} {f : NestedKey → Int} (h : ToldOk L r i f) (hi : nP L r ≤ i) : SolK L r f := by
  have e : (pairsL L r).take i = pairsL L r := List.take_of_length_le hi
  intro u hu
  have h3 := prsR_len3 hL hu
  have hs := prsR_sub hu
  have hf := h u hu (by
    obtain ⟨k, hk⟩ : ∃ k, k ∈ prsR L u := ⟨(prsR L u)[0], List.getElem_mem _⟩
    exact ⟨k, hk, by rw [e]; exact hs k hk⟩)
  rw [e] at hf
  obtain ⟨row, hrow, hm⟩ := fit_iff.mp hf
  have hr3 := ((lot_ok hL hu).rows row hrow).1
  have : (prsR L u).map f = row := by
    refine List.ext_getElem (by rw [List.length_map, h3, hr3]) fun m h1 h2 => ?_
    rw [List.getElem_map]
    have hml : m < (prsR L u).length := by simpa using h1
    have := hm m h2
    rw [List.getD_eq_getElem?_getD, List.getElem?_eq_getElem hml, List.getD_eq_getElem?_getD, List.getElem?_eq_getElem h2] at this
    exact this (hs _ (List.getElem_mem hml))
  rw [this]; exact hrow
theorem told_step {i : Nat} {f : NestedKey → Int} {k : NestedKey} {v : Int} (h : ToldOk L r i f) (hk : (pairsL L r)[i]? = some k) (hf : ∀ u ∈ runsL L r, k ∈ prsR L u → fitB L ((pairsL L r).take (i + 1)) (putF' f k v) u = true) : ToldOk L r (i + 1) (putF' f k v) := by
  intro u hu ⟨j, hj, hjt⟩
  by_cases hku : k ∈ prsR L u
  · exact hf u hu hku
  · have et : (pairsL L r).take (i + 1) = (pairsL L r).take i ++ [k] := by rw [List.take_add_one, hk]; rfl
    have hne : ∀ x ∈ prsR L u, x ≠ k := fun x hx z => hku (z ▸ hx)
    have hj' : j ∈ (pairsL L r).take i := by
      rw [et] at hjt
      rcases List.mem_append.mp hjt with z | z
      · exact z
      · exact absurd (List.mem_singleton.mp z) (hne j hj)
    obtain ⟨row, hrow, hm⟩ := fit_iff.mp (h u hu ⟨j, hj, hj'⟩)
    refine fit_iff.mpr ⟨row, hrow, fun m hml hx => ?_⟩
    by_cases hmu : m < (prsR L u).length
    · have hx2 : (prsR L u).getD m .none ∈ prsR L u := by rw [List.getD_eq_getElem?_getD, List.getElem?_eq_getElem hmu]; exact List.getElem_mem hmu
      have n := hne _ hx2
      unfold putF'
      rw [if_neg n]
      refine hm m hml ?_
      rw [et] at hx
      rcases List.mem_append.mp hx with z | z
      · exact z
      · exact absurd (List.mem_singleton.mp z) n
    · have e0 : (prsR L u).getD m .none = .none := by rw [List.getD_eq_getElem?_getD, List.getElem?_eq_none (by omega)]; rfl
      rw [e0] at hx ⊢
      unfold putF'
      by_cases n : NestedKey.none = k
      · have hpk : k ∈ pairsL L r := List.mem_of_getElem? hk
        obtain ⟨u2, _, hk2⟩ := ksOf_mem.mp hpk
        rw [← n] at hk2
        simp [prsR, pairsOf] at hk2
      · rw [if_neg n]
        rw [et] at hx
        have := hm m hml
        rw [e0] at this
        refine this ?_
        rcases List.mem_append.mp hx with z | z
        · exact z
        · exact absurd (List.mem_singleton.mp z) n
/-- what a solution says of what is told fits -/
theorem sol_fits (hL : LotsOk L) {ks : List NestedKey} {f g : NestedKey → Int} (hg : SolK L r g) (he : ∀ k ∈ ks, f k = g k) {u : Run} (hu : u ∈ runsL L r) : fitB L ks f u = true := by
  refine fit_iff.mpr ⟨_, hg u hu, fun m hm hk => ?_⟩
  rw [List.length_map] at hm
  rw [he _ hk, List.getD_eq_getElem?_getD (l := (prsR L u).map g), List.getElem?_map, List.getD_eq_getElem?_getD, List.getElem?_eq_getElem hm]
  rfl
/-- the runs that have a pair -/
def hasL (L : Lots) (r : Nat) (k : NestedKey) : List Run := (runsL L r).filter fun u => decide (k ∈ prsR L u)
theorem hasL_mem {k : NestedKey} {u : Run} : u ∈ hasL L r k ↔ u ∈ runsL L r ∧ k ∈ prsR L u := by unfold hasL; rw [List.mem_filter]; simp
theorem hasL_cons {k : NestedKey} (h : k ∈ pairsL L r) : ∃ u us, hasL L r k = u :: us ∧ u ∈ runsL L r ∧ k ∈ prsR L u := by
  obtain ⟨u0, h1, h2⟩ := ksOf_mem.mp h
  have hm : u0 ∈ hasL L r k := hasL_mem.mpr ⟨h1, h2⟩
  cases e : hasL L r k with
  | nil => rw [e] at hm; cases hm
  | cons u us =>
    have := hasL_mem.mp (show u ∈ hasL L r k by rw [e]; simp)
    exact ⟨u, us, rfl, this.1, this.2⟩
theorem hasL_len (hL : LotsOk L) (hr : r ≤ 1) (k : NestedKey) : (hasL L r k).length ≤ 108 := Nat.le_trans (List.length_filter_le _ _) (mR_le hL hr)
/-- a pair: its machine and its view -/
theorem pair_form (hL : LotsOk L) {u : Run} (hu : u ∈ runsL L r) {k : NestedKey} (hk : k ∈ prsR L u) : ∃ (m : Nat) (v : NestedKey), k = NestedKey.tup [NestedKey.num (m : Int), v] ∧ m < 3 ∧ (prsR L u)[m]? = some k := by
  have h3 := prsR_len3 hL hu
  obtain ⟨m, em⟩ := List.mem_iff_getElem?.mp hk
  have hm : m < 3 := by rw [← h3]; exact (List.getElem?_eq_some_iff.mp em).1
  have em' := em
  simp only [prsR, pairsOf, List.getElem?_mapIdx] at em'
  obtain ⟨v, _, rfl⟩ := Option.map_eq_some_iff.mp em'
  exact ⟨m, v, rfl, hm, em⟩
end
end S1

/-! LM: the law's runs, by pair -/
namespace S1
open PySem L2
def runK (L : Lots) (u : Run) : NestedKey := .tup [rowK (insAt L u.1), patK u.2, .tup (prsR L u), lotK (lotAt L u.1)]
def eRun (L : Lots) (u : Run) (v : V) : List (NestedKey × V) := (prsR L u).map fun k => (k, v)
def eRuns (L : Lots) (zs : List (Run × V)) : List (NestedKey × V) := zs.flatMap fun p => eRun L p.1 p.2
theorem eRuns_keys (L : Lots) : ∀ (us : List Run) (vs : List V), vs.length = us.length → gkeys (eRuns L (us.zip vs)) = ksOf L us := by
  have aux : ∀ (us : List Run) (vs : List V) (ks : List NestedKey), vs.length = us.length → ((eRuns L (us.zip vs)).map (·.1)).foldl addKey ks = us.foldl (fun ks u => numKs ks (prsR L u)) ks := by
    intro us
    induction us with
    | nil => intro vs ks _; simp [eRuns]
    | cons u us ih =>
      intro vs ks h
      cases vs with
      | nil => simp at h
      | cons v vs =>
        have e : (eRuns L ((u :: us).zip (v :: vs))).map (·.1) = prsR L u ++ (eRuns L (us.zip vs)).map (·.1) := by
          simp [eRuns, eRun, Function.comp_def]
        rw [e, List.foldl_append, ih vs _ (by simpa using h)]
        rfl
  exact fun us vs h => aux us vs [] h
theorem filter_one {k : NestedKey} {v : V} : ∀ {ks : List NestedKey}, ks.Nodup → ((ks.map fun k => (k, v)).filter fun e => decide (e.1 = k)).map (·.2) = if k ∈ ks then [v] else []
  | [], _ => by simp
  | j :: ks, h => by
    rw [List.nodup_cons] at h
    have ih := filter_one (k := k) (v := v) h.2
    rw [List.map_cons, List.filter_cons]
    by_cases e : j = k
    · subst e
      rw [if_neg h.1] at ih
      simp [ih]
    · have e' : ¬ k = j := fun z => e z.symm
      simp only [e, decide_false, Bool.false_eq_true, if_false]
      rw [ih]
      simp [e']
theorem eRun_one (L : Lots) (u : Run) (v : V) (k : NestedKey) : glist (eRun L u v) k = if k ∈ prsR L u then [v] else [] := filter_one (prsR_nodup L u)
theorem eRuns_at {H : Hp} (L : Lots) (k : NestedKey) : ∀ (us : List Run) (vs : List V), NKs H (us.map (runK L)) vs → NKs H ((us.filter fun u => decide (k ∈ prsR L u)).map (runK L)) (glist (eRuns L (us.zip vs)) k)
  | [], vs, h => by
    obtain rfl : vs = [] := h
    exact rfl
  | u :: us, vs, h => by
    obtain ⟨v, vs', rfl, h1, h2⟩ := h
    have ih := eRuns_at L k us vs' h2
    have e : glist (eRuns L ((u :: us).zip (v :: vs'))) k = glist (eRun L u v) k ++ glist (eRuns L (us.zip vs')) k := by
      simp [eRuns, glist]
    rw [e, eRun_one, List.filter_cons]
    by_cases c : k ∈ prsR L u
    · simp only [c, decide_true, if_true]
      exact ⟨v, _, rfl, h1, ih⟩
    · simp only [c, decide_false, if_false, Bool.false_eq_true]
      exact ih
section
variable {P : Program} {w : World} {K : PySem.W.Frag} {mg : Str → Option Value} {base : Heap} {cT cR cS cA : Addr}
abbrev s__law_runs : Stmt := top 57
def sp__law_runs : Sp := fun vs H Q _ => ∃ (a : Addr) (L : Lots) (r : Nat), vs = [.int 3, .ref a, .int r] ∧ NK H (lotsK L) (.ref a) ∧ LotsOk L ∧ r ≤ 1 ∧ ∀ l us H', Same H H' → H l = none → H' l = some (.lst us) → NKs H' ((runsL L r).map (runK L)) us → Q (.ref l) H'
theorem ok__law_runs {f : Addr} {fd : FuncData} (F : Fun K "_law_runs" "_law_runs" s__law_runs f fd) (T : Txt K mg cT cR cS cA) (G__law_patterns : Fn P w K mg base 1 "_law_patterns" ["_law_many", "_law_rounds"] sp__law_patterns) (G__law_views : Fn P w K mg base 1 "_law_views" ["_law_inputs", "_law_pattern"] sp__law_views) : FnOk P w K mg base CX0 2 f fd ["_law_many", "_law_lots", "_law_rounds"] sp__law_runs := by
  have sc : FnScope ["_law_many", "_law_lots", "_law_rounds", "_law_found", "_law_patterns_here", "_law_inputs", "_law_lot_here", "_law_pattern", "_law_views_here", "_law_me"] ["_law_many", "_law_lots", "_law_rounds"] (defScope s__law_runs) := sc_by (by decide +kernel)
  refine F.ok sc (fun vs H Q E h => ?_) (fun cdv A outer s H vs Q E hr h => ?_)
  · obtain ⟨_, _, _, rfl, _⟩ := h; rfl
  · obtain ⟨a, L, r, rfl, h, hL, hr1, q⟩ := h
    have hu := hu9 hr
    have hu65 := hu65 hr
    have hu1 := hu1_of hr
    refine ⟨_, (pss_cons (ps_par rfl sc.nd (i := 3) (j := 4) rfl rfl (by decide) rfl rfl (pa_cons (pe_lst pa_nil) (pa_cons (pe_fn G__law_patterns (hr.mono (by decide)) rfl (pa_cons (pv 0) (pa_cons (pv 2) pa_nil))) pa_nil)) rfl)
      (pss_cons (ps_for PassesOwn.never rfl (pi_tup (pv 1)) (pg_tu 2 rfl (pgs_cons (pg_name (i := 5) sc.nd rfl (Or.inl rfl) (Or.inl rfl)) (pgs_cons (pg_name (i := 6) sc.nd rfl (Or.inl rfl) (Or.inl rfl)) pgs_nil)))
        (pss_one (ps_for PassesOwn.never rfl (pi_list (pv 4)) (pg_name (i := 7) sc.nd rfl (Or.inl rfl) (Or.inl rfl))
            (pss_cons (ps_set (i := 8) sc.nd rfl (Or.inr rfl) (pe_fn G__law_views (hr.mono (by decide)) rfl (pa_cons (pv 5) (pa_cons (pv 7) pa_nil))))
              (pss_one (ps_expr (pe_bm PySem.F.plainAttrs_list PySem.F.slot_list_append PySem.F.type_list_append mt_append (pv 3) (pa_cons (pe_tup (pa_cons (pv 5) (pa_cons (pv 7) (pa_cons (pe_callTy call_tupL (by rfl) T.tuple (by decide +kernel) (pa_cons (pe_lc (own := [("_law_me", 9)]) rfl sc.nd (pi_range1 (by rfl) T.range (pa_cons (pv 0) pa_nil)) (blkOk_by (by kernel_rfl)) (fun _ _ _ _ _ => (pg_name (i := 9) sc.nd rfl (Or.inl rfl) (Or.inr rfl))) (fun _ _ _ _ _ => pts_nil) (fun _ _ _ _ _ => (pe_tup (pa_cons (pv 9) (pa_cons (pe_ix ixt (pv 8) (pv 9) (fun _ _ => rfl)) pa_nil))))) pa_nil)) (pa_cons (pv 6) pa_nil))))) pa_nil))))))))
      (pss_one (ps_ret (pv 3))))), ?_⟩
    obtain ⟨_, as, e, ha, hks⟩ := id h
    cases e
    have hlu := hks.lenK
    have h2 := hL.few
    refine ⟨Nat.zero_le _, fun f hf => ⟨_, rfl, _, rfl, r, rfl, hr1, fun l pv H1 s1 z1 e1 n1 => ⟨_, _, rfl, ?_⟩⟩⟩
    have f1 : H1 f = some (.lst []) := s1 _ _ upd_same
    have s01 : Same H H1 := (same_upd _ hf).trans s1
    have nlf : l ≠ f := fun z => by rw [z, upd_same] at z1; cases z1
    have naf : a ≠ f := fun z => by rw [z, hf] at ha; cases ha
    have plen : pv.length ≤ 27 := by rw [n1.lenK]; exact patsUp_len hr1
    have pl2 : pv.length = 3 ^ (3 * r) := by rw [n1.lenK, patsUp_eq hr1]; simp
    rw [patsUp_eq hr1] at n1
    have tk : ∀ {H' : Hp}, Keep [f] H1 H' → KeepT H1 H' := fun k => k.keepT fun b hb ys e => by rw [List.mem_singleton.mp hb, f1] at e; cases e
    refine ⟨_, rfl, a, rfl, ⟨_, SqT.of (s01 _ _ ha)⟩, for_it walkT (fun i σ H' => ∃ v5 v6 v7 v8 v9 us, σ = [some (.int 3), some (.ref a), some (.int r), some (.ref f), some (.ref l), v5, v6, v7, v8, v9] ∧ Keep [f] H1 H' ∧ H' f = some (.lst us) ∧ NKs H' ((runsUp r i 0).map (runK L)) us) ⟨_, _, _, _, _, [], rfl, Keep.refl _ _, f1, by exact rfl⟩ (fun i σ H' _ ⟨_, _, _, _, _, _, _, k, _⟩ => k _ _ (s01 _ _ ha) (by simp [naf])) ?_ ?_⟩
    · rintro i x σ H2' H2 hi ⟨v5, v6, v7, v8, v9, us, rfl, k2, e2, n2⟩ ⟨rfl, hx⟩
      obtain ⟨⟨ns, lo⟩, ep, np⟩ := hks.atK hx
      obtain ⟨b, ws, rfl, hb, hws⟩ := id np
      obtain ⟨x1, _, rfl, hx1, x2, _, rfl, hx2, rfl⟩ := id hws
      obtain ⟨c, rfl, gc⟩ := hx1.rowI
      have h3 : Row3 ns := hL.ins _ (List.mem_of_getElem? ep)
      have eins := insAt_eq ep
      have elot := lotAt_eq ep
      have hiL : i < L.length := (List.getElem?_eq_some_iff.mp ep).1
      refine ⟨b, _, rfl, tk k2 _ _ (s01 _ _ hb), rfl, _, _, rfl, _, _, rfl, rfl, ?_⟩
      refine ⟨_, rfl, l, rfl, ⟨_, SqL.of (k2 _ _ e1 (by simp [nlf]))⟩, for_it walkL (fun j σ H' => ∃ v7 v8 v9 us, σ = [some (.int 3), some (.ref a), some (.int r), some (.ref f), some (.ref l), some (.ref c), some x2, v7, v8, v9] ∧ Keep [f] H1 H' ∧ H' f = some (.lst us) ∧ NKs H' ((runsUp r i j).map (runK L)) us) ⟨_, _, _, us, rfl, k2, e2, n2⟩ (fun j σ H' _ ⟨_, _, _, _, _, k, _⟩ => k _ _ e1 (by simp [nlf])) ?_ ?_⟩
      · rintro j x σ H3' H3 hj ⟨v7, v8, v9, us, rfl, k3, e3, n3⟩ ⟨rfl, hx⟩
        have hj' : j < 3 ^ (3 * r) := by omega
        obtain ⟨d, ed, nd⟩ := (NKs.mono (tk k3) _ _ n1).at hx
        rw [List.map_map, List.getElem?_map, List.getElem?_range hj'] at ed
        cases ed
        obtain ⟨d, ds, rfl, hd, hds⟩ := id nd
        have kc := tk k3 _ _ (s01 _ _ gc)
        have ulen : us.length ≤ 108 := by
          rw [n3.lenK, runsUp_len]
          have : i * 3 ^ (3 * r) ≤ 3 * 3 ^ (3 * r) := Nat.mul_le_mul (by omega) (Nat.le_refl _)
          omega
        refine ⟨_, rfl, _, rfl, c, d, ns, patL r j, rfl, NK.row.mpr ⟨c, rfl, kc⟩, nd, h3.1, fun m hm => ⟨(patL_miss hr1 hj' m hm).1, fun k hk => ?_⟩, fun t H4 s4 n4 => ?_⟩
        · have := (patL_miss hr1 hj' m hm).2 k hk
          simp only [missU, List.mem_cons, List.not_mem_nil, or_false] at this
          rcases this with rfl | rfl | rfl | rfl
          · exact .inl rfl
          · exact .inr ⟨_, rfl⟩
          · exact .inr ⟨_, rfl⟩
          · exact .inr ⟨_, rfl⟩
        obtain ⟨_, ts, e, ht, hts⟩ := id n4
        cases e
        have e4 := s4 _ _ e3
        have vl : (viewsK ns (patL r j)).length = 3 := viewsK_len h3.1
        refine ⟨_, rfl, .inl ⟨rfl, _, SqL.of e4⟩, _, rfl, _, rfl, _, rfl, 3, rfl, by decide, by decide, fun D hD => lc_map (walkR (n := 3)) [] (by simp) (by decide) hD (fun _ _ => trivial) (fun m H' acc => NKs H' ((pairsOf (viewsK ns (patL r j))).take m) acc) rfl (fun m x H5' H5 acc Kf hm k hacc hl hR hY hK => ?_) (fun H5 acc k5 hacc hl hR => ?_)⟩
        · obtain ⟨rfl, rfl⟩ := hY
          have s5 : Same H4 H5 := Keep.same k
          obtain ⟨kz, ekz⟩ : ∃ kz, (viewsK ns (patL r j))[m]? = some kz := ⟨_, List.getElem?_eq_getElem (by omega)⟩
          obtain ⟨z, hz, nkz⟩ := hts.at' ekz
          refine ⟨rfl, _, rfl, _, rfl, _, rfl, t, ts, m, z, rfl, rfl, s5 _ _ ht, hz, by show 2 ≤ sizeLine; decide, fun p hp => hK _ _ (Keep.of_same (same_upd _ hp)) ?_⟩
          have nt : D ≠ p := fun z => by rw [z, hp] at hacc; cases hacc
          have s6 : Same H5 (upd H5 p (.tup [.int m, z])) := same_upd _ hp
          have k6 : KeepT (upd H5 p (.tup [.int m, z])) (upd (upd H5 p (.tup [.int m, z])) D (.lst (acc ++ [.ref p]))) := keepT_upd fun xs e => by rw [upd_ne nt, hacc] at e; cases e
          have epk : (pairsOf (viewsK ns (patL r j)))[m]? = some (.tup [.num m, kz]) := by simp [pairsOf, ekz]
          rw [List.take_add_one, epk]
          exact NKs.snoc (NKs.mono ((KeepT.of_same s6).trans k6) _ _ hR) ⟨p, _, rfl, k6 _ _ upd_same, _, _, rfl, rfl, _, _, rfl, NK.mono (((KeepT.of_same s5).trans (KeepT.of_same s6)).trans k6) _ _ nkz, rfl⟩
        have s5 : Same H4 H5 := Keep.same k5
        rw [List.take_of_length_le (by simp [pairsOf, vl])] at hR
        refine ⟨D, _, rfl, hacc, fun t2 H6 s6 e6 => ⟨_, rfl, by show 4 ≤ sizeLine; decide, fun T0 hT0 => ?_⟩⟩
        have s7 : Same H6 (upd H6 T0 (.tup [.ref c, .ref d, .ref t2, x2])) := same_upd _ hT0
        have sAll : Same H3 (upd H6 T0 (.tup [.ref c, .ref d, .ref t2, x2])) := ((s4.trans s5).trans s6).trans s7
        have eT : upd H6 T0 (.tup [.ref c, .ref d, .ref t2, x2]) T0 = some (.tup [.ref c, .ref d, .ref t2, x2]) := upd_same
        have t27 := s7 _ _ e6
        have hR7 := NKs.mono (KeepT.of_same (s6.trans s7)) _ _ hR
        generalize upd H6 T0 (.tup [.ref c, .ref d, .ref t2, x2]) = H7 at s7 sAll eT t27 hR7
        have e7 := sAll _ _ e3
        have k8 : KeepT H7 (upd H7 f (.lst (us ++ [.ref T0]))) := keepT_upd fun xs e => by rw [e7] at e; cases e
        have k38 : KeepT H3 (upd H7 f (.lst (us ++ [.ref T0]))) := (KeepT.of_same sAll).trans k8
        have k18 : KeepT H (upd H7 f (.lst (us ++ [.ref T0]))) := ((KeepT.of_same s01).trans (tk k3)).trans k38
        refine ⟨f, _, _, rfl, rfl, e7, by rw [sizeLine_eq]; omega, _, _, _, us ++ [.ref T0], rfl, fun b u e n => ?_, upd_same, ?_⟩
        · rw [upd_ne (by simpa using n)]; exact sAll _ _ (k3 _ _ e n)
        · rw [runsUp_snoc, List.map_append]
          refine NKs.snoc (NKs.mono k38 _ _ n3) ⟨T0, _, rfl, k8 _ _ eT, ?_⟩
          refine ⟨_, _, rfl, ?_, _, _, rfl, NK.mono k38 _ _ nd, _, _, rfl, ⟨t2, _, rfl, k8 _ _ t27, ?_⟩, _, _, rfl, ?_, rfl⟩
          · show NK _ (rowK (insAt L i)) _
            rw [eins]; exact NK.mono k18 _ _ hx1
          · show NKs _ (prsR L (i, patL r j)) _
            unfold prsR
            rw [eins]; exact NKs.mono k8 _ _ hR7
          · show NK _ (lotK (lotAt L i)) _
            rw [elot]; exact NK.mono k18 _ _ hx2
      · rintro σ H3 ⟨v7, v8, v9, us, rfl, k3, e3, n3⟩
        rw [pl2, runsUp_next] at n3
        exact ⟨_, _, _, _, _, us, rfl, k3, e3, n3⟩
    · rintro σ H2 ⟨v5, v6, v7, v8, v9, us, rfl, k2, e2, n2⟩
      rw [hlu] at n2
      exact ⟨_, rfl, q f us H2 (fun b u e => k2 _ _ (s01 _ _ e) (by rw [List.mem_singleton]; exact ne_of_none e hf)) hf e2 n2⟩

abbrev s__law_by_pair : Stmt := top 58
def sp__law_by_pair (P : Program) (w : World) : Sp := fun vs H Q _ => ∃ (l : Addr) (us : List V) (L : Lots) (r : Nat), vs = [.ref l] ∧ H l = some (.lst us) ∧ NKs H ((runsL L r).map (runK L)) us ∧ LotsOk L ∧ r ≤ 1 ∧
  ∀ d G o H', Same H H' → DL P w H H' d (pairsL L r) G o → (∀ k, NKs H' ((hasL L r k).map (runK L)) (G k)) → Q (.ref d) H'
theorem ok__law_by_pair {f : Addr} {fd : FuncData} (F : Fun K "_law_by_pair" "_law_by_pair" s__law_by_pair f fd) (T : Txt K mg cT cR cS cA) : FnOk P w K mg base CX0 1 f fd ["_law_runs_here"] (sp__law_by_pair P w) := by
  have sc : FnScope ["_law_runs_here", "_law_found", "_law_run", "_law_pair"] ["_law_runs_here"] (defScope s__law_by_pair) := sc_by (by decide +kernel)
  refine F.ok sc (fun vs H Q E h => ?_) (fun cdv A outer s H vs Q E hr h => ?_)
  · obtain ⟨_, _, _, _, rfl, _⟩ := h; rfl
  · obtain ⟨l, us, L, r, rfl, hl, hus, hL, hr1, q⟩ := h
    have hu := hu9 hr
    have hu65 := hu65 hr
    have hu1 := hu1_of hr
    refine ⟨_, (pss_cons (ps_set (i := 1) sc.nd rfl (Or.inl rfl) pe_dnewN)
      (pss_cons (ps_for PassesOwn.never rfl (pi_list (pv 0)) (pg_name (i := 2) sc.nd rfl (Or.inl rfl) (Or.inl rfl))
        (pss_one (ps_for PassesOwn.never rfl (pi_tup (pe_ix ixt (pv 2) pe_int (fun _ _ => rfl))) (pg_name (i := 3) sc.nd rfl (Or.inl rfl) (Or.inl rfl))
            (pss_one (ps_expr (pe_bm PySem.F.plainAttrs_list PySem.F.slot_list_append PySem.F.type_list_append mt_append (pe_mG (ty_ndP P w) PySem.F.plainAttrs_dict PySem.F.slot_dict_setdefault PySem.F.type_dict_setdefault (mt_nsetd hu) (pv 1) (pa_cons (pv 3) (pa_cons (pe_lst pa_nil) pa_nil))) (pa_cons (pv 2) pa_nil)))))))
      (pss_one (ps_ret (pv 1))))), ?_⟩
    refine fun d H1 hd s1 nd1 => ?_
    have D0 := DL.new (Same.refl H) hd nd1
    have ulen := hus.lenK
    have hmR : (runsL L r).length ≤ 108 := mR_le hL hr1
    refine ⟨_, rfl, l, rfl, ⟨_, SqL.of (s1 _ _ hl)⟩, for_it walkL (fun i σ H' => ∃ o v2 v3, σ = [some (.ref l), some (.ref d), v2, v3] ∧ Same H H' ∧ DL P w H H' d (gkeys (eRuns L (((runsL L r).zip us).take i))) (glist (eRuns L (((runsL L r).zip us).take i))) o ∧ (eRuns L (((runsL L r).zip us).take i)).length ≤ 3 * i) ⟨_, none, none, rfl, s1, by rw [List.take_zero]; exact D0, by simp [eRuns]⟩ (fun i σ H' _ ⟨_, _, _, _, s, _⟩ => s _ _ hl) ?_ ?_⟩
    · rintro i x σ H2' H2 hi ⟨o, v2, v3, rfl, s2, dl, hel⟩ ⟨rfl, hx⟩
      obtain ⟨u, eu, nu⟩ := hus.atK hx
      have hu := List.mem_of_getElem? eu
      have u3 := prsR_len3 hL hu
      have hpU := prsR_U hL hr1 hu
      obtain ⟨c, cs, rfl, gc, hcs⟩ := id nu
      obtain ⟨x1, _, rfl, n1, x2, _, rfl, n2, x3, _, rfl, n3, x4, _, rfl, n4, rfl⟩ := id hcs
      obtain ⟨pt, ps, rfl, gp, hps⟩ := id n3
      have plen := hps.len
      have ezip : ((runsL L r).zip us)[i]? = some (u, .ref c) := by rw [List.getElem?_zip_eq_some]; exact ⟨eu, hx⟩
      generalize hes : eRuns L (((runsL L r).zip us).take i) = es at dl hel
      refine ⟨_, rfl, _, _, 2, _, rfl, rfl, s2 _ _ gc, rfl, pt, rfl, ⟨_, SqT.of (s2 _ _ gp)⟩, for_it walkT (fun j σ H' => ∃ o v3, σ = [some (.ref l), some (.ref d), some (.ref c), v3] ∧ Same H H' ∧ DL P w H H' d (gkeys (es ++ (eRun L u (.ref c)).take j)) (glist (es ++ (eRun L u (.ref c)).take j)) o) ⟨o, v3, rfl, s2, by simpa using dl⟩ (fun i σ H' _ ⟨_, _, _, s, _⟩ => s _ _ gp) ?_ ?_⟩
      · rintro j x σ H3' H3 hj ⟨o, v3, rfl, s3, dl⟩ ⟨rfl, hx⟩
        obtain ⟨k, ek, nk⟩ := hps.at hx
        obtain ⟨kl, rfl⟩ : ∃ kl, k = .tup kl := by
          simp only [prsR, pairsOf, List.getElem?_mapIdx] at ek
          obtain ⟨v, _, rfl⟩ := Option.map_eq_some_iff.mp ek
          exact ⟨_, rfl⟩
        obtain ⟨b, bs, rfl, gb, hbs⟩ := id nk
        have hdep := keysU_depth _ (hpU _ (List.mem_of_getElem? ek))
        refine ⟨_, rfl, ⟨d, _, rfl, dl.nd.rd⟩, _, rfl, Nat.zero_le _, fun z hz => ?_⟩
        have s4 : Same H3 (upd H3 z (.lst [])) := same_upd _ hz
        simp only [tNil]
        have hj3 : j < 3 := by omega
        have hkl : (gkeys (es ++ (eRun L u (.ref c)).take j)).length ≤ 1000 := Nat.le_trans (gkeys_len _) (by rw [List.length_append, List.length_take]; omega)
        refine dl_set dl s4 hz (NK.mono (KeepT.of_same (s3.trans s4)) _ _ nk) hdep upd_same (s3.free hz) (by omega) (fun l9 H12 o' e12 e0 k12 fin => ?_)
        have hgl : (glist (es ++ (eRun L u (.ref c)).take j) (.tup kl)).length ≤ 1000 := Nat.le_trans (glist_len _ _) (by rw [List.length_append, List.length_take]; omega)
        have er1 : (eRun L u (.ref c))[j]? = some (.tup kl, .ref c) := by simp [eRun, ek]
        refine ⟨.inl ⟨rfl, _, SqL.of e12⟩, _, rfl, l9, _, _, rfl, rfl, e12, by rw [sizeLine_eq]; omega, o', _, rfl, ?_, ?_⟩
        · intro b' o1 e1
          have nb : b' ≠ l9 := fun z1 => by rw [z1, e0] at e1; cases e1
          rw [upd_ne nb]
          refine k12 _ _ (s4 _ _ (s3 _ _ e1)) ?_
          rw [List.mem_singleton]
          exact fun z1 => by rw [z1, dl.d0] at e1; cases e1
        · rw [List.take_add_one, er1, ← List.append_assoc]
          have := fin (.ref c)
          rw [show (es ++ (eRun L u (.ref c)).take j ++ (some (NestedKey.tup kl, V.ref c)).toList) = (es ++ (eRun L u (.ref c)).take j) ++ [(NestedKey.tup kl, V.ref c)] from rfl, gkeys_snoc, glist_snoc]
          exact this
      · rintro σ H3 ⟨o, v3, rfl, s3, dl⟩
        rw [List.take_of_length_le (by simp [eRun]; omega), ← hes] at dl
        refine ⟨o, _, _, rfl, s3, ?_, ?_⟩
        · rw [List.take_add_one, ezip]
          simp only [eRuns, List.flatMap_append] at dl ⊢
          simpa using dl
        · rw [List.take_add_one, ezip]
          simp only [eRuns, List.flatMap_append, List.length_append] at hes ⊢
          rw [hes]
          simp [eRun]; omega
    · rintro σ H2 ⟨o, v2, v3, rfl, s2, dl, hel⟩
      rw [List.take_of_length_le (by rw [List.length_zip]; omega)] at dl
      rw [eRuns_keys L _ _ ulen] at dl
      exact ⟨_, rfl, q d _ o H2 s2 dl fun k => eRuns_at L k _ _ (NKs.mono (KeepT.of_same s2) _ _ hus)⟩

end
end S1

/-! LN: the law's own search -/
namespace S1
open PySem L2
def rowB (L : Lots) (ks : List NestedKey) (f : NestedKey → Int) (u : Run) (row : List Int) (m : Nat) : Bool := decide ((if (prsR L u).getD m .none ∈ ks then f ((prsR L u).getD m .none) else row.getD m 0) = row.getD m 0)
section
variable {P : Program} {w : World} {K : PySem.W.Frag} {mg : Str → Option Value} {base : Heap} {cT cR cS cA : Addr}
abbrev s__law_fits : Stmt := top 59
def sp__law_fits (P : Program) (w : World) : Sp := fun vs H Q _ => ∃ (d c : Addr) (L : Lots) (r : Nat) (ks : List NestedKey) (f : NestedKey → Int) (u : Run), vs = [.ref d, .ref c] ∧ NDr P w H d (ks.map fun k => (k, V.int (f k))) ∧ NK H (runK L u) (.ref c) ∧ LotsOk L ∧ r ≤ 1 ∧ u ∈ runsL L r ∧
  ∀ H', Same H H' → Q (.bl (fitB L ks f u)) H'
theorem ok__law_fits {f : Addr} {fd : FuncData} (F : Fun K "_law_fits" "_law_fits" s__law_fits f fd) (T : Txt K mg cT cR cS cA) : FnOk P w K mg base CX0 1 f fd ["_law_told", "_law_run"] (sp__law_fits P w) := by
  have sc : FnScope ["_law_told", "_law_run", "_law_row", "_law_me"] ["_law_told", "_law_run"] (defScope s__law_fits) := sc_by (by decide +kernel)
  refine F.ok sc (fun vs H Q E h => ?_) (fun cdv A outer s H vs Q E hr h => ?_)
  · obtain ⟨_, _, _, _, _, _, _, rfl, _⟩ := h; rfl
  · obtain ⟨d, c, L, r, ks, f', u, rfl, hd, hc, hL, hr1, hu', q⟩ := h
    have hu := hu9 hr
    have hu65 := hu65 hr
    have hu1 := hu1_of hr
    refine ⟨_, (pss_one (ps_ret (pe_callB (anyF rfl) (by rfl) T.any_ (by decide +kernel) (pa_cons (pe_lc (own := [("_law_row", 2)]) rfl sc.nd (pi_tup (pe_ix ixt (pv 1) pe_int (fun _ _ => rfl))) (blkOk_by (by kernel_rfl)) (fun _ _ _ _ _ => (pg_name (i := 2) sc.nd rfl (Or.inr rfl) (Or.inl rfl))) (fun _ _ _ _ _ => pts_nil) (fun _ _ _ _ _ => (pe_callB (allF rfl) (by rfl) T.all_ (by decide +kernel) (pa_cons (pe_lc (own := [("_law_me", 3)]) rfl sc.nd (pi_range1 (by rfl) T.range (pa_cons (pe_callB lenF (by rfl) T.len (by decide +kernel) (pa_cons (pv 2) pa_nil)) pa_nil)) (blkOk_by (by kernel_rfl)) (fun _ _ _ _ _ => (pg_name (i := 3) sc.nd rfl (Or.inl rfl) (Or.inr rfl))) (fun _ _ _ _ _ => pts_nil) (fun _ _ _ _ _ => (pe_cmpR op_eq (pe_mG (ty_ndP P w) PySem.F.plainAttrs_dict PySem.F.slot_dict_get PySem.F.type_dict_get (mt_nget2P P w hu) (pv 0) (pa_cons (pe_ix ixt (pe_ix ixt (pv 1) pe_int (fun _ _ => rfl)) (pv 3) (fun _ _ => rfl)) (pa_cons (pe_ix ixt (pv 2) (pv 3) (fun _ _ => rfl)) pa_nil))) (pe_ix ixt (pv 2) (pv 3) (fun _ _ => rfl)) (nomark _)))) pa_nil)))) pa_nil)))), ?_⟩
    have u3 := prsR_len3 hL hu'
    have hpU := prsR_U hL hr1 hu'
    have hlot := lot_ok hL hu'
    obtain ⟨_, cs, e, gc, hcs⟩ := id hc
    cases e
    obtain ⟨x1, _, rfl, n1, x2, _, rfl, n2, x3, _, rfl, n3, x4, _, rfl, n4, rfl⟩ := id hcs
    obtain ⟨pt, ps, rfl, gp, hps⟩ := id n3
    obtain ⟨lt, ls, rfl, gl, hls⟩ := id n4
    have llen := hls.lenK
    have lfew := hlot.few
    refine ⟨_, rfl, _, _, 3, _, rfl, rfl, gc, rfl, lt, rfl, ⟨_, SqT.of gl⟩, fun D hD => lc_map walkT [] (by simp) (by omega) hD (fun H' k => k _ _ gl (by simp)) (fun i H' acc => acc = ((lotAt L u.1).take i).map fun row => V.bl ((List.range row.length).all (rowB L ks f' u row))) rfl (fun i x H1' H1 acc Kf hi k hacc hl hR hY hK => ?_) (fun H1 acc k hacc hl hR => ?_)⟩
    · obtain ⟨rfl, hx⟩ := hY
      obtain ⟨row, er, nr⟩ := hls.atK hx
      obtain ⟨b, rfl, gb⟩ := nr.rowI
      have hr3 := hlot.rows row (List.mem_of_getElem? er)
      have s1 : Same H H1 := Keep.same k
      refine ⟨rfl, _, rfl, b, _, rfl, .inr (s1 _ _ gb), ((row.map V.int).length : Int), rfl, by omega, by rw [List.length_map, hr3.1]; decide, fun D2 hD2 => lc_map (walkR (n := (row.map V.int).length)) [] (by simp) (by rw [List.length_map, hr3.1]; decide) hD2 (fun _ _ => trivial) (fun m H' acc => acc = (List.range m).map fun m => V.bl (rowB L ks f' u row m)) rfl (fun m x H2' H2 acc2 Kf2 hm k2 hacc2 hl2 hR2 hY2 hK2 => ?_) (fun H2 acc2 k2 hacc2 hl2 hR2 => ?_)⟩
      · obtain ⟨rfl, rfl⟩ := hY2
        rw [List.length_map, hr3.1] at hm
        have s2 : Same H1 H2 := Keep.same k2
        obtain ⟨pk, epk⟩ : ∃ pk, (prsR L u)[m]? = some pk := ⟨_, List.getElem?_eq_getElem (by omega)⟩
        obtain ⟨pv, hpv, npv⟩ := hps.at' epk
        obtain ⟨mm, vv, rfl, _, _⟩ := pair_form hL hu' (List.mem_of_getElem? epk)
        obtain ⟨pa, pw, rfl, gpa, hpw⟩ := id npv
        have hrow := (row3_get hr3 hm).1
        have hrw : (row.map V.int)[m]? = some (.int (row.getD m 0)) := by rw [List.getElem?_map, hrow]; rfl
        have s12 := s1.trans s2
        have hdep := keysU_depth _ (hpU _ (List.mem_of_getElem? epk))
        have hd2 := NDr.same hd s12
        have hgd : (prsR L u).getD m .none = .tup [.num (mm : Int), vv] := by rw [List.getD_eq_getElem?_getD, epk]; rfl
        refine ⟨rfl, _, rfl, ⟨d, _, rfl, hd2⟩, _, rfl, _, _, 2, _, rfl, rfl, s12 _ _ gc, rfl, _, rfl, pt, ps, m, _, rfl, rfl, s12 _ _ gp, hpv, _, rfl, _, rfl, b, _, m, _, rfl, rfl, s12 _ _ gb, hrw, d, pa, _, _, _, rfl, rfl, hd2, NK.mono (KeepT.of_same s12) _ _ npv, hdep, _, rfl, _, rfl, b, _, m, _, rfl, rfl, s12 _ _ gb, hrw, ?_⟩
        rw [valV_mapV (f := fun k => V.int (f' k))]
        have fin : ∀ z : Int, z = (if (prsR L u).getD m .none ∈ ks then f' ((prsR L u).getD m .none) else row.getD m 0) → Kf2 (.bl (decide (z = row.getD m 0))) H2 := fun z hz => hK2 _ _ (Keep.refl _ _) (by rw [hR2, List.range_succ, List.map_append, hz]; rfl)
        rw [hgd] at fin
        by_cases hin : NestedKey.tup [.num (mm : Int), vv] ∈ ks
        · rw [if_pos hin]
          rw [if_pos hin] at fin
          have := fin _ rfl
          refine ⟨rfl, ?_⟩
          simpa using this
        · rw [if_neg hin]
          rw [if_neg hin] at fin
          have := fin _ rfl
          refine ⟨rfl, ?_⟩
          simpa using this
      · rw [List.length_map] at hR2
        have hbs : acc2 = ((List.range row.length).map (rowB L ks f' u row)).map V.bl := by rw [hR2, List.map_map]; rfl
        rw [hbs] at hacc2
        refine ⟨D2, _, rfl, hacc2, hK _ _ k2 ?_⟩
        rw [hR, List.take_add_one, er, List.map_append]
        simp [List.all_map, Function.comp_def]
    · rw [List.take_of_length_le (by omega)] at hR
      have hbs : acc = ((lotAt L u.1).map fun row => (List.range row.length).all (rowB L ks f' u row)).map V.bl := by rw [hR, List.map_map]; rfl
      rw [hbs] at hacc
      refine ⟨D, _, rfl, hacc, ?_⟩
      have := q _ (Keep.same k)
      have e : (((lotAt L u.1).map fun row => (List.range row.length).all (rowB L ks f' u row)).any id) = fitB L ks f' u := by
        rw [List.any_map]; rfl
      rw [e]
      exact this

end
end S1

/-! LO: the law's own search, walked -/
namespace S1
open PySem L2
/-- at d the runs by pair -/
def BP (P : Program) (w : World) (L : Lots) (r : Nat) (H : Hp) (d : Addr) : Prop := ∃ o : NestedKey → Addr, ND P w H d ((pairsL L r).map fun k => (k, .ref (o k))) ∧ ∀ k ∈ pairsL L r, ∃ vs, H (o k) = some (.lst vs) ∧ NKs H ((hasL L r k).map (runK L)) vs
def tolV (L : Lots) (r i : Nat) (f : NestedKey → Int) : List (NestedKey × V) := ((pairsL L r).take i).map fun k => (k, V.int (f k))
def Agree (L : Lots) (r i : Nat) (f g : NestedKey → Int) : Prop := ∀ k ∈ (pairsL L r).take i, f k = g k
theorem runK_ref {L : Lots} {u : Run} {H : Hp} {v : V} (h : NK H (runK L u) v) : ∃ a, v = .ref a := let ⟨a, _, e, _⟩ := h; ⟨a, e⟩
theorem BP.keep {P : Program} {w : World} {L : Lots} {r : Nat} {H H' : Hp} {d n : Addr} {c : Int} (h : BP P w L r H d) (hn : H n = some (.lst [.int c])) (k : Keep [n] H H') : BP P w L r H' d := by
  obtain ⟨o, nd, ho⟩ := h
  have kt : KeepT H H' := k.keepT fun b hb ys e => by rw [List.mem_singleton.mp hb, hn] at e; cases e
  obtain ⟨f, hf⟩ := nd.at
  refine ⟨o, nd.mono kt fun u e => k _ _ e ?_, fun p hp => ?_⟩
  · rw [List.mem_singleton]; intro z; rw [z, hn] at hf; cases hf
  · obtain ⟨vs, e, nk⟩ := ho p hp
    refine ⟨vs, k _ _ e ?_, NKs.mono kt _ _ nk⟩
    rw [List.mem_singleton]; intro z
    rw [z, hn] at e
    cases e
    obtain ⟨u, us, eu, _, _⟩ := hasL_cons hp
    rw [eu] at nk
    obtain ⟨v, vs', e1, e2, _⟩ := nk
    obtain ⟨a, rfl⟩ := runK_ref e2
    cases e1
theorem BP.mono {P : Program} {w : World} {L : Lots} {r : Nat} {H H' : Hp} {d : Addr} (h : BP P w L r H d) (s : Same H H') : BP P w L r H' d :=
  let ⟨o, nd, ho⟩ := h
  ⟨o, nd.mono (KeepT.of_same s) fun u e => s _ _ e, fun p hp => let ⟨vs, e, nk⟩ := ho p hp; ⟨vs, s _ _ e, NKs.mono (KeepT.of_same s) _ _ nk⟩⟩
theorem putK_tol {L : Lots} {r i : Nat} {f : NestedKey → Int} {k : NestedKey} {v : Int} (hk : (pairsL L r)[i]? = some k) : putK (tolV L r i f) k (.int v) = tolV L r (i + 1) (putF' f k v) := by
  have hnd : (pairsL L r).Nodup := ksOf_nodup L _
  have hkn : k ∉ (pairsL L r).take i := fun hm => by
    obtain ⟨j, hj, ej⟩ := at_take hm
    have := nodup_at hnd ej hk
    omega
  unfold tolV
  rw [putK_mapV (g := fun j => V.int (putF' f k v j)) hkn (fun j hj => ?_) (by simp [putF']), List.take_add_one, hk]
  · rfl
  · unfold putF'
    rw [if_neg fun z : j = k => hkn (z ▸ hj)]
section
variable {P : Program} {w : World} {K : PySem.W.Frag} {mg : Str → Option Value} {base : Heap} {cT cR cS cA : Addr}
abbrev s__law_solved : Stmt := top 60
def sp__law_solved (P : Program) (w : World) (m : Nat) : Sp := fun vs H Q _ => ∃ (d l t n : Addr) (L : Lots) (r i : Nat) (f : NestedKey → Int) (pl : List V) (c : Int), vs = [.ref d, .ref l, .ref t, .ref n] ∧ LotsOk L ∧ r ≤ 1 ∧ BP P w L r H d ∧ H l = some (.lst pl) ∧ NKs H ((pairsL L r).drop i) pl ∧ pl.length < m ∧
  NDr P w H t (tolV L r i f) ∧ H n = some (.lst [.int c]) ∧ ToldOk L r i f ∧
  (∀ c' H', Keep [n] H H' → H' n = some (.lst [.int c']) → (¬∃ g, SolK L r g ∧ Agree L r i f g) → Q .non H') ∧
  (∀ t' kvs c' H', Keep [n] H H' → H' n = some (.lst [.int c']) → NDr P w H' t' kvs → (∃ g, SolK L r g) → Q (.ref t') H') ∧
  ∀ c' H', Keep [n] H H' → H' n = some (.lst [.int c']) → Q (.str "open") H'
theorem ok__law_solved {f : Addr} {fd : FuncData} (F : Fun K "_law_solved" "_law_solved" s__law_solved f fd) (T : Txt K mg cT cR cS cA) (G__law_fits : Fn P w K mg base 1 "_law_fits" ["_law_told", "_law_run"] (sp__law_fits P w)) {n : Nat} (G__law_solved : Fn P w K mg base (n + 4) "_law_solved" ["_law_by_pair_here", "_law_left", "_law_told", "_law_turns"] (sp__law_solved P w n)) : FnOk P w K mg base CX0 (n + 5) f fd ["_law_by_pair_here", "_law_left", "_law_told", "_law_turns"] (sp__law_solved P w (n + 1)) := by
  have sc : FnScope ["_law_by_pair_here", "_law_left", "_law_told", "_law_turns", "_law_pair", "_law_value", "_law_later", "_law_found", "_law_row", "_law_run"] ["_law_by_pair_here", "_law_left", "_law_told", "_law_turns"] (defScope s__law_solved) := sc_by (by decide +kernel)
  refine F.ok sc (fun vs H Q E h => ?_) (fun cdv A outer s H vs Q E hr h => ?_)
  · obtain ⟨_, _, _, _, _, _, _, _, _, _, rfl, _⟩ := h; rfl
  · obtain ⟨d, l, t, nn, L, r, i, f', pl, c, rfl, hL, hr1, hbp, hl, hpv, hlen, ht, hn, hto, qn, qs, qo⟩ := h
    have hu := hu9 hr
    have hu65 := hu65 hr
    have hu1 := hu1_of hr
    refine ⟨_, (pss_cons (ps_asg (pe_op op_add (pe_ix ixl (pv 3) pe_int (fun _ _ => rfl)) pe_int) (pg_sub (pv 3) pe_int set_list))
      (pss_cons (ps_if (PW.pt (pw_or (pt_cmpR (by exact or_eqNil hr.units0) (pv 1) (pe_lst pa_nil) (nomark _)) (pw_or1 (pt_cmpR op_gt (pe_ix ixl (pv 3) pe_int (fun _ _ => rfl)) pe_int (nomark _)))))
        (pss_one (ps_ret (pe_ifExp (pt_cmpR (by exact or_eqNil hr.units0) (pv 1) (pe_lst pa_nil) (nomark _)) (pv 2) pe_str)))
        pss_nil)
      (pss_cons (ps_set (i := 4) sc.nd rfl (Or.inr rfl) (pe_ix ixl (pv 1) pe_int (fun _ _ => rfl)))
      (pss_cons (ps_for PassesOwn.never rfl (pi_list (pe_callB (cr_sortedSet rfl) (by rfl) T.sorted (by decide +kernel) (pa_cons (pe_callTy (cr_setI rfl) (by rfl) T.set (by decide +kernel) (pa_cons (pe_lc (own := [("_law_row", 8)]) rfl sc.nd (pi_tup (pe_ix ixt (pe_ix ixl (pe_ngetP P w hu (pv 0) (pv 4) (fun _ _ => rfl)) pe_int (fun _ _ => rfl)) pe_int (fun _ _ => rfl))) (blkOk_by (by kernel_rfl)) (fun _ _ _ _ _ => (pg_name (i := 8) sc.nd rfl (Or.inl rfl) (Or.inr rfl))) (fun _ _ _ _ _ => pts_nil) (fun _ _ _ _ _ => (pe_ix ixt (pv 8) (pe_ix ixt (pv 4) pe_int (fun _ _ => rfl)) (fun _ _ => rfl)))) pa_nil)) pa_nil))) (pg_name (i := 5) sc.nd rfl (Or.inl rfl) (Or.inl rfl))
        (pss_cons (ps_set (i := 6) sc.nd rfl (Or.inr rfl) (pe_callTy (call_dictN hu65) (by rfl) T.dict (by decide +kernel) (pa_cons (pv 2) pa_nil)))
          (pss_cons (ps_asg (pv 5) (pg_sub (pv 6) (pv 4) (by exact set_nd hu)))
          (pss_one (ps_if (pt_val (pe_callB (allF rfl) (by rfl) T.all_ (by decide +kernel) (pa_cons (pe_lc (own := [("_law_run", 9)]) rfl sc.nd (pi_list (pe_ngetP P w hu (pv 0) (pv 4) (fun _ _ => rfl))) (blkOk_by (by kernel_rfl)) (fun _ _ _ _ _ => (pg_name (i := 9) sc.nd rfl (Or.inl rfl) (Or.inr rfl))) (fun _ _ _ _ _ => pts_nil) (fun _ _ _ _ _ => (pe_fn G__law_fits (hr.mono (by omega)) rfl (pa_cons (pv 6) (pa_cons (pv 9) pa_nil))))) pa_nil)))
            (pss_cons (ps_set (i := 7) sc.nd rfl (Or.inl rfl) (pe_fn G__law_solved (hr.mono (by omega)) rfl (pa_cons (pv 0) (pa_cons (pe_slice sl_list (pv 1) (po_some pe_int) po_none) (pa_cons (pv 6) (pa_cons (pv 3) pa_nil))))))
              (pss_one (ps_if (pt_cmp (pc_notN (pv 7)))
                (pss_one (ps_ret (pv 7)))
                pss_nil)))
            pss_nil)))))
      (pss_one (ps_ret pe_non)))))), ?_⟩
    have nln : l ≠ nn := fun z => by
      rw [z, hn] at hl
      cases hl
      obtain ⟨k, hk⟩ : ∃ k, (pairsL L r).drop i = [k] := by
        have := hpv.len
        match h : (pairsL L r).drop i, this with
        | [k], _ => exact ⟨k, rfl⟩
      rw [hk] at hpv
      have hm : k ∈ pairsL L r := List.mem_of_mem_drop (by rw [hk]; simp : k ∈ (pairsL L r).drop i)
      obtain ⟨u, hu, hku⟩ := ksOf_mem.mp hm
      obtain ⟨m, v, rfl, _⟩ := pair_form hL hu hku
      obtain ⟨x, xs, e, ⟨a, as, e2, _⟩, _⟩ := hpv
      subst e2
      cases e
    have ku : Keep [nn] H (upd H nn (.lst ([V.int c].set 0 ((fun i j => V.int (i + j)) c 1)))) := keep_upd
    refine ⟨_, rfl, nn, _, 0, _, rfl, rfl, hn, rfl, _, _, rfl, rfl, _, rfl, nn, _, 0, 0, rfl, rfl, hn, rfl, ?_⟩
    have hn1 : upd H nn (.lst ([V.int c].set 0 ((fun i j => V.int (i + j)) c 1))) nn = some (.lst [.int (c + 1)]) := upd_same
    generalize upd H nn (.lst ([V.int c].set 0 ((fun i j => V.int (i + j)) c 1))) = H1 at ku hn1
    have hl1 := ku _ _ hl (by simpa using nln)
    refine ⟨_, rfl, Nat.zero_le _, fun z hz => ?_⟩
    have sz : Same H1 (upd H1 z (.lst [])) := same_upd _ hz
    refine ⟨l, z, pl, rfl, rfl, SqL.of (sz _ _ hl1), SqL.of upd_same, _, rfl, ?_⟩
    generalize upd H1 z (.lst []) = H2 at sz
    have k2 : Keep [nn] H H2 := ku.trans (Keep.of_same sz)
    have hn2 := sz _ _ hn1
    have hl2 := sz _ _ hl1
    have kt2 : KeepT H H2 := k2.keepT fun b hb ys e => by rw [List.mem_singleton.mp hb, hn] at e; cases e
    have nt : t ≠ nn := fun z => by
      obtain ⟨xs, e, _, _⟩ := id ht
      rw [z] at e
      rcases e with e | ⟨o, e⟩ <;> (rw [hn] at e; cases e)
    have ht2 : NDr P w H2 t (tolV L r i f') := ht.mono kt2 fun o e => k2 _ _ e (by simpa using nt)
    have hbp2 := hbp.keep hn k2
    cases pl with
    | nil =>
      refine ite_t rfl ?_
      refine ⟨_, rfl, Nat.zero_le _, fun z2 hz2 => ?_⟩
      have sz2 : Same H2 (upd H2 z2 (.lst [])) := same_upd _ hz2
      refine ⟨l, z2, _, rfl, rfl, SqL.of (sz2 _ _ hl2), SqL.of upd_same, _, rfl, ite_t rfl ⟨_, rfl, qs t _ _ _ (k2.trans (Keep.of_same sz2)) (sz2 _ _ hn2) (NDr.same ht2 sz2) ⟨f', told_end hL hto ?_⟩⟩⟩
      have := hpv.len
      simp only [List.length_nil, List.length_drop] at this
      unfold nP; omega
    | cons x xs =>
      refine ite_f rfl ?_
      refine ⟨_, rfl, nn, _, 0, _, rfl, rfl, hn2, rfl, _, _, rfl, rfl, _, rfl, ite_any ?_ ?_⟩
      · refine ⟨_, rfl, Nat.zero_le _, fun z2 hz2 => ?_⟩
        have sz2 : Same H2 (upd H2 z2 (.lst [])) := same_upd _ hz2
        exact ⟨l, z2, _, rfl, rfl, SqL.of (sz2 _ _ hl2), SqL.of upd_same, _, rfl, ite_f rfl (qo _ _ (k2.trans (Keep.of_same sz2)) (sz2 _ _ hn2))⟩
      obtain ⟨k, rest, ed⟩ : ∃ k rest, (pairsL L r).drop i = k :: rest := by
        have := hpv.len
        match h : (pairsL L r).drop i, this with
        | k :: rest, _ => exact ⟨k, rest, rfl⟩
      have hki : (pairsL L r)[i]? = some k := by
        have : ((pairsL L r).drop i)[0]? = some k := by rw [ed]; rfl
        rwa [List.getElem?_drop] at this
      have edr : (pairsL L r).drop (i + 1) = rest := by rw [← List.drop_drop, ed]; rfl
      rw [ed] at hpv
      obtain ⟨x', xs', e, nx, nxs⟩ := hpv
      cases e
      have hkm : k ∈ pairsL L r := List.mem_of_getElem? hki
      have hkU := pairsL_U hL hr1 k hkm
      have hdep := keysU_depth _ hkU
      obtain ⟨u0, us0, eh, hu0, hk0⟩ := hasL_cons hkm
      obtain ⟨m, vv, rfl, hm3, hmp⟩ := pair_form hL hu0 hk0
      obtain ⟨b, bs, rfl, gb, hbs⟩ := id nx
      obtain ⟨b1, _, rfl, hb1, b2, _, rfl, hb2, rfl⟩ := id hbs
      obtain rfl : b1 = .int m := hb1
      have gb2 := kt2 _ _ gb
      have nx2 := NK.mono kt2 _ _ nx
      have nxs2 := NKs.mono kt2 _ _ nxs
      obtain ⟨o, nd, ho⟩ := id hbp2
      obtain ⟨rv, erv, nrv⟩ := ho _ hkm
      have hvk : valV ((pairsL L r).map fun k => (k, V.ref (o k))) (.tup [.num (m : Int), vv]) = some (.ref (o (.tup [.num (m : Int), vv]))) := valV_map.trans (if_pos hkm)
      generalize ok' : o (.tup [.num (m : Int), vv]) = oa at hvk erv
      have hlot := lot_ok hL hu0
      have nrv0 := nrv
      rw [eh] at nrv
      obtain ⟨v0, vs0, erv0, nv0, _⟩ := nrv
      obtain ⟨c0, cs0, rfl, gc0, hcs0⟩ := id nv0
      obtain ⟨y1, _, rfl, m1, y2, _, rfl, m2, y3, _, rfl, m3, y4, _, rfl, m4, rfl⟩ := id hcs0
      obtain ⟨lt, ls, rfl, gl, hls⟩ := id m4
      have llen := hls.lenK
      have lfew := hlot.few
      refine ⟨_, rfl, l, _, 0, _, rfl, rfl, hl2, rfl, ?_⟩
      refine ⟨_, rfl, _, rfl, d, _, b, _, _, rfl, rfl, nd.rd, nx2, hdep, hvk, oa, _, 0, _, rfl, rfl, erv, by rw [erv0]; rfl, c0, _, 3, _, rfl, rfl, gc0, rfl, lt, rfl, ⟨_, SqT.of gl⟩, fun D hD => lc_map walkT [] (by simp) (by omega) hD (fun H' k => k _ _ gl (by simp)) (fun j H' acc => acc = ((lotAt L u0.1).take j).map fun row => V.int (row.getD m 0)) rfl (fun j x H3' H3 acc Kf hj k hacc hl hR hY hK => ?_) (fun H3 acc k3 hacc hl3 hR => ?_)⟩
      · obtain ⟨rfl, hx⟩ := hY
        obtain ⟨row, er, nr⟩ := hls.atK hx
        obtain ⟨a, rfl, ga⟩ := nr.rowI
        have hr3 := hlot.rows row (List.mem_of_getElem? er)
        have s3 : Same H2 H3 := Keep.same k
        have hrw : (row.map V.int)[m]? = some (.int (row.getD m 0)) := by rw [List.getElem?_map, (row3_get hr3 hm3).1]; rfl
        refine ⟨rfl, _, rfl, _, rfl, b, _, 0, _, rfl, rfl, s3 _ _ gb2, rfl, a, _, m, _, rfl, rfl, s3 _ _ ga, hrw, hK _ _ (Keep.refl _ _) ?_⟩
        rw [hR, List.take_add_one, er, List.map_append]; rfl
      rw [List.take_of_length_le (by omega)] at hR
      have hacc' : H3 D = some (.lst (((lotAt L u0.1).map fun row => row.getD m 0).map V.int)) := by rw [hacc, hR, List.map_map]; rfl
      refine ⟨D, _, rfl, SqL.of hacc', ?_, fun p cc hp hcc => ?_⟩
      · rw [List.length_map]
        exact Nat.lt_of_le_of_lt (Nat.succ_le_succ lfew) (by decide)
      rw [List.length_map] at hcc
      refine ⟨p, _, cc, rfl, upd_same, by omega, fun out p2 hsort hmem _ hp2 => ?_⟩
      have s3 : Same H2 H3 := Keep.same k3
      replace hp2 : upd H3 p (SetO w p (fun j => decide (j ∈ (lotAt L u0.1).map fun row => row.getD m 0)) cc) p2 = none := hp2
      obtain ⟨H4, hH4⟩ : ∃ H4, H4 = upd (upd H3 p (SetO w p (fun j => decide (j ∈ (lotAt L u0.1).map fun row => row.getD m 0)) cc)) p2 (.lst (out.map V.int)) := ⟨_, rfl⟩
      have s4 : Same H2 H4 := by rw [hH4]; exact (s3.trans (same_upd _ hp)).trans (same_upd _ hp2)
      have e4 : H4 p2 = some (.lst (out.map V.int)) := by rw [hH4]; exact upd_same
      have olen : out.length < 64 := by
        refine Nat.lt_of_le_of_lt (nodup_sub_len (m := (lotAt L u0.1).map fun row => row.getD m 0) (hsort.imp fun h => by omega) fun v hv => by simpa using (hmem v).mp hv) ?_
        rw [List.length_map]; omega
      have hout : ∀ g, SolK L r g → g (.tup [.num (m : Int), vv]) ∈ out := fun g hg => by
        refine (hmem _).mpr (decide_eq_true (List.mem_map.mpr ⟨_, hg u0 hu0, ?_⟩))
        rw [List.getD_eq_getElem?_getD, List.getElem?_map, hmp]; rfl
      have hn4 := s4 _ _ hn2
      have np2 : p2 ≠ nn := fun z => by
        have h2 : H2 p2 = none := s3.free (by rwa [upd_ne fun z => by rw [z, upd_same] at hp2; cases hp2] at hp2)
        rw [z, hn2] at h2; cases h2
      have k4 : Keep [nn] H H4 := k2.trans (Keep.of_same s4)
      refine ⟨p2, rfl, ⟨_, SqL.of upd_same⟩, ?_⟩
      refine for_it walkL (fun qi σ H' => ∃ v5 v6 v7 v8 v9 c', σ = [some (.ref d), some (.ref l), some (.ref t), some (.ref nn), some (.ref b), v5, v6, v7, v8, v9] ∧ Keep [nn] H4 H' ∧ H' nn = some (.lst [.int c']) ∧ ∀ q', q' < qi → ∀ v, out[q']? = some v → ¬∃ g, SolK L r g ∧ Agree L r i f' g ∧ g (.tup [.num (m : Int), vv]) = v) ⟨_, _, _, _, _, c + 1, rfl, by rw [hH4]; exact Keep.refl _ _, by have := hn4; rw [hH4] at this; exact this, fun q' h => absurd h (Nat.not_lt_zero _)⟩ (fun qi σ H' _ ⟨_, _, _, _, _, _, _, k, _⟩ => k _ _ e4 (by simpa using np2)) ?_ ?_
      · rintro qi x σ H5' H5 hqi ⟨v5, v6, v7, v8, v9, c', rfl, k5, hn5, hno⟩ ⟨rfl, hx⟩
        rw [List.getElem?_map] at hx
        obtain ⟨v, ev, rfl⟩ := Option.map_eq_some_iff.mp hx
        have htU : ∀ q ∈ tolV L r i f', q.1 ∈ keysU := fun q hq => by
          obtain ⟨k, hk, rfl⟩ := List.mem_map.mp hq
          exact pairsL_U hL hr1 k (List.mem_of_mem_take hk)
        have k45 : Keep [nn] H2 H5 := (Keep.of_same s4).trans k5
        have kt5 : KeepT H2 H5 := k45.keepT fun b hb ys e => by rw [List.mem_singleton.mp hb, hn2] at e; cases e
        have ht5 : NDr P w H5 t (tolV L r i f') := ht2.mono kt5 fun o e => k45 _ _ e (by simpa using nt)
        refine ⟨_, rfl, t, _, rfl, ht5, htU, fun p6 H6 hp6 s6 nd6 => ?_⟩
        have nx6 := NK.mono (kt5.trans (KeepT.of_same s6)) _ _ nx2
        refine ⟨_, rfl, _, rfl, _, rfl, p6, b, _, _, rfl, rfl, nd6, nx6, hdep, ?_, fun H7 k7 nd7 => ?_⟩
        · have h1 : (tolV L r i f').length ≤ (pairsL L r).length := by unfold tolV; rw [List.length_map, List.length_take]; omega
          have h2 : (pairsL L r).length ≤ 324 := nP_le hL hr1
          rw [sizeLine_eq]; omega
        rw [putK_tol hki] at nd7
        have s57 : Same H5 H7 := fun b o e => k7 _ _ (s6 _ _ e) (by rw [List.mem_singleton]; exact ne_of_none e hp6)
        have k27 : Keep [nn] H2 H7 := k45.trans (Keep.of_same s57)
        have kt7 : KeepT H2 H7 := kt5.trans (KeepT.of_same s57)
        have hbp7 : BP P w L r H7 d := (hbp2.keep hn2 k45).mono s57
        obtain ⟨o7, nd7d, ho7⟩ := id hbp7
        obtain ⟨rv7, erv7, nrv7⟩ := ho7 _ hkm
        have hvk7 : valV ((pairsL L r).map fun k => (k, V.ref (o7 k))) (.tup [.num (m : Int), vv]) = some (.ref (o7 (.tup [.num (m : Int), vv]))) := valV_map.trans (if_pos hkm)
        have hn7 := s57 _ _ hn5
        have rlen : rv7.length ≤ 108 := by rw [nrv7.lenK]; exact hasL_len hL hr1 _
        generalize hKK : NestedKey.tup [.num (m : Int), vv] = KK at *
        have next : (¬∃ g, SolK L r g ∧ Agree L r i f' g ∧ g KK = v) → ∀ q', q' < qi + 1 → ∀ v, out[q']? = some v → ¬∃ g, SolK L r g ∧ Agree L r i f' g ∧ g KK = v := fun h q' hq' v' ev' => by
          by_cases c : q' = qi
          · subst c; rw [ev] at ev'; cases ev'; exact h
          · exact hno q' (by omega) v' ev'
        have et : (pairsL L r).take (i + 1) = (pairsL L r).take i ++ [KK] := by rw [List.take_add_one, hki]; rfl
        have hnk : ∀ j ∈ (pairsL L r).take i, j ≠ KK := fun j hj z => by
          obtain ⟨q, hq, eq⟩ := at_take hj
          have := nodup_at (ksOf_nodup L _ : (pairsL L r).Nodup) eq (z ▸ hki)
          omega
        have agr : ∀ g, Agree L r i f' g → g KK = v → Agree L r (i + 1) (putF' f' KK v) g := fun g ha hg j hj => by
          rw [et] at hj
          unfold putF'
          rcases List.mem_append.mp hj with z | z
          · rw [if_neg (hnk j z)]; exact ha j z
          · rw [List.mem_singleton.mp z, if_pos rfl, hg]
        refine ⟨_, rfl, _, rfl, d, _, b, KK, _, rfl, rfl, nd7d.rd, NK.mono kt7 _ _ nx2, hdep, hvk7, _, rfl, ⟨_, SqL.of erv7⟩, fun D8 hD8 => lc_map walkL [] (by simp) (by omega) hD8 (fun H' k => k _ _ erv7 (by simp)) (fun j H' acc => acc = ((hasL L r KK).take j).map fun u => V.bl (fitB L ((pairsL L r).take (i + 1)) (putF' f' KK v) u)) rfl (fun j x H8' H8 acc Kf hj k hacc hl hR hY hK => ?_) (fun H8 acc k8 hacc hl8 hR => ?_)⟩
        · obtain ⟨rfl, hx⟩ := hY
          obtain ⟨u, eu, nu⟩ := nrv7.atK hx
          obtain ⟨ua, rfl⟩ := runK_ref nu
          have hu := hasL_mem.mp (List.mem_of_getElem? eu)
          have s8 : Same H7 H8 := Keep.same k
          refine ⟨rfl, _, rfl, _, rfl, p6, ua, L, r, (pairsL L r).take (i + 1), putF' f' KK v, u, rfl, NDr.same nd7.rd s8, NK.mono (KeepT.of_same s8) _ _ nu, hL, hr1, hu.1, fun H9 s9 => hK _ _ (Keep.of_same s9) ?_⟩
          rw [hR, List.take_add_one (l := hasL L r KK), eu, List.map_append]; rfl
        have s8 : Same H7 H8 := Keep.same k8
        rw [(List.take_of_length_le (by rw [nrv7.lenK]; exact Nat.le_refl _) : (hasL L r KK).take rv7.length = hasL L r KK)] at hR
        have hbs : acc = ((hasL L r KK).map (fitB L ((pairsL L r).take (i + 1)) (putF' f' KK v))).map V.bl := by rw [hR, List.map_map]; rfl
        rw [hbs] at hacc
        refine ⟨D8, _, rfl, hacc, _, rfl, ?_⟩
        have k48 : Keep [nn] H4 H8 := k5.trans (Keep.of_same (s57.trans s8))
        have hn8 := s8 _ _ hn7
        by_cases hall : ((hasL L r KK).map (fitB L ((pairsL L r).take (i + 1)) (putF' f' KK v))).all id = true
        · refine ite_t hall ?_
          have hfit : ∀ u ∈ runsL L r, KK ∈ prsR L u → fitB L ((pairsL L r).take (i + 1)) (putF' f' KK v) u = true := fun u hu hk => by
            have := List.all_eq_true.mp hall _ (List.mem_map.mpr ⟨u, hasL_mem.mpr ⟨hu, hk⟩, rfl⟩)
            simpa using this
          have l8 := s8 _ _ (k27 _ _ hl2 (by simpa using nln))
          refine ⟨_, rfl, _, rfl, _, rfl, l, _, rfl, SqL.of l8, fun le hle => ?_⟩
          rw [show (some (1 : Int)) = some ((1 : Nat) : Int) from rfl, cut_drop]
          have s9 : Same H8 (upd H8 le (.lst ((V.ref b :: xs).drop 1))) := same_upd _ hle
          have e9 : upd H8 le (.lst ((V.ref b :: xs).drop 1)) le = some (.lst xs) := upd_same
          generalize upd H8 le (.lst ((V.ref b :: xs).drop 1)) = H9 at s9 e9
          have k49 : Keep [nn] H4 H9 := k48.trans (Keep.of_same s9)
          have kt9 : KeepT H2 H9 := kt7.trans (KeepT.of_same (s8.trans s9))
          have hn9 := s9 _ _ hn8
          have k9 : Keep [nn] H H9 := k4.trans k49
          refine ⟨_, rfl, _, rfl, d, le, p6, nn, L, r, i + 1, putF' f' KK v, xs, c', rfl, hL, hr1, (hbp7.mono s8).mono s9, e9, ?_, ?_, (NDr.same nd7.rd s8).same s9, hn9, told_step hto hki hfit, fun c2 H10 k10 hn10 hno2 => ?_, fun t2 kvs c2 H10 k10 hn10 nd10 hs => ?_, fun c2 H10 k10 hn10 => ?_⟩
          · rw [edr]; exact NKs.mono kt9 _ _ nxs2
          · simp only [List.length_cons] at hlen; omega
          · refine ⟨_, rfl, _, rfl, ite_f rfl ⟨_, _, _, _, _, _, rfl, k49.trans k10, hn10, next ?_⟩⟩
            rintro ⟨g, hg, ha, hv⟩
            exact hno2 ⟨g, hg, agr g ha hv⟩
          · exact ⟨_, rfl, _, rfl, ite_t rfl ⟨_, rfl, qs _ _ _ _ (k9.trans k10) hn10 nd10 hs⟩⟩
          · exact ⟨_, rfl, _, rfl, ite_t rfl ⟨_, rfl, qo _ _ (k9.trans k10) hn10⟩⟩
        · refine ite_f (by simpa using hall) ⟨_, _, _, _, _, _, rfl, k48, hn8, next ?_⟩
          rintro ⟨g, hg, ha, hv⟩
          refine hall (List.all_eq_true.mpr fun x hx => ?_)
          obtain ⟨u, hu, rfl⟩ := List.mem_map.mp hx
          exact sol_fits hL hg (agr g ha hv) (hasL_mem.mp hu).1
      · rintro σ H5 ⟨v5, v6, v7, v8, v9, c', rfl, k5, hn5, hno⟩
        refine qn _ _ (k4.trans k5) hn5 ?_
        rintro ⟨g, hg, ha⟩
        obtain ⟨q', eq'⟩ := List.mem_iff_getElem?.mp (hout g hg)
        rw [List.length_map] at hno
        exact hno q' (List.getElem?_eq_some_iff.mp eq').1 _ eq' ⟨g, hg, ha, rfl⟩

/-- the search, whatever the length -/
theorem solved_all {f : Addr} {fd : FuncData} (F : Fun K "_law_solved" "_law_solved" s__law_solved f fd) (T : Txt K mg cT cR cS cA) (G : Fn P w K mg base 1 "_law_fits" ["_law_told", "_law_run"] (sp__law_fits P w)) (hm : mg "_law_solved" = some (.ref f)) (hk : PySem.W.keepIn K (.ref f) = true) (hb : Binds K fd ["_law_by_pair_here", "_law_left", "_law_told", "_law_turns"] []) :
    ∀ n, Fn P w K mg base (n + 4) "_law_solved" ["_law_by_pair_here", "_law_left", "_law_told", "_law_turns"] (sp__law_solved P w n)
  | 0 => by
    have sc : FnScope ["_law_by_pair_here", "_law_left", "_law_told", "_law_turns", "_law_pair", "_law_value", "_law_later", "_law_found", "_law_row", "_law_run"] ["_law_by_pair_here", "_law_left", "_law_told", "_law_turns"] (defScope s__law_solved) := sc_by (by decide +kernel)
    have no : ∀ {vs : List V} {H : Hp} {Q : VK} {E : XK}, ¬ sp__law_solved P w 0 vs H Q E := fun h => by
      obtain ⟨_, _, _, _, _, _, _, _, _, _, _, _, _, _, _, _, h, _⟩ := h
      exact absurd h (Nat.not_lt_zero _)
    exact Fn.of (F.ok sc (fun vs H Q E h => absurd h no) (fun cdv A outer s H vs Q E hr h => absurd h no)) hm hk hb
  | n + 1 => Fn.of (ok__law_solved F T G (solved_all F T G hm hk hb n)) hm hk hb
end
end S1

/-! LP: the law's own look at a table -/
namespace S1
open PySem L2
section
variable {P : Program} {w : World} {K : PySem.W.Frag} {mg : Str → Option Value} {base : Heap} {cT cR cS cA : Addr} {H H' : Hp}
theorem upd_back {d : Addr} {u x : HO} (h : H d = some u) : upd (upd H d x) d u = H := by
  funext b
  by_cases e : b = d
  · subst e; rw [upd_same, h]
  · rw [upd_ne e, upd_ne e]
theorem keepT_lock {d : Addr} {xs : List NEnt} {od : Obj} (h : H d = some (NDO P w d xs)) : KeepT H (upd H d (.frz od (NDO P w d xs))) := keepT_upd (NDO.noTup h)
theorem NDr.lock {d a : Addr} {xs : List NEnt} {od : Obj} {kvs : List (NestedKey × V)} (h : H d = some (NDO P w d xs)) (x : NDr P w H a kvs) : NDr P w (upd H d (.frz od (NDO P w d xs))) a kvs := by
  obtain ⟨ys, e, e2, n⟩ := x
  refine ⟨ys, ?_, e2, n.mono (keepT_lock h)⟩
  by_cases c : a = d
  · subst c
    rcases e with e | ⟨o, e⟩
    · rw [h] at e
      exact .inr ⟨od, by rw [upd_same, Option.some.inj e]⟩
    · rw [h] at e; cases e
  · rcases e with e | ⟨o, e⟩
    · exact .inl (by rw [upd_ne c]; exact e)
    · exact .inr ⟨o, by rw [upd_ne c]; exact e⟩
theorem Ty.lock {d : Addr} {xs : List NEnt} {od : Obj} {v : V} {t : String} (h : H d = some (NDO P w d xs)) (x : Ty P w K H v t) : Ty P w K (upd H d (.frz od (NDO P w d xs))) v t := by
  cases x with
  | non => exact .non
  | bl b => exact .bl b
  | int i => exact .int i
  | str z => exact .str z
  | tup e => exact .tup (by rw [upd_ne (fun z => by rw [z, h] at e; cases e)]; exact e)
  | lst e => exact .lst (by rw [upd_ne (fun z => by rw [z, h] at e; cases e)]; exact e)
  | nd e => exact .nd (NDr.lock h e)
abbrev s__law_is_table : Stmt := top 61
def sp__law_is_table (P : Program) (w : World) (K : PySem.W.Frag) : Sp := fun vs H Q _ => ∃ (l d : Addr) (v : V) (us : List V) (L : Lots) (r : Nat) (o : Option (List (NestedKey × V))), vs = [.ref l, .ref d, v] ∧ LotsOk L ∧ r ≤ 1 ∧ H l = some (.lst us) ∧ NKs H ((runsL L r).map (runK L)) us ∧ BP P w L r H d ∧ Thing P w K H v o ∧
  ∀ H', Same H H' → Q (.bl (isTab L r o)) H'
theorem ok__law_is_table {f : Addr} {fd : FuncData} (F : Fun K "_law_is_table" "_law_is_table" s__law_is_table f fd) (T : Txt K mg cT cR cS cA) : FnOk P w K mg base CX0 1 f fd ["_law_runs_here", "_law_by_pair_here", "_law_thing"] (sp__law_is_table P w K) := by
  have sc : FnScope ["_law_runs_here", "_law_by_pair_here", "_law_thing", "_law_pair", "_law_run"] ["_law_runs_here", "_law_by_pair_here", "_law_thing"] (defScope s__law_is_table) := sc_by (by decide +kernel)
  refine F.ok sc (fun vs H Q E h => ?_) (fun cdv A outer s H vs Q E hr h => ?_)
  · obtain ⟨_, _, _, _, _, _, _, rfl, _⟩ := h; rfl
  · obtain ⟨l, d, v, us, L, r, o, rfl, hL, hr1, hl, hus, hbp, hv, q⟩ := h
    have hu := hu9 hr
    have hu65 := hu65 hr
    have hu1 := hu1_of hr
    refine ⟨_, (pss_cons (ps_if (PW.pt (pw_or (pt_not (pt_val (pe_callB call_isT (by rfl) T.isinstance (by decide +kernel) (pa_cons (pv 2) (pa_cons (pe_bltn (v := .ty "dict") rfl T.dict (by decide +kernel) rfl) pa_nil))))) (pw_or1 (pt_cmpR op_ne (pe_callB call_lenN (by rfl) T.len (by decide +kernel) (pa_cons (pv 2) pa_nil)) (pe_callB call_lenN (by rfl) T.len (by decide +kernel) (pa_cons (pv 1) pa_nil)) (nomark _)))))
        (pss_one (ps_ret pe_bl))
        pss_nil)
      (pss_cons (ps_lock (ps_for PassesOwn.never rfl (pi_keysN (pv 1)) (pg_name (i := 3) sc.nd rfl (Or.inl rfl) (Or.inl rfl))
        (pss_one (ps_if (PW.pt (pw_or (pt_cmpR (by exact or_nninP P w hu) (pv 3) (pv 2) (by with_unfolding_all rfl)) (pw_or (pt_not (pt_val (pe_callB call_isT (by rfl) T.isinstance (by decide +kernel) (pa_cons (pe_ngetP P w hu (pv 2) (pv 3) (fun _ _ => rfl)) (pa_cons (pe_bltn (v := .ty "int") rfl T.int (by decide +kernel) rfl) pa_nil))))) (pw_or1 (pt_val (pe_callB call_isT (by rfl) T.isinstance (by decide +kernel) (pa_cons (pe_ngetP P w hu (pv 2) (pv 3) (fun _ _ => rfl)) (pa_cons (pe_bltn (v := .ty "bool") rfl T.bool (by decide +kernel) rfl) pa_nil))))))))
            (pss_one (ps_ret pe_bl))
            pss_nil))))
      (pss_one (ps_ret (pe_callB (allF rfl) (by rfl) T.all_ (by decide +kernel) (pa_cons (pe_lc (own := [("_law_run", 4)]) rfl sc.nd (pi_list (pv 0)) (blkOk_by (by kernel_rfl)) (fun _ _ _ _ _ => (pg_name (i := 4) sc.nd rfl (Or.inl rfl) (Or.inr rfl))) (fun _ _ _ _ _ => pts_nil) (fun _ _ _ _ _ => (pe_cmpR (by exact or_inTF hu65) (pe_callTy call_tupL (by rfl) T.tuple (by decide +kernel) (pa_cons (pe_lc (own := [("_law_pair", 3)]) rfl sc.nd (pi_tupP K (pe_ix ixt (pv 4) pe_int (fun _ _ => rfl))) (blkOk_by (by kernel_rfl)) (fun _ _ _ _ _ => (pg_name (i := 3) sc.nd rfl (Or.inl rfl) (Or.inr rfl))) (fun _ _ _ _ _ => pts_nil) (fun _ _ _ _ _ => (pe_ngetP P w hu (pv 2) (pv 3) (fun _ _ => rfl)))) pa_nil)) (pe_ix ixt (pv 4) pe_int (fun _ _ => rfl)) (by with_unfolding_all rfl)))) pa_nil)))))), ?_⟩
    have hnP := nP_le hL hr1
    have hmR := mR_le hL hr1
    obtain ⟨ob, ⟨ws, hd, hkv, hnk⟩, hob⟩ := id hbp
    have ndd : ND P w H d ((pairsL L r).map fun k => (k, .ref (ob k))) := ⟨ws, hd, hkv, hnk⟩
    cases hv with
    | other e hne =>
      refine ⟨_, rfl, v, _, "dict", false, rfl, e, ?_, _, rfl, ?_⟩
      · cases e with
        | non => exact kit_ty (by decide +kernel)
        | bl b => exact kit_ty (by decide +kernel)
        | int i => exact kit_ty (by decide +kernel)
        | str z => exact kit_ty (by decide +kernel)
        | tup e => exact kit_ty (by decide +kernel)
        | lst e => exact kit_ty (by decide +kernel)
        | nd e => exact absurd rfl hne
      · exact ite_t rfl (ite_t rfl (q _ (Same.refl _)))
    | @dict a kvs e hty =>
      refine ⟨_, rfl, .ref a, "dict", "dict", true, rfl, .nd e, kit_ty (by decide +kernel), _, rfl, ?_⟩
      refine ite_f rfl ?_
      refine ⟨_, rfl, a, kvs, rfl, e, _, rfl, d, _, rfl, ndd.rd, rfl, _, rfl, ?_⟩
      by_cases hl' : kvs.length = nP L r
      · refine ite_f (by rw [List.length_map, hl']; simp [nP]) ?_
        have key_at : ∀ {i : Nat} {en : NEnt}, ws[i]? = some en → (pairsL L r)[i]? = some en.1 ∧ NK H en.1 (.ref en.2.1) ∧ en.1.depth ≤ 8 := fun {i en} he => by
          have h1 : (kvOf ws)[i]? = some (en.1, en.2.2) := by unfold kvOf; rw [List.getElem?_map, he]; rfl
          rw [hkv, List.getElem?_map] at h1
          obtain ⟨k, hk, e1⟩ := Option.map_eq_some_iff.mp h1
          obtain ⟨e2, _⟩ := Prod.mk.inj e1
          have := hnk en (List.mem_of_getElem? he)
          exact ⟨by rw [hk, e2], this.1, this.2⟩
        have wlen : ws.length = (pairsL L r).length := by
          have := congrArg List.length hkv
          simpa [kvOf] using this
        refine ⟨d, NDO P w d ws, hd, trivial, fun od => ?_⟩
        have hlk : upd H d (.frz od (NDO P w d ws)) d = some (.frz od (NDO P w d ws)) := upd_same
        have eL := NDr.lock (od := od) hd e
        have bk : upd (upd H d (.frz od (NDO P w d ws))) d (NDO P w d ws) = H := upd_back hd
        have kL : KeepT H (upd H d (.frz od (NDO P w d ws))) := keepT_lock hd
        have tyL : ∀ p ∈ kvs, ∃ t, Ty P w K (upd H d (.frz od (NDO P w d ws))) p.2 t := fun p hp => let ⟨t, ht⟩ := hty p hp; ⟨t, Ty.lock hd ht⟩
        generalize upd H d (.frz od (NDO P w d ws)) = HL at hlk eL bk kL tyL
        refine ⟨_, rfl, d, od, ws, rfl, hlk, for_it walk_keysN (fun i σ H' => ∃ v3, σ = [some (.ref l), some (.ref d), some (.ref a), v3, none] ∧ H' = HL ∧ ((pairsL L r).take i).all (fun k => isIntV ((valV kvs k).getD .non)) = true) ⟨none, rfl, rfl, rfl⟩ (fun i σ H' _ ⟨_, _, h, _⟩ => by rw [h]; exact hlk) ?_ ?_⟩
        · rintro i x σ H2 H3 hi ⟨v3, rfl, rfl, hsofar⟩ ⟨rfl, en, hen, rfl⟩
          obtain ⟨hk, nk, hdep⟩ := key_at hen
          have hkm := List.mem_of_getElem? hk
          have nkL := NK.mono kL _ _ nk
          generalize en.1 = key at hk nk nkL hdep hkm
          have bad : isIntV ((valV kvs key).getD .non) = false → isTab L r (some kvs) = false := fun h => by
            have : (pairsL L r).all (fun k => isIntV ((valV kvs k).getD .non)) = false := by
              rw [List.all_eq_false]; exact ⟨key, hkm, by rw [h]; decide⟩
            simp only [isTab, tabOk, this, Bool.and_false, Bool.false_and]
          have qbad : isIntV ((valV kvs key).getD .non) = false → Q (.bl false) H := fun h => by
            rw [bad h] at q; exact q _ (Same.refl _)
          refine ⟨_, rfl, _, rfl, a, kvs, en.2.1, key, rfl, rfl, eL, nkL, hdep, _, rfl, ?_⟩
          cases hv : valV kvs key with
          | none =>
            refine ite_t rfl ⟨hlk, ?_⟩
            rw [bk]; exact qbad (by rw [hv]; rfl)
          | some z =>
            refine ite_f rfl ?_
            obtain ⟨tz, htz⟩ := tyL _ (valV_mem hv)
            have hii := htz.int_iff
            cases htz with
            | int i =>
              refine ⟨_, rfl, _, rfl, a, kvs, en.2.1, key, .int i, rfl, rfl, eL, nkL, hdep, hv, .int i, "int", "int", true, rfl, .int i, kit_ty (by decide +kernel), _, rfl, ite_f rfl ?_⟩
              refine ⟨_, rfl, _, rfl, a, kvs, en.2.1, key, .int i, rfl, rfl, eL, nkL, hdep, hv, .int i, "int", "bool", false, rfl, .int i, kit_ty (by decide +kernel), _, rfl, ite_f rfl ?_⟩
              refine ⟨_, rfl, rfl, ?_⟩
              rw [List.take_add_one, hk, List.all_append, hsofar]
              simp [hv, isIntV]
            | bl b =>
              refine ⟨_, rfl, _, rfl, a, kvs, en.2.1, key, .bl b, rfl, rfl, eL, nkL, hdep, hv, .bl b, "bool", "int", true, rfl, .bl b, kit_ty (by decide +kernel), _, rfl, ite_f rfl ?_⟩
              refine ⟨_, rfl, _, rfl, a, kvs, en.2.1, key, .bl b, rfl, rfl, eL, nkL, hdep, hv, .bl b, "bool", "bool", true, rfl, .bl b, kit_ty (by decide +kernel), _, rfl, ite_t rfl ⟨hlk, ?_⟩⟩
              rw [bk]; exact qbad (by rw [hv]; rfl)
            | non =>
              refine ⟨_, rfl, _, rfl, a, kvs, en.2.1, key, .non, rfl, rfl, eL, nkL, hdep, hv, .non, "NoneType", "int", false, rfl, .non, kit_ty (by decide +kernel), _, rfl, ite_t rfl ?_⟩
              refine ite_t rfl ⟨hlk, ?_⟩
              rw [bk]; exact qbad (by rw [hv]; rfl)
            | str x =>
              refine ⟨_, rfl, _, rfl, a, kvs, en.2.1, key, .str x, rfl, rfl, eL, nkL, hdep, hv, .str x, "str", "int", false, rfl, .str x, kit_ty (by decide +kernel), _, rfl, ite_t rfl ?_⟩
              refine ite_t rfl ⟨hlk, ?_⟩
              rw [bk]; exact qbad (by rw [hv]; rfl)
            | @tup b xs e2 =>
              refine ⟨_, rfl, _, rfl, a, kvs, en.2.1, key, .ref b, rfl, rfl, eL, nkL, hdep, hv, .ref b, "tuple", "int", false, rfl, .tup e2, kit_ty (by decide +kernel), _, rfl, ite_t rfl ?_⟩
              refine ite_t rfl ⟨hlk, ?_⟩
              rw [bk]; exact qbad (by rw [hv]; rfl)
            | @lst b xs e2 =>
              refine ⟨_, rfl, _, rfl, a, kvs, en.2.1, key, .ref b, rfl, rfl, eL, nkL, hdep, hv, .ref b, "list", "int", false, rfl, .lst e2, kit_ty (by decide +kernel), _, rfl, ite_t rfl ?_⟩
              refine ite_t rfl ⟨hlk, ?_⟩
              rw [bk]; exact qbad (by rw [hv]; rfl)
            | @nd b kvs2 e2 =>
              refine ⟨_, rfl, _, rfl, a, kvs, en.2.1, key, .ref b, rfl, rfl, eL, nkL, hdep, hv, .ref b, "dict", "int", false, rfl, .nd e2, kit_ty (by decide +kernel), _, rfl, ite_t rfl ?_⟩
              refine ite_t rfl ⟨hlk, ?_⟩
              rw [bk]; exact qbad (by rw [hv]; rfl)
        · rintro σ H2 ⟨v3, rfl, rfl, hall⟩
          rw [wlen, List.take_of_length_le (Nat.le_refl _)] at hall
          refine ⟨hlk, ?_⟩
          rw [bk]
          have hall' := List.all_eq_true.mp hall
          refine ⟨_, rfl, l, rfl, ⟨_, SqL.of hl⟩, fun D hD => lc_map walkL [] (by simp) (by rw [hus.lenK]; unfold mR at hmR; omega) hD (fun H' k => k _ _ hl (by simp)) (fun i H' acc => acc = ((runsL L r).take i).map fun u => V.bl (decide (rowOf kvs (prsR L u) ∈ lotAt L u.1))) rfl (fun i x H1' H1 acc Kf hi k hacc hl2 hR hY hK => ?_) (fun H1 acc k hacc hl2 hR => ?_)⟩
          · obtain ⟨rfl, hx⟩ := hY
            obtain ⟨u, eu, nu⟩ := hus.atK hx
            have hu := List.mem_of_getElem? eu
            have s1 : Same H H1 := Keep.same k
            obtain ⟨c, cs, rfl, gc, hcs⟩ := id nu
            obtain ⟨y1, _, rfl, m1, y2, _, rfl, m2, y3, _, rfl, m3, y4, _, rfl, m4, rfl⟩ := id hcs
            obtain ⟨pt, ps, rfl, gp, hps⟩ := id m3
            obtain ⟨lt, ls, rfl, gl, hls⟩ := id m4
            have plen := hps.len
            have u3 := prsR_len3 hL hu
            refine ⟨rfl, _, rfl, _, _, 2, _, rfl, rfl, s1 _ _ gc, rfl, pt, rfl, ⟨_, SqT.of (s1 _ _ gp)⟩, fun D2 hD2 => lc_map walkT [] (by simp) (by omega) hD2 (fun H' k => k _ _ (s1 _ _ gp) (by simp)) (fun j H' acc => acc = (rowOf kvs ((prsR L u).take j)).map V.int) rfl (fun j x H2' H2 acc2 Kf2 hj k2 hacc2 hl3 hR2 hY2 hK2 => ?_) (fun H2 acc2 k2 hacc2 hl3 hR2 => ?_)⟩
            · obtain ⟨rfl, hx2⟩ := hY2
              obtain ⟨key, ekey, nkey⟩ := hps.at hx2
              have s2 : Same H1 H2 := Keep.same k2
              have s12 := s1.trans s2
              have hkm := prsR_sub hu key (List.mem_of_getElem? ekey)
              have hU := keysU_depth _ (pairsL_U hL hr1 _ hkm)
              have hint := hall' key hkm
              obtain ⟨mm, vv, rfl, _, _⟩ := pair_form hL hu (List.mem_of_getElem? ekey)
              obtain ⟨ka, kas, rfl, gka, hkas⟩ := id nkey
              obtain ⟨z, hz⟩ : ∃ z : Int, valV kvs (.tup [.num (mm : Int), vv]) = some (.int z) := by
                cases hv : valV kvs (.tup [.num (mm : Int), vv]) with
                | none => rw [hv] at hint; cases hint
                | some y =>
                  rw [hv] at hint
                  cases y with
                  | int z => exact ⟨z, rfl⟩
                  | _ => cases hint
              refine ⟨rfl, _, rfl, _, rfl, a, kvs, ka, _, .int z, rfl, rfl, NDr.same e s12, NK.mono (KeepT.of_same s12) _ _ nkey, hU, hz, hK2 _ _ (Keep.refl _ _) ?_⟩
              rw [hR2, List.take_add_one, ekey]
              simp [rowOf, hz, intV]
            have s2 : Same H1 H2 := Keep.same k2
            rw [List.take_of_length_le (by omega)] at hR2
            refine ⟨D2, _, rfl, hacc2, fun t6 H6 s6 e6 => ?_⟩
            have s26 := (s1.trans s2).trans s6
            refine ⟨_, rfl, c, _, 3, _, rfl, rfl, s26 _ _ gc, rfl, lt, ls, (lotAt L u.1).map rowK, rowK (rowOf kvs (prsR L u)), rfl, s26 _ _ gl, NKs.mono (KeepT.of_same s26) _ _ hls, NK.row.mpr ⟨t6, rfl, by rw [e6, hR2]⟩, by have := depth_row (rowOf kvs (prsR L u)); omega, hK _ _ (Keep.of_same (s2.trans s6)) ?_⟩
            have hinj : rowK (rowOf kvs (prsR L u)) ∈ (lotAt L u.1).map rowK ↔ rowOf kvs (prsR L u) ∈ lotAt L u.1 := by
              rw [List.mem_map]
              constructor
              · rintro ⟨y, hy, e⟩
                have := (List.map_inj_right (fun a b h => NestedKey.num.inj h)).mp (NestedKey.tup.inj e)
                rw [← this]; exact hy
              · exact fun h => ⟨_, h, rfl⟩
            rw [hR, List.take_add_one, eu, List.map_append]
            simp [hinj]
          · rw [List.take_of_length_le (by rw [hus.lenK]; exact Nat.le_refl _)] at hR
            have hbs : acc = ((runsL L r).map fun u => decide (rowOf kvs (prsR L u) ∈ lotAt L u.1)).map V.bl := by rw [hR, List.map_map]; rfl
            rw [hbs] at hacc
            refine ⟨D, _, rfl, hacc, ?_⟩
            have h1 : (((runsL L r).map fun u => decide (rowOf kvs (prsR L u) ∈ lotAt L u.1)).all id) = isTab L r (some kvs) := by
              rw [List.all_map]
              simp only [isTab, tabOk, hl', hall, decide_true, Bool.true_and]
              rfl
            rw [h1]
            exact q _ (Keep.same k)
      · have : isTab L r (some kvs) = false := by simp [isTab, tabOk, hl']
        rw [this] at q
        exact ite_t (by rw [List.length_map]; unfold nP at hl'; simp; omega) (q _ (Same.refl _))

end
end S1

/-! LQ: the law's few lots -/
namespace S1
open PySem L2
theorem lexLt_irrefl : ∀ a : List Int, HT.lexLt a a = false
  | [] => rfl
  | x :: xs => by simp only [HT.lexLt, if_true]; exact lexLt_irrefl xs
theorem rising_nodup {ls : List (List Int)} (h : Rising ls) : ls.Nodup := by
  rw [List.nodup_iff_pairwise_ne]
  refine List.Pairwise.imp (fun {a b} hab e => ?_) h
  rw [e, lexLt_irrefl] at hab; cases hab
theorem pe_weak {X : Cx} {e : Expr} {t t' : TE} (h : PE X e t) (k : ∀ σ H Q, t' σ H Q → t σ H Q) : PE X e t' := ⟨fun pins s σ H Q I hw => h.run pins s σ H Q I (k σ H Q hw)⟩
theorem pt_weak {X : Cx} {e : Expr} {t t' : TT} (h : PT X e t) (k : ∀ σ H Q, t' σ H Q → t σ H Q) : PT X e t' := ⟨fun pins s σ H Q I hw => h.run pins s σ H Q I (k σ H Q hw)⟩
def tMost : TE := fun σ H Q => ∃ (p c : Addr) (bw : Bool), σ[0]? = some (some (V.ref p)) ∧ σ[2]? = some (some (V.int 4)) ∧ σ[4]? = some (some (V.bl bw)) ∧ Pot H p c ∧ ∀ (n : Nat) H', n ≤ 3 → Keep [p] H H' → Pot H' p c → Q (.int n) H'
def tCell : TE := fun σ H Q => ∃ (p c : Addr) (bw : Bool), σ[0]? = some (some (V.ref p)) ∧ σ[4]? = some (some (V.bl bw)) ∧ Pot H p c ∧ ∀ (n : Nat) H', n ≤ 2 → Keep [p] H H' → Pot H' p c → Q (.int n) H'
def tKind : TT := fun σ H Q => ∃ (p c : Addr) (bw : Bool) (kd : Nat), σ[0]? = some (some (V.ref p)) ∧ σ[4]? = some (some (V.bl bw)) ∧ σ[9]? = some (some (V.int (kd : Int))) ∧ Pot H p c ∧ ∀ b H', Keep [p] H H' → Pot H' p c → Q b H'
/-- a list of rows, its own -/
structure FL (H H' : Hp) (p c rl : Addr) (vs : List V) (rs : List (List Int)) (n : Nat) : Prop where
  k : Keep [p] H H'
  pot : Pot H' p c
  z : H rl = none
  e : H' rl = some (.lst vs)
  nk : NKs H' (rs.map rowK) vs
  r3 : ∀ r ∈ rs, Row3 r
  len : rs.length = n
theorem set_sortT {K : PySem.W.Frag} {P : Program} {w : World} {H : Hp} {l : Addr} {vs : List V} {rs : List (List Int)} {Q : VK} (hl : H l = some (.tup vs)) (hv : NKs H (rs.map rowK) vs) (h3 : ∀ r ∈ rs, Row3 r) (hn : rs.length < 64)
    (q : ∀ p H' ls vs', Same H H' → H' p = some (.lst vs') → NKs H' (ls.map rowK) vs' → Rising ls → (∀ r, r ∈ ls ↔ r ∈ rs) → ls.length ≤ 27 → Q (.ref p) H') : rSetTupT K P w [.ref l] H (fun x H1 => rSortedT K P w [x] H1 Q) := by
  obtain ⟨ks, rfl, rfl, hk⟩ := rows_of hv
  refine ⟨l, ks, rfl, SqT.of hl, fun p hp => SqT.of (hk p hp), by simpa using hn, fun a L ha h1 h2 => ?_⟩
  have s1 : Same H (upd H a (SetTO P w a L)) := same_upd _ ha
  have hLk : ∀ p ∈ L, (upd H a (SetTO P w a L)) p.1 = some (.tup (p.2.map V.int)) := fun p hp => s1 _ _ (hk p (h1 p hp))
  have hL3 : ∀ p ∈ L, Row3 p.2 := fun p hp => h3 p.2 (List.mem_map.mpr ⟨p, h1 p hp, rfl⟩)
  refine ⟨a, L, 3, 3, rfl, upd_same, fun p hp => SqT.of (hLk p hp), by decide, fun p hp => ⟨(hL3 p hp).1, fun m hm => by have := (hL3 p hp).2 m hm; omega⟩, fun L' p hperm hnd hlen hpw hp => ?_⟩
  have s2 : Same (upd H a (SetTO P w a L)) (upd (upd H a (SetTO P w a L)) p (.lst (L'.map fun q => V.ref q.1))) := same_upd _ hp
  have hm' : ∀ q ∈ L', q ∈ L := fun q hq => hperm.mem_iff.mp hq
  refine q p _ (L'.map (·.2)) _ (s1.trans s2) upd_same (of_rows fun q hq => s2 _ _ (hLk q (hm' q hq))) ?_ (fun r => ?_) ?_
  · unfold Rising
    rw [List.pairwise_map]
    have hnd' := List.pairwise_map.mp (List.nodup_iff_pairwise_ne.mp hnd)
    have := hpw.and hnd'
    exact List.Pairwise.imp_of_mem (fun {x y} hx hy h => row_code (hL3 x (hm' x hx)) (hL3 y (hm' y hy)) h.1 h.2) this
  · constructor
    · intro hr
      obtain ⟨q, hq, rfl⟩ := List.mem_map.mp hr
      exact List.mem_map.mpr ⟨q, h1 q (hm' q hq), rfl⟩
    · intro hr
      obtain ⟨q, hq, rfl⟩ := List.mem_map.mp hr
      obtain ⟨q', hq', e⟩ := List.mem_map.mp (h2 q hq)
      exact List.mem_map.mpr ⟨q', hperm.mem_iff.mpr hq', e⟩
  · refine Nat.le_trans (nodup_sub_len (m := rows3) hnd fun r hr => ?_) (by decide)
    obtain ⟨q, hq, rfl⟩ := List.mem_map.mp hr
    exact row3_mem (hL3 q (hm' q hq))
section
variable {P : Program} {w : World} {K : PySem.W.Frag} {mg : Str → Option Value} {base : Heap} {cT cR cS cA : Addr}
abbrev s__law_few_lots : Stmt := top 62
def sp__law_few_lots : Sp := fun vs H Q _ => ∃ (p c : Addr), vs = [.ref p, .int 3, .int 4, .int 5] ∧ Pot H p c ∧ ∀ (t : Addr) (L : Lots) H', Keep [p] H H' → Pot H' p c → LotsOk L → NK H' (lotsK L) (.ref t) → Q (.ref t) H'
theorem ok__law_few_lots {f : Addr} {fd : FuncData} (F : Fun K "_law_few_lots" "_law_few_lots" s__law_few_lots f fd) (T : Txt K mg cT cR cS cA) (G__law_draw : Fn P w K mg base 1 "_law_draw" ["_law_pot_here", "_law_many"] sp__law_draw) (G__law_any : Fn P w K mg base 2 "_law_any" ["_law_pot_here", "_law_things"] sp__law_any) (G__law_lot : Fn P w K mg base 3 "_law_lot" ["_law_pot_here", "_law_many", "_law_values", "_law_most"] sp__law_lot) : FnOk P w K mg base CX0 4 f fd ["_law_pot_here", "_law_many", "_law_most", "_law_rows"] sp__law_few_lots := by
  have sc : FnScope ["_law_pot_here", "_law_many", "_law_most", "_law_rows", "_law_is_walk", "_law_inputs", "_law_place", "_law_turn", "_law_row", "_law_kind", "_law_found", "_law_lot_here", "_law_value"] ["_law_pot_here", "_law_many", "_law_most", "_law_rows"] (defScope s__law_few_lots) := sc_by (by decide +kernel)
  refine F.ok sc (fun vs H Q E h => ?_) (fun cdv A outer s H vs Q E hr h => ?_)
  · obtain ⟨_, _, rfl, _⟩ := h; rfl
  · obtain ⟨p, c, rfl, hp, q⟩ := h
    have hu := hu9 hr
    have hu65 := hu65 hr
    have hu1 := hu1_of hr
    refine ⟨_, (pss_cons (ps_par rfl sc.nd (i := 4) (j := 5) rfl rfl (by decide) rfl rfl (pa_cons (pe_cmpR op_eq (pe_fn G__law_draw (hr.mono (by decide)) rfl (pa_cons (pv 0) (pa_cons pe_int pa_nil))) pe_int (nomark _)) (pa_cons (pe_lst (pa_cons (pe_op op_repF (pe_tup (pa_cons pe_int pa_nil)) (pv 1)) pa_nil)) pa_nil)) rfl)
      (C8.pss_cut (ps_if (pt_not (pt_val (pv 4)))
        (pss_one (ps_set (i := 5) sc.nd rfl (Or.inl rfl) (pe_lst (pa_cons (pe_callTy call_tupL (by rfl) T.tuple (by decide +kernel) (pa_cons (pe_lc (own := [("_law_place", 6)]) rfl sc.nd (pi_range1 (by rfl) T.range (pa_cons (pv 1) pa_nil)) (blkOk_by (by kernel_rfl)) (fun _ _ _ _ _ => (pg_name (i := 6) sc.nd rfl (Or.inl rfl) (Or.inr rfl))) (fun _ _ _ _ _ => pts_nil) (fun _ _ _ _ _ => (pe_fn G__law_draw (hr.mono (by decide)) rfl (pa_cons (pv 0) (pa_cons pe_int pa_nil))))) pa_nil)) pa_nil))))
        pss_nil)
      (pss_cons (ps_for PassesOwn.never rfl (pi_range1 (by rfl) T.range (pa_cons (pe_weak (t' := tMost) (pe_ifExp (pt_val (pv 4)) (pe_op op_sub (pv 2) pe_int) (pe_fn G__law_draw (hr.mono (by decide)) rfl (pa_cons (pv 0) (pa_cons (pv 2) pa_nil)))) (by rintro σ H Q ⟨p, c, bw, h0, h2, h4, hp, h⟩; cases bw with | false => exact ⟨_, h4, _, rfl, ite_f rfl ⟨_, h0, _, h2, p, c, 4, rfl, hp, by decide, by decide, fun z H' k hp' hz => h z H' (by omega) k hp'⟩⟩ | true => exact ⟨_, h4, _, rfl, ite_t rfl ⟨_, h2, _, _, rfl, rfl, h 3 H (by decide) (Keep.refl _ _) hp⟩⟩)) pa_nil)) (pg_name (i := 7) sc.nd rfl (Or.inl rfl) (Or.inl rfl))
        (pss_cons (ps_par rfl sc.nd (i := 8) (j := 6) rfl rfl (by decide) rfl rfl (pa_cons (pe_ix ixlast (pv 5) (pe_un un_neg pe_int) (fun _ _ => rfl)) (pa_cons (pe_op op_mod (pe_callTy call_int1 (by rfl) T.int (by decide +kernel) (pa_cons (pv 7) pa_nil)) (pv 1)) pa_nil)) rfl)
          (C8.pss_cut (ps_if (pt_not (pt_val (pv 4)))
            (pss_one (ps_par rfl sc.nd (i := 8) (j := 6) rfl rfl (by decide) rfl rfl (pa_cons (pe_fn G__law_any (hr.mono (by decide)) rfl (pa_cons (pv 0) (pa_cons (pv 5) pa_nil))) (pa_cons (pe_fn G__law_draw (hr.mono (by decide)) rfl (pa_cons (pv 0) (pa_cons (pv 1) pa_nil))) pa_nil)) rfl))
            pss_nil)
          (pss_one (ps_expr (pe_bm PySem.F.plainAttrs_list PySem.F.slot_list_append PySem.F.type_list_append mt_append (pv 5) (pa_cons (pe_op op_catI (pe_op op_catI (pe_slice sl_imm (pv 8) po_none (po_some (pv 6))) (pe_tup (pa_cons (pe_weak (t' := tCell) (pe_ifExp (pt_val (pv 4)) pe_int (pe_fn G__law_draw (hr.mono (by decide)) rfl (pa_cons (pv 0) (pa_cons pe_int pa_nil)))) (by rintro σ H Q ⟨p, c, bw, h0, h4, hp, h⟩; cases bw with | false => exact ⟨_, h4, _, rfl, ite_f rfl ⟨_, h0, p, c, 3, rfl, hp, by decide, by decide, fun z H' k hp' hz => h z H' (by omega) k hp'⟩⟩ | true => exact ⟨_, h4, _, rfl, ite_t rfl (h 1 H (by decide) (Keep.refl _ _) hp)⟩)) pa_nil))) (pe_slice sl_imm (pv 8) (po_some (pe_op op_add (pv 6) pe_int)) po_none)) pa_nil)))))))
      (pss_cons (ps_par rfl sc.nd (i := 9) (j := 10) rfl rfl (by decide) rfl rfl (pa_cons (pe_fn G__law_draw (hr.mono (by decide)) rfl (pa_cons (pv 0) (pa_cons pe_int pa_nil))) (pa_cons (pe_lst pa_nil) pa_nil)) rfl)
      (pss_cons (ps_for PassesOwn.never rfl (pi_list (pe_callB (cr_sortedT rfl) (by rfl) T.sorted (by decide +kernel) (pa_cons (pe_callTy (cr_setOfT rfl hr.units) (by rfl) T.set (by decide +kernel) (pa_cons (pv 5) pa_nil)) pa_nil))) (pg_name (i := 8) sc.nd rfl (Or.inl rfl) (Or.inl rfl))
        (pss_cons (ps_set (i := 11) sc.nd rfl (Or.inl rfl) (pe_fn G__law_lot (hr.mono (by decide)) rfl (pa_cons (pv 0) (pa_cons (pv 1) (pa_cons pe_int (pa_cons (pv 3) pa_nil))))))
          (C8.pss_cut (ps_if (pt_weak (t' := tKind) (PW.pt (pw_or (pt_cmpR op_eq (pv 9) pe_int (nomark _)) (pw_or1 (PW.pt (pw_and (pt_val (pv 4)) (pw_and1 (pt_cmpR op_gt (pe_fn G__law_draw (hr.mono (by decide)) rfl (pa_cons (pv 0) (pa_cons pe_int pa_nil))) pe_int (nomark _)))))))) (by rintro σ H Q ⟨p, c, bw, kd, h0, h4, h9, hp, h⟩; refine ⟨_, h9, rfl, _, rfl, ?_⟩; refine ite_any (h _ H (Keep.refl _ _) hp) ?_; refine ⟨_, h4, _, rfl, ?_⟩; cases bw with | false => exact ite_f rfl (h _ H (Keep.refl _ _) hp) | true => exact ite_t rfl ⟨_, h0, p, c, 5, rfl, hp, by decide, by decide, fun z H' k hp' hz => ⟨_, _, rfl, rfl, _, rfl, h _ H' k hp'⟩⟩))
            (pss_one (ps_set (i := 11) sc.nd rfl (Or.inl rfl) (pe_callTy call_tupL (by rfl) T.tuple (by decide +kernel) (pa_cons (pe_callB (cr_sortedT rfl) (by rfl) T.sorted (by decide +kernel) (pa_cons (pe_callTy (cr_setOfT rfl hr.units) (by rfl) T.set (by decide +kernel) (pa_cons (pe_lc (own := [("_law_value", 12)]) rfl sc.nd (pi_tup (pv 8)) (blkOk_by (by kernel_rfl)) (fun _ _ _ _ _ => (pg_name (i := 12) sc.nd rfl (Or.inl rfl) (Or.inr rfl))) (fun _ _ _ _ _ => pts_nil) (fun _ _ _ _ _ => (pe_op op_repF (pe_tup (pa_cons (pv 12) pa_nil)) (pv 1)))) pa_nil)) pa_nil)) pa_nil))))
            (pss_one (ps_if (pt_cmpR op_eq (pv 9) pe_int (nomark _))
                (pss_one (ps_set (i := 11) sc.nd rfl (Or.inl rfl) (pe_callTy call_tupL (by rfl) T.tuple (by decide +kernel) (pa_cons (pe_callB (cr_sortedT rfl) (by rfl) T.sorted (by decide +kernel) (pa_cons (pe_callTy (cr_setTupT rfl hr.units) (by rfl) T.set (by decide +kernel) (pa_cons (pe_op op_catI (pv 11) (pe_tup (pa_cons (pv 8) pa_nil))) pa_nil)) pa_nil)) pa_nil))))
                pss_nil)))
          (pss_one (ps_expr (pe_bm PySem.F.plainAttrs_list PySem.F.slot_list_append PySem.F.type_list_append mt_append (pv 10) (pa_cons (pe_tup (pa_cons (pv 8) (pa_cons (pv 11) pa_nil))) pa_nil)))))))
      (pss_one (ps_ret (pe_callTy call_tupL (by rfl) T.tuple (by decide +kernel) (pa_cons (pv 10) pa_nil))))))))), ?_⟩
    refine ⟨_, rfl, p, c, 2, rfl, hp, by decide, by decide, fun z H1 k1 hp1 hz => ⟨rfl, by show 1 ≤ sizeLine; decide, fun t0 ht0 => ⟨_, rfl, t0, 3, _, rfl, rfl, upd_same, by simp, by decide, by decide, by decide, fun t1 ht1 => ⟨by show 1 ≤ sizeLine; decide, fun rl hrl => ⟨_, _, rfl, ?_⟩⟩⟩⟩⟩
    generalize decide (V.int (z : Int) = V.int 0) = bw
    have sa : Same H1 (upd H1 t0 (.tup [V.int 0])) := same_upd _ ht0
    have sb := sa.trans (same_upd (.tup [V.int 0, V.int 0, V.int 0]) ht1)
    have sc' := sb.trans (same_upd (.lst [V.ref t1]) hrl)
    have pot0 : Pot _ p c := hp1.mono sc'
    have e1 : upd (upd (upd H1 t0 (.tup [V.int 0])) t1 (.tup [V.int 0, V.int 0, V.int 0])) rl (.lst [V.ref t1]) rl = some (.lst [V.ref t1]) := upd_same
    have e2 : upd (upd (upd H1 t0 (.tup [V.int 0])) t1 (.tup [V.int 0, V.int 0, V.int 0])) rl (.lst [V.ref t1]) t1 = some (.tup [V.int 0, V.int 0, V.int 0]) := same_upd _ hrl _ _ upd_same
    have zz : ∀ {H' : Hp} {x : Addr}, Keep [p] H H' → Pot H' p c → H' x = none → H x = none := fun {H' x} k hp hx => by
      cases e : H x with
      | none => rfl
      | some o =>
        have := k x o e (by simpa using (hp.ne hx).1)
        rw [hx] at this; cases this
    have zrl : H rl = none := zz (k1.trans (Keep.of_same sb)) (hp1.mono sb) hrl
    have F0 : FL H (upd (upd (upd H1 t0 (.tup [V.int 0])) t1 (.tup [V.int 0, V.int 0, V.int 0])) rl (.lst [V.ref t1])) p c rl [V.ref t1] [[0, 0, 0]] 1 :=
      ⟨k1.trans (Keep.of_same sc'), pot0, zrl, e1, ⟨_, _, rfl, NK.row.mpr ⟨t1, rfl, e2⟩, rfl⟩, fun r hr => by rw [List.mem_singleton.mp hr]; exact ⟨rfl, by simp⟩, rfl⟩
    refine ⟨fun σ' H' => ∃ (rl : Addr) (vs : List V) (rs : List (List Int)) (v6 v7 v8 v9 v10 v11 v12 : Option V), σ' = [some (.ref p), some (.int 3), some (.int 4), some (.int 5), some (.bl bw), some (.ref rl), v6, v7, v8, v9, v10, v11, v12] ∧ FL H H' p c rl vs rs 1, ?_, ?_⟩
    · refine ⟨_, rfl, _, rfl, ?_⟩
      refine ite_any ?_ ⟨rl, _, _, _, _, _, _, _, _, _, rfl, F0⟩
      refine ⟨_, rfl, 3, rfl, by decide, by decide, fun D hD => lc_map (walkR (n := 3)) [p] (by simp; exact pot0.nn) (by decide) hD (fun _ _ => trivial) (fun i H' acc => Pot H' p c ∧ ∃ ns : List Int, acc = ns.map V.int ∧ ns.length = i ∧ ∀ x ∈ ns, 0 ≤ x ∧ x ≤ 2) ⟨pot0.mono (same_upd _ hD), [], rfl, rfl, by simp⟩ (fun i x H1' H1 acc Kf hi k hacc hl hR hY hK => ?_) (fun H5 acc k hacc hl hR => ?_)⟩
      · obtain ⟨rfl, rfl⟩ := hY
        obtain ⟨hp1, ns, rfl, hl1, hb⟩ := hR
        obtain ⟨n1, n2⟩ := pot0.ne hD
        refine ⟨rfl, _, rfl, p, c, 2, rfl, hp1, by decide, by decide, fun z H2 k2 hp2 hz => hK _ _ k2 ⟨hp2.upd' _ n1 n2, ns ++ [(z : Int)], by simp, by simp [hl1], fun x hx => ?_⟩⟩
        rcases List.mem_append.mp hx with h | h
        · exact hb x h
        · rw [List.mem_singleton.mp h]; omega
      obtain ⟨hp5, ns, rfl, hl5, hb5⟩ := hR
      refine ⟨D, _, rfl, hacc, fun t5 H6 s6 e6 => ⟨by show 1 ≤ sizeLine; decide, fun r6 hr6 => ?_⟩⟩
      have s7 : Same H6 (upd H6 r6 (.lst [V.ref t5])) := same_upd _ hr6
      have k6 : Keep [p] H H6 := (F0.k.trans k).trans (Keep.of_same s6)
      exact ⟨r6, _, [ns], _, _, _, _, _, _, _, rfl, k6.trans (Keep.of_same s7), (hp5.mono s6).mono s7, zz k6 (hp5.mono s6) hr6, upd_same, ⟨_, _, rfl, NK.row.mpr ⟨t5, rfl, s7 _ _ e6⟩, rfl⟩, fun r hr => by rw [List.mem_singleton.mp hr]; exact ⟨hl5, hb5⟩, rfl⟩
    clear F0 e1 e2 pot0 sc' sb sa zrl hrl ht1 ht0
    rintro σ H2 ⟨rl, vs, rs, v6, v7, v8, v9, v10, v11, v12, rfl, F⟩
    refine ⟨p, c, bw, rfl, rfl, rfl, F.pot, fun n H3 hn k3 hp3 => ⟨_, rfl, by omega, by omega, for_it (n := n) walkR (fun i σ H' => ∃ (vs : List V) (rs : List (List Int)) (v6 v7 v8 v9 v10 v11 v12 : Option V), σ = [some (.ref p), some (.int 3), some (.int 4), some (.int 5), some (.bl bw), some (.ref rl), v6, v7, v8, v9, v10, v11, v12] ∧ FL H H' p c rl vs rs (i + 1)) ⟨vs, rs, _, _, _, _, _, _, _, rfl, ?_⟩ (fun _ _ _ _ _ => trivial) ?_ ?_⟩⟩
    · have npl : rl ≠ p := fun z => by
        have := F.z; rw [z] at this; exact absurd this hp.nn
      exact ⟨F.k.trans k3, hp3, F.z, k3 _ _ F.e (by simpa using npl), NKs.mono (F.pot.keepT k3) _ _ F.nk, F.r3, F.len⟩
    · rintro i x σ H4' H4 hi ⟨vs, rs, v6, v7, v8, v9, v10, v11, v12, rfl, F⟩ ⟨rfl, rfl⟩
      have npl : rl ≠ p := fun z => by
        have := F.z; rw [z] at this; exact absurd this hp.nn
      have vlen : vs.length = i + 1 := by rw [F.nk.lenK, F.len]
      obtain ⟨lv, elv⟩ : ∃ lv, vs.getLast? = some lv := by
        cases h : vs.getLast? with
        | none => rw [List.getLast?_eq_none_iff] at h; rw [h] at vlen; simp at vlen
        | some lv => exact ⟨lv, rfl⟩
      have lvr : ∃ ra r, lv = .ref ra ∧ Row3 r ∧ H4 ra = some (.tup (r.map V.int)) := by
        rw [List.getLast?_eq_getElem?] at elv
        obtain ⟨r, er, nr⟩ := F.nk.atK elv
        obtain ⟨ra, e, h⟩ := nr.rowI
        exact ⟨ra, r, e, F.r3 r (List.mem_of_getElem? er), h⟩
      obtain ⟨ra, r, rfl, hr3, hra⟩ := lvr
      refine ⟨_, rfl, 1, rfl, rl, vs, _, rfl, rfl, F.e, elv, _, rfl, .inl ⟨_, rfl, _, rfl, _, _, rfl, rfl, (by decide : (0 : Int) < 3), ⟨_, _, rfl, ?_⟩⟩⟩
      refine ⟨fun σ' H' => ∃ (place : Nat) (ra : Addr) (r : List Int) (v9 v10 v11 v12 : Option V), σ' = [some (.ref p), some (.int 3), some (.int 4), some (.int 5), some (.bl bw), some (.ref rl), some (.int place), some (.int i), some (.ref ra), v9, v10, v11, v12] ∧ FL H H' p c rl vs rs (i + 1) ∧ place < 3 ∧ Row3 r ∧ H' ra = some (.tup (r.map V.int)), ?_, ?_⟩
      · refine ⟨_, rfl, _, rfl, ?_⟩
        refine ite_any ?_ ⟨i % 3, ra, r, _, _, _, _, by push_cast; rfl, F, Nat.mod_lt _ (by decide), hr3, hra⟩
        refine ⟨_, rfl, _, rfl, p, c, rl, vs, rfl, F.pot, F.e, npl, by omega, by omega, fun j v H5 k5 hp5 hj => ⟨_, rfl, _, rfl, p, c, 3, rfl, hp5, by decide, by decide, fun pl H6 k6 hp6 hpl => ⟨_, _, rfl, ?_⟩⟩⟩
        obtain ⟨r, er, nr⟩ := F.nk.atK hj
        obtain ⟨a, rfl, ha⟩ := nr.rowI
        have t46 : KeepT H4 H6 := (F.pot.keepT k5).trans (hp5.keepT k6)
        exact ⟨pl, a, r, _, _, _, _, rfl, ⟨(F.k.trans k5).trans k6, hp6, F.z, k6 _ _ (k5 _ _ F.e (by simpa using npl)) (by simpa using npl), NKs.mono t46 _ _ F.nk, F.r3, F.len⟩, hpl, F.r3 r (List.mem_of_getElem? er), t46 _ _ ha⟩
      rintro σ H5 ⟨pl, a, r, v9, v10, v11, v12, rfl, F5, hpl, hr3, ha5⟩
      refine ⟨_, rfl, .inl ⟨rfl, _, SqL.of F5.e⟩, ?_⟩
      refine ⟨_, rfl, _, rfl, _, rfl, a, _, rfl, ha5, fun p1 H7 s7 h7 => ?_⟩
      rw [cut_take] at h7
      have hp7 := F5.pot.mono s7
      refine ⟨p, c, bw, rfl, rfl, hp7, fun y H8 hy k8 hp8 => ⟨by show 1 ≤ sizeLine; decide, fun q1 hq1 => ?_⟩⟩
      have s8 : Same H8 (upd H8 q1 (.tup [.int y])) := same_upd _ hq1
      refine ⟨p1, q1, _, _, rfl, rfl, s8 _ _ (hp7.keepT k8 _ _ h7), upd_same, by simp [sizeLine_eq, hr3.1]; omega, fun p2 H9 s9 h9 => ?_⟩
      have t59 : KeepT H5 H9 := (((KeepT.of_same s7).trans (hp7.keepT k8)).trans (KeepT.of_same s8)).trans (KeepT.of_same s9)
      refine ⟨_, rfl, _, rfl, _, _, rfl, rfl, _, rfl, a, _, rfl, t59 _ _ ha5, fun p3 H10 s10 h10 => ?_⟩
      rw [show (some ((pl : Int) + 1)) = some ((pl + 1 : Nat) : Int) by simp, cut_drop] at h10
      refine ⟨p2, p3, _, _, rfl, rfl, s10 _ _ h9, h10, by simp [sizeLine_eq, hr3.1]; omega, fun p4 H11 s11 h11 => ?_⟩
      have hp11 : Pot H11 p c := (((hp8.mono s8).mono s9).mono s10).mono s11
      have k511 : Keep [p] H5 H11 := ((((Keep.of_same s7).trans k8).trans (Keep.of_same s8)).trans (Keep.of_same s9)).trans ((Keep.of_same s10).trans (Keep.of_same s11))
      have hnear : ∃ r4, Row3 r4 ∧ NK H11 (rowK r4) (.ref p4) := by
        refine ⟨r.take pl ++ [(y : Int)] ++ r.drop (pl + 1), ⟨by simp [hr3.1]; omega, fun x hx => ?_⟩, NK.row.mpr ⟨p4, rfl, by rw [h11]; simp [List.map_take, List.map_drop]⟩⟩
        simp only [List.mem_append, List.mem_singleton] at hx
        rcases hx with (h | h) | h
        · exact hr3.2 x (List.mem_of_mem_take h)
        · rw [h]; omega
        · exact hr3.2 x (List.mem_of_mem_drop h)
      obtain ⟨r4, hr4, nk4⟩ := hnear
      clear h7 h9 h10 h11
      have e11 := k511 _ _ F5.e (by simpa using npl)
      have kt : KeepT H11 (upd H11 rl (.lst (vs ++ [.ref p4]))) := keepT_upd fun xs e => by rw [e11] at e; cases e
      have np2 : p ≠ rl := fun z => npl z.symm
      refine ⟨rl, _, _, rfl, rfl, e11, by rw [sizeLine_eq]; omega, vs ++ [.ref p4], rs ++ [r4], _, _, _, _, _, _, _, rfl, ?_, hp11.upd' _ npl (fun z => ?_), F.z, upd_same, ?_, ?_, by simp [F.len]⟩
      · intro b o e n
        rw [upd_ne (ne_of_none e F.z)]; exact k511 _ _ (F5.k _ _ e n) n
      · have := F.z
        rw [z] at this
        obtain ⟨_, _, _, _, _, _, h2, _⟩ := hp
        rw [h2] at this; cases this
      · rw [List.map_append]
        exact NKs.snoc (NKs.mono ((F5.pot.keepT k511).trans kt) _ _ F5.nk) (NK.mono kt _ _ nk4)
      · intro r hr
        rcases List.mem_append.mp hr with h | h
        · exact F.r3 r h
        · rw [List.mem_singleton.mp h]; exact hr4
    · rintro σ H3 ⟨vs, rs, v6, v7, v8, v9, v10, v11, v12, rfl, F⟩
      refine ⟨_, rfl, p, c, 3, rfl, F.pot, by decide, by decide, fun kd H4 k4 hp4 hkd => ⟨Nat.zero_le _, fun fl hfl => ⟨_, _, rfl, ?_⟩⟩⟩
      have npl : rl ≠ p := fun z => by
        have := F.z; rw [z] at this; exact absurd this hp.nn
      have s5 : Same H4 (upd H4 fl (.lst [])) := same_upd _ hfl
      have zfl : H fl = none := zz (F.k.trans k4) hp4 hfl
      have fl5 : upd H4 fl (.lst []) fl = some (.lst []) := upd_same
      have rl5 := s5 _ _ (k4 _ _ F.e (by simpa using npl))
      have nk5 := NKs.mono ((F.pot.keepT k4).trans (KeepT.of_same s5)) _ _ F.nk
      have hp5 := hp4.mono s5
      have k5 : Keep [p] H (upd H4 fl (.lst [])) := (F.k.trans k4).trans (Keep.of_same s5)
      generalize upd H4 fl (.lst []) = H5 at s5 fl5 rl5 nk5 hp5 k5
      refine ⟨_, rfl, ?_⟩
      simp -proj only [tNil]
      refine set_sort rl5 nk5 F.r3 (by rw [F.len]; omega) (fun p6 H6 ls vs6 s6 e6 nk6 hris hmem hll => ?_)
      have fl6 := s6 _ _ fl5
      have hp6 := hp5.mono s6
      have k6 : Keep [p] H H6 := k5.trans (Keep.of_same s6)
      have hl3 : ∀ r ∈ ls, Row3 r := fun r hr => F.r3 r ((hmem r).mp hr)
      have hlen : ls.length ≤ 4 := by
        have := nodup_sub_len (rising_nodup hris) fun r hr => (hmem r).mp hr
        rw [F.len] at this; omega
      have hpos : 1 ≤ ls.length := by
        obtain ⟨r0, rs', e⟩ : ∃ r0 rs', rs = r0 :: rs' := by
          cases rs with
          | nil => have := F.len; simp at this
          | cons r0 rs' => exact ⟨r0, rs', rfl⟩
        exact List.length_pos_of_mem ((hmem r0).mpr (by rw [e]; simp))
      have vl6 := nk6.lenK
      have npf : p6 ≠ fl := fun z => by
        rw [z, fl6] at e6
        cases e6
        simp at vl6; omega
      have nfp : fl ≠ p := fun z => by rw [z] at zfl; exact absurd zfl hp.nn
      have npp : p6 ≠ p := fun z => by
        obtain ⟨ns, k, a, b, d, h1, h2, h3⟩ := hp6
        rw [z, h1] at e6
        cases e6
        obtain ⟨r, hr, nr⟩ := nk6.atK (i := 1) rfl
        obtain ⟨_, e, _⟩ := nr.rowI
        cases e
      have tk : ∀ {H' : Hp}, Keep [p, fl] H6 H' → KeepT H6 H' := fun k => k.keepT fun b hb ys e => by
        simp only [List.mem_cons, List.not_mem_nil, or_false] at hb
        rcases hb with rfl | rfl
        · obtain ⟨ns, k, a, b', d, h1, h2, h3⟩ := hp6
          rw [h1] at e; cases e
        · rw [fl6] at e; cases e
      refine ⟨p6, rfl, ⟨_, SqL.of e6⟩, for_it walkL (fun j σ H' => ∃ (v6 v7 v8 v11 v12 : Option V) (us : List V) (lots : List (List (List Int))), σ = [some (.ref p), some (.int 3), some (.int 4), some (.int 5), some (.bl bw), some (.ref rl), v6, v7, v8, some (.int kd), some (.ref fl), v11, v12] ∧ Keep [p, fl] H6 H' ∧ Pot H' p c ∧ H' fl = some (.lst us) ∧ lots.length = j ∧ (∀ l ∈ lots, LotOk l) ∧ NKs H' (((ls.take j).zip lots).map fun q => .tup [rowK q.1, lotK q.2]) us) ⟨v6, v7, v8, v11, v12, [], [], rfl, Keep.refl _ _, hp6, fl6, rfl, by simp, by simp; rfl⟩ (fun j σ H' _ ⟨_, _, _, _, _, _, _, _, k, _⟩ => k _ _ e6 (by simp [npf, npp])) ?_ ?_⟩
      · rintro j x σ H7' H7 hj ⟨v6, v7, v8, v11, v12, us, lots, rfl, k7, hp7, fl7, ll, lok, nk7⟩ ⟨rfl, hx⟩
        obtain ⟨row, er, nr⟩ := (NKs.mono (tk k7) _ _ nk6).atK hx
        obtain ⟨ra, rfl, hra⟩ := nr.rowI
        have hr3 := hl3 row (List.mem_of_getElem? er)
        have ulen : us.length ≤ 4 := by
          rw [nk7.lenK, List.length_zip, List.length_take]; omega
        refine ⟨_, rfl, _, rfl, _, rfl, p, c, 2, 5, rfl, hp7, by decide, by decide, by decide, by decide, fun t lt H8 k8 hp8 hok8 nk8 => ?_⟩
        have k68 : Keep [p, fl] H6 H8 := k7.trans (k8.mono (by simp))
        have fl8 := k8 _ _ fl7 (by simpa using nfp)
        have nk78 := NKs.mono (hp7.keepT k8) _ _ nk7
        have hra8 := hp7.keepT k8 _ _ hra
        refine ⟨fun σ' H' => ∃ (v6 v7 v12 : Option V) (t : Addr) (lt : List (List Int)), σ' = [some (.ref p), some (.int 3), some (.int 4), some (.int 5), some (.bl bw), some (.ref rl), v6, v7, some (.ref ra), some (.int kd), some (.ref fl), some (.ref t), v12] ∧ Keep [p, fl] H6 H' ∧ Pot H' p c ∧ H' fl = some (.lst us) ∧ LotOk lt ∧ NK H' (lotK lt) (.ref t) ∧ NKs H' (((ls.take j).zip lots).map fun q => .tup [rowK q.1, lotK q.2]) us ∧ H' ra = some (.tup (row.map V.int)), ?_, ?_⟩
        · refine ⟨p, c, bw, kd, rfl, rfl, rfl, hp8, fun b H9 k9 hp9 => ?_⟩
          have t89 := hp8.keepT k9
          have k69 : Keep [p, fl] H6 H9 := k68.trans (k9.mono (by simp))
          have fl9 := k9 _ _ fl8 (by simpa using nfp)
          have nk9 := NKs.mono t89 _ _ nk78
          have hra9 := t89 _ _ hra8
          have nl9 := NK.mono t89 _ _ nk8
          refine ite_any ?_ ?_
          · refine ⟨_, rfl, ra, rfl, ⟨_, SqT.of hra9⟩, fun D hD => lc_map walkT [] (by simp) (by simp [hr3.1]) hD (fun H' k => k _ _ hra9 (by simp)) (fun i H' acc => NKs H' (((row.take i).map fun v => [v, v, v]).map rowK) acc) rfl (fun i x H10' H10 acc Kf hi k hacc hl hR hY hK => ?_) (fun H10 acc k10 hacc hl hR => ?_)⟩
            · obtain ⟨rfl, hx⟩ := hY
              rw [List.getElem?_map] at hx
              obtain ⟨v, ev, rfl⟩ := Option.map_eq_some_iff.mp hx
              refine ⟨rfl, _, rfl, by show 1 ≤ sizeLine; decide, fun t0 ht0 => ⟨_, rfl, t0, 3, _, rfl, rfl, upd_same, by simp, by decide, by decide, by show 1 ≤ 1000; decide, fun t1 ht1 => hK _ _ (Keep.of_same ((same_upd _ ht0).trans (same_upd _ ht1))) ?_⟩⟩
              have nt : D ≠ t1 := fun z => by rw [← z, same_upd (.tup [V.int v]) ht0 _ _ hacc] at ht1; cases ht1
              have s11 : Same H10 (upd (upd H10 t0 (.tup [V.int v])) t1 (.tup (List.replicate (Int.toNat 3) [V.int v]).flatten)) := (same_upd _ ht0).trans (same_upd _ ht1)
              have kt : KeepT (upd (upd H10 t0 (.tup [V.int v])) t1 (.tup (List.replicate (Int.toNat 3) [V.int v]).flatten)) (upd (upd (upd H10 t0 (.tup [V.int v])) t1 (.tup (List.replicate (Int.toNat 3) [V.int v]).flatten)) D (.lst (acc ++ [.ref t1]))) := keepT_upd fun xs e => by rw [s11 _ _ hacc] at e; cases e
              rw [List.take_add_one, ev, List.map_append, List.map_append]
              exact NKs.snoc (NKs.mono ((KeepT.of_same s11).trans kt) _ _ hR) (NK.row.mpr ⟨t1, rfl, kt _ _ upd_same⟩)
            · rw [List.take_of_length_le (by simp)] at hR
              simp only [tNil]
              have s10 : Same H9 H10 := Keep.same k10
              refine set_sort hacc hR (fun r hr => ?_) (by rw [List.length_map, hr3.1]; decide) (fun p11 H11 ls11 vs11 s11 e11 nk11 hris11 hmem11 hll11 => ?_)
              · obtain ⟨v, hv, rfl⟩ := List.mem_map.mp hr
                have := hr3.2 v hv
                exact ⟨rfl, fun x hx => by simp at hx; rw [hx]; exact this⟩
              refine ⟨p11, _, rfl, e11, fun t H12 s12 e12 => ?_⟩
              have sA := (s10.trans s11).trans s12
              refine ⟨_, _, _, t, ls11, rfl, k69.trans (Keep.of_same sA), hp9.mono sA, sA _ _ fl9, ⟨?_, by omega, fun r hr => ?_, hris11⟩, ⟨t, vs11, rfl, e12, NKs.mono (KeepT.of_same s12) _ _ nk11⟩, NKs.mono (KeepT.of_same sA) _ _ nk9, sA _ _ hra9⟩
              · have h0 : row.getD 0 0 ∈ row := List.mem_of_getElem? (row3_get hr3 (by decide : 0 < 3)).1
                exact List.length_pos_of_mem ((hmem11 _).mpr (List.mem_map.mpr ⟨_, h0, rfl⟩))
              · obtain ⟨v, hv, rfl⟩ := List.mem_map.mp ((hmem11 r).mp hr)
                have := hr3.2 v hv
                exact ⟨rfl, fun x hx => by simp at hx; rw [hx]; exact this⟩
          · refine ⟨_, rfl, rfl, _, rfl, ?_⟩
            refine ite_any ?_ ⟨_, _, _, t, lt, rfl, k69, hp9, fl9, hok8, nl9, nk9, hra9⟩
            obtain ⟨_, tv, et, gt, ntv⟩ := id nl9
            cases et
            refine ⟨_, rfl, _, rfl, by show 1 ≤ sizeLine; decide, fun q1 hq1 => ?_⟩
            have s10 : Same H9 (upd H9 q1 (.tup [.ref ra])) := same_upd _ hq1
            have tl := ntv.lenK
            have lf := hok8.few
            refine ⟨t, q1, _, _, rfl, rfl, s10 _ _ gt, upd_same, by rw [sizeLine_eq]; simp; omega, fun p2 H11 s11 e11 => ?_⟩
            simp only [tNil]
            have nkc : NKs H11 ((lt ++ [row]).map rowK) (tv ++ [.ref ra]) := by
              rw [List.map_append]
              exact NKs.snoc (NKs.mono (KeepT.of_same (s10.trans s11)) _ _ ntv) (NK.row.mpr ⟨ra, rfl, s11 _ _ (s10 _ _ hra9)⟩)
            refine set_sortT e11 nkc (fun r hr => ?_) (by simp; omega) (fun p11 H12 ls11 vs11 s12 e12 nk11 hris11 hmem11 hll11 => ?_)
            · rcases List.mem_append.mp hr with h | h
              · exact hok8.rows r h
              · rw [List.mem_singleton.mp h]; exact hr3
            refine ⟨p11, _, rfl, e12, fun t H13 s13 e13 => ?_⟩
            have sA := ((s10.trans s11).trans s12).trans s13
            refine ⟨_, _, _, t, ls11, rfl, k69.trans (Keep.of_same sA), hp9.mono sA, sA _ _ fl9, ⟨?_, by omega, fun r hr => ?_, hris11⟩, ⟨t, vs11, rfl, e13, NKs.mono (KeepT.of_same s13) _ _ nk11⟩, NKs.mono (KeepT.of_same sA) _ _ nk9, sA _ _ hra9⟩
            · exact List.length_pos_of_mem ((hmem11 row).mpr (by simp))
            · rcases List.mem_append.mp ((hmem11 r).mp hr) with h | h
              · exact hok8.rows r h
              · rw [List.mem_singleton.mp h]; exact hr3
        · rintro σ H9 ⟨v6, v7, v12, t, lt, rfl, k9, hp9, fl9, hok9, nl9, nk9, hra9⟩
          refine ⟨_, rfl, .inl ⟨rfl, _, SqL.of fl9⟩, _, rfl, _, rfl, by show 2 ≤ sizeLine; decide, fun T0 hT0 => ?_⟩
          have s10 : Same H9 (upd H9 T0 (.tup [.ref ra, .ref t])) := same_upd _ hT0
          have kt : KeepT (upd H9 T0 (.tup [.ref ra, .ref t])) (upd (upd H9 T0 (.tup [.ref ra, .ref t])) fl (.lst (us ++ [.ref T0]))) := keepT_upd fun xs e => by rw [s10 _ _ fl9] at e; cases e
          have kt9 := (KeepT.of_same s10).trans kt
          refine ⟨fl, _, _, rfl, rfl, s10 _ _ fl9, by rw [sizeLine_eq]; omega, _, _, _, _, _, us ++ [.ref T0], lots ++ [lt], rfl, fun b o e n => ?_, (hp9.mono s10).upd' _ nfp (fun z => ?_), upd_same, by simp [ll], ?_, ?_⟩
          · rw [upd_ne (by simp at n; exact n.2)]; exact s10 _ _ (k9 _ _ e n)
          · rw [z] at zfl
            obtain ⟨_, _, _, _, _, _, h2, _⟩ := hp
            rw [h2] at zfl; cases zfl
          · intro l hl
            rcases List.mem_append.mp hl with h | h
            · exact lok l h
            · rw [List.mem_singleton.mp h]; exact hok9
          · rw [List.take_add_one, er]
            have hz : ((ls.take j ++ (some row).toList).zip (lots ++ [lt])) = (ls.take j).zip lots ++ [(row, lt)] := by
              rw [List.zip_append (by rw [List.length_take, ll]; have := nk6.lenK; omega)]; rfl
            rw [hz, List.map_append]
            exact NKs.snoc (NKs.mono kt9 _ _ nk9) ⟨T0, _, rfl, kt _ _ upd_same, _, _, rfl, NK.row.mpr ⟨ra, rfl, kt9 _ _ hra9⟩, _, _, rfl, NK.mono kt9 _ _ nl9, rfl⟩
      · rintro σ H7 ⟨v6, v7, v8, v11, v12, us, lots, rfl, k7, hp7, fl7, ll, lok, nk7⟩
        rw [vl6, List.take_of_length_le (Nat.le_refl _)] at nk7
        rw [vl6] at ll
        refine ⟨_, rfl, fl, us, rfl, fl7, fun t H8 s8 e8 => q t (ls.zip lots) H8 (fun b o e n => s8 _ _ (k7 _ _ (k6 _ _ e n) (by simp at n; simp [n, ne_of_none e zfl]))) (hp7.mono s8) ⟨?_, ?_, fun r hr => ?_, fun r hr => ?_, ?_⟩ ⟨t, us, rfl, e8, NKs.mono (KeepT.of_same s8) _ _ nk7⟩⟩
        · rw [List.length_zip]; omega
        · rw [List.length_zip]; omega
        · exact hl3 _ (List.of_mem_zip hr).1
        · exact lok _ (List.of_mem_zip hr).2
        · rw [List.map_fst_zip (by omega)]; exact hris

end
end S1

/-! LR: tables, bent -/
namespace S1
open PySem L2
theorem keysU_form : ∀ k ∈ keysU, k.depth ≤ 5 := by decide +kernel
theorem Pot.keep {H H' : Hp} {p c a : Addr} (h : Pot H p c) (k : Keep [a] H H') (n1 : a ≠ p) (n2 : a ≠ c) : Pot H' p c :=
  let ⟨ns, x, y, b, d, h1, h2, h3⟩ := h
  ⟨ns, x, y, b, d, k _ _ h1 (by simpa using n1.symm), k _ _ h2 (by simpa using n2.symm), h3⟩
theorem pair_ref {L : Lots} {r : Nat} (hL : LotsOk L) {k : NestedKey} (hk : k ∈ pairsL L r) : ∃ (m : Nat) (v : NestedKey), k = NestedKey.tup [NestedKey.num (m : Int), v] := by
  obtain ⟨u, hu, hku⟩ := ksOf_mem.mp hk
  obtain ⟨m, v, e, _⟩ := pair_form hL hu hku
  exact ⟨m, v, e⟩
theorem pairs_ne {H : Hp} {L : Lots} {r : Nat} {l p c : Addr} {ps : List V} (hL : LotsOk L) (hp : Pot H p c) (hl : H l = some (.lst ps)) (hps : NKs H (pairsL L r) ps) : l ≠ p := fun z => by
  obtain ⟨ns, k, a, b, d, h1, h2, h3⟩ := hp
  rw [z, h1] at hl
  cases hl
  obtain ⟨k', ek, nk⟩ := hps.at (i := 1) rfl
  obtain ⟨m, v, rfl⟩ := pair_ref hL (List.mem_of_getElem? ek)
  obtain ⟨_, _, e, _⟩ := nk
  cases e
section
variable {P : Program} {w : World} {K : PySem.W.Frag} {mg : Str → Option Value} {base : Heap} {cT cR cS cA : Addr} {H H' : Hp}
theorem ND.ne_pot {d p c : Addr} {kvs : List (NestedKey × V)} (x : ND P w H d kvs) (hp : Pot H p c) : d ≠ p ∧ d ≠ c := by
  obtain ⟨f, hf⟩ := x.at
  obtain ⟨ns, k, a, b, e, h1, h2, h3⟩ := hp
  exact ⟨(fun z => by rw [z, h1] at hf; cases hf), (fun z => by rw [z, h2] at hf; cases hf)⟩
theorem ND.keepP {d p c : Addr} {kvs : List (NestedKey × V)} (x : ND P w H d kvs) (hp : Pot H p c) (k : Keep [p] H H') : ND P w H' d kvs :=
  x.mono (hp.keepT k) fun o e => k _ _ e (by simpa using (x.ne_pot hp).1)
/-- what is said of a bent table's items -/
def Its (P : Program) (w : World) (K : PySem.W.Frag) (H : Hp) (kvs : List (NestedKey × V)) : Prop := ∀ q ∈ kvs, ∃ t, Ty P w K H q.2 t
theorem Its.ints {ks : List NestedKey} {f : NestedKey → Int} : Its P w K H (ks.map fun k => (k, V.int (f k))) := fun q hq => by
  obtain ⟨k, _, rfl⟩ := List.mem_map.mp hq
  exact ⟨_, .int _⟩
theorem Its.drop {kvs : List (NestedKey × V)} {k : NestedKey} (h : Its P w K H kvs) : Its P w K H (dropK kvs k) := fun q hq => h q (List.mem_filter.mp hq).1
theorem Its.put {kvs : List (NestedKey × V)} {k : NestedKey} {v : V} (h : Its P w K H kvs) (hv : ∃ t, Ty P w K H v t) : Its P w K H (putK kvs k v) := fun q hq => by
  unfold putK at hq
  split at hq
  · obtain ⟨q', hq', rfl⟩ := List.mem_map.mp hq
    by_cases c : q'.1 = k
    · rw [if_pos (by simpa using c)]; exact hv
    · rw [if_neg (by simpa using c)]; exact h q' hq'
  · rcases List.mem_append.mp hq with z | z
    · exact h q z
    · rw [List.mem_singleton.mp z]; exact hv
abbrev s__law_bent_table : Stmt := top 63
def sp__law_bent_table (P : Program) (w : World) (K : PySem.W.Frag) : Sp := fun vs H Q _ => ∃ (p c d l : Addr) (L : Lots) (r : Nat) (f : NestedKey → Int) (ps : List V), vs = [.ref p, .ref d, .ref l] ∧ Pot H p c ∧ LotsOk L ∧ r ≤ 1 ∧ ND P w H d ((pairsL L r).map fun k => (k, V.int (f k))) ∧ H l = some (.lst ps) ∧ NKs H (pairsL L r) ps ∧
  ∀ v o H', Keep [p] H H' → Pot H' p c → Thing P w K H' v o → Q v H'
theorem ok__law_bent_table {f : Addr} {fd : FuncData} (F : Fun K "_law_bent_table" "_law_bent_table" s__law_bent_table f fd) (T : Txt K mg cT cR cS cA) (G__law_draw : Fn P w K mg base 1 "_law_draw" ["_law_pot_here", "_law_many"] sp__law_draw) (G__law_any : Fn P w K mg base 2 "_law_any" ["_law_pot_here", "_law_things"] sp__law_any) : FnOk P w K mg base CX0 3 f fd ["_law_pot_here", "_law_thing", "_law_pairs"] (sp__law_bent_table P w K) := by
  have sc : FnScope ["_law_pot_here", "_law_thing", "_law_pairs", "_law_pair", "_law_later", "_law_kind"] ["_law_pot_here", "_law_thing", "_law_pairs"] (defScope s__law_bent_table) := sc_by (by decide +kernel)
  refine F.ok sc (fun vs H Q E h => ?_) (fun cdv A outer s H vs Q E hr h => ?_)
  · obtain ⟨_, _, _, _, _, _, _, _, rfl, _⟩ := h; rfl
  · obtain ⟨p, c, d, l, L, r, f', ps, rfl, hp, hL, hr1, hd0, hl, hps, q⟩ := h
    have hu := hu9 hr
    have hu65 := hu65 hr
    have hu1 := hu1_of hr
    refine ⟨_, (pss_cons (ps_par3 rfl sc.nd (i := 3) (j := 4) (l := 5) rfl rfl rfl (by decide) (by decide) (by decide) rfl rfl rfl (pa_cons (pe_fn G__law_any (hr.mono (by decide)) rfl (pa_cons (pv 0) (pa_cons (pv 2) pa_nil))) (pa_cons (pe_callTy (call_dictN hu65) (by rfl) T.dict (by decide +kernel) (pa_cons (pv 1) pa_nil)) (pa_cons (pe_fn G__law_draw (hr.mono (by decide)) rfl (pa_cons (pv 0) (pa_cons pe_int pa_nil))) pa_nil))) rfl)
      (C8.pss_cut (ps_if (pt_cmpR op_eq (pv 5) pe_int (nomark _))
        (pss_one (ps_expr (pe_mG (ty_ndP P w) PySem.F.plainAttrs_dict PySem.F.slot_dict_pop PySem.F.type_dict_pop (mt_npop hu) (pv 4) (pa_cons (pv 3) pa_nil))))
        (pss_one (ps_if (pt_cmpR op_lt (pv 5) pe_int (nomark _))
            (pss_one (ps_asg (pe_op op_add (pe_ngetP P w hu (pv 1) (pv 3) (fun _ _ => rfl)) (pe_fn G__law_any (hr.mono (by decide)) rfl (pa_cons (pv 0) (pa_cons (pe_lst (pa_cons pe_int (pa_cons (pe_un un_neg pe_int) pa_nil))) pa_nil)))) (pg_sub (pv 4) (pv 3) (by exact set_nd hu))))
            (pss_one (ps_if (pt_cmpR op_eq (pv 5) pe_int (nomark _))
                (pss_one (ps_asg (pe_fn G__law_any (hr.mono (by decide)) rfl (pa_cons (pv 0) (pa_cons (pe_lst (pa_cons pe_non (pa_cons pe_str (pa_cons (pe_tup (pa_cons (pe_ngetP P w hu (pv 1) (pv 3) (fun _ _ => rfl)) pa_nil)) (pa_cons (pe_callTy call_bool1 (by rfl) T.bool (by decide +kernel) (pa_cons (pe_ngetP P w hu (pv 1) (pv 3) (fun _ _ => rfl)) pa_nil)) pa_nil))))) pa_nil))) (pg_sub (pv 4) (pv 3) (by exact set_nd hu))))
                (pss_one (ps_if (pt_cmpR op_eq (pv 5) pe_int (nomark _))
                    (pss_one (ps_asg pe_int (pg_sub (pv 4) (pe_tup (pa_cons (pe_ix ixt (pv 3) pe_int (fun _ _ => rfl)) (pa_cons (pe_tup (pa_cons pe_int (pa_cons (pe_ix ixt (pv 3) pe_int (fun _ _ => rfl)) pa_nil))) pa_nil))) (by exact set_nd hu))))
                    (pss_one (ps_if (pt_cmpR op_eq (pv 5) pe_int (nomark _))
                        (pss_one (ps_ret (pe_fn G__law_any (hr.mono (by decide)) rfl (pa_cons (pv 0) (pa_cons (pe_lst (pa_cons pe_non (pa_cons (pe_lst pa_nil) (pa_cons (pe_tup pa_nil) (pa_cons (pe_callTy (call_listN rfl) (by rfl) T.list (by decide +kernel) (pa_cons (pv 1) pa_nil)) (pa_cons (pe_callTy (call_tuple_items rfl) (by rfl) T.tuple (by decide +kernel) (pa_cons (pe_mG0 (ty_ndP P w) PySem.F.plainAttrs_dict PySem.F.slot_dict_items PySem.F.type_dict_items (mt_itemsN) (pv 1)) pa_nil)) (pa_cons pe_str (pa_cons pe_dnewN pa_nil)))))))) pa_nil)))))
                        pss_nil)))))))))
      (pss_one (ps_ret (pv 4))))), ?_⟩
    have nlp := pairs_ne hL hp hl hps
    have plen := hps.len
    have hpos : 0 < (pairsL L r).length := nP_pos hL
    have hmost : (pairsL L r).length ≤ 324 := nP_le hL hr1
    refine ⟨_, rfl, _, rfl, p, c, l, ps, rfl, hp, hl, nlp, by omega, by omega, fun i v H1 k1 hp1 hv => ?_⟩
    obtain ⟨k, ek, nk⟩ := hps.at hv
    have hkm := List.mem_of_getElem? ek
    have hkU := pairsL_U hL hr1 k hkm
    have hdep := keysU_depth _ hkU
    have hdep5 := keysU_form _ hkU
    obtain ⟨m, vv, rfl⟩ := pair_ref hL hkm
    obtain ⟨b, bs, rfl, gb, hbs⟩ := id nk
    obtain ⟨b1, _, rfl, hb1, b2, _, rfl, hb2, rfl⟩ := id hbs
    obtain rfl : b1 = .int m := hb1
    have t1 := hp.keepT k1
    have hd1 := hd0.keepP hp k1
    refine ⟨_, rfl, d, _, rfl, hd1.rd, fun q hq => ?_, fun a H2 ha s2 nd2 => ?_⟩
    · obtain ⟨k, hk, rfl⟩ := List.mem_map.mp hq
      exact pairsL_U hL hr1 k hk
    have hp2 := hp1.mono s2
    have hd2 : ND P w H2 d _ := hd1.mono (KeepT.of_same s2) fun o e => s2 _ _ e
    refine ⟨_, rfl, p, c, 8, rfl, hp2, by decide, by decide, fun kd H3 k3 hp3 hkd => ⟨_, _, _, rfl, ?_⟩⟩
    have t3 := (t1.trans (KeepT.of_same s2)).trans (hp2.keepT k3)
    have k13 : Keep [p] H H3 := (k1.trans (Keep.of_same s2)).trans k3
    have nd3 := nd2.keepP hp2 k3
    have hd3 := hd2.keepP hp2 k3
    have nk3 := NK.mono t3 _ _ nk
    have gb3 := t3 _ _ gb
    have hz : H a = none := by
      cases e : H a with
      | none => rfl
      | some o =>
        have := k1 a o e (by simpa using (hp1.ne ha).1)
        rw [ha] at this; cases this
    have hvk : valV ((pairsL L r).map fun k => (k, V.int (f' k))) (.tup [.num (m : Int), vv]) = some (.int (f' (.tup [.num (m : Int), vv]))) := (valV_mapV (f := fun k => V.int (f' k))).trans (if_pos hkm)
    have hkl : ((pairsL L r).map fun k => (k, V.int (f' k))).length < sizeLine := by rw [List.length_map, sizeLine_eq]; omega
    generalize hkv : ((pairsL L r).map fun k => (k, V.int (f' k))) = kvs at *
    have its : ∀ H', Its P w K H' kvs := fun H' => by rw [← hkv]; exact Its.ints
    -- what is left: the new dict, bent
    refine ⟨fun σ' H' => ∃ (v3 v5 : Option V) (kvs' : List (NestedKey × V)), σ' = [some (.ref p), some (.ref d), some (.ref l), v3, some (.ref a), v5] ∧ Keep [p] H H' ∧ Pot H' p c ∧ ND P w H' a kvs' ∧ Its P w K H' kvs', ?_, ?_⟩
    · have put : ∀ {H4 H5 : Hp} {kvs2 : List (NestedKey × V)} (v3 v5 : Option V), Keep [p] H H4 → Pot H4 p c → ND P w H4 a kvs → Keep [a] H4 H5 → ND P w H5 a kvs2 → Its P w K H5 kvs2 → ∃ (v3' v5' : Option V) (kvs' : List (NestedKey × V)), [some (.ref p), some (.ref d), some (.ref l), v3, some (.ref a), v5] = [some (.ref p), some (.ref d), some (.ref l), v3', some (.ref a), v5'] ∧ Keep [p] H H5 ∧ Pot H5 p c ∧ ND P w H5 a kvs' ∧ Its P w K H5 kvs' := fun {H4 H5 kvs2} v3 v5 k4 p4 n4 k5 n5 i5 =>
        ⟨v3, v5, kvs2, rfl, fun b o e n => k5 _ _ (k4 _ _ e n) (by rw [List.mem_singleton]; exact ne_of_none e hz), p4.keep k5 (n4.ne_pot p4).1 (n4.ne_pot p4).2, n5, i5⟩
      refine ⟨_, rfl, rfl, _, rfl, ite_any ?_ ?_⟩
      · refine ⟨_, rfl, ⟨a, _, rfl, nd3.rd⟩, _, rfl, a, b, _, kvs, _, rfl, rfl, nd3, nk3, hdep, hvk, fun H4 k4 nd4 => put _ _ k13 hp3 nd3 k4 nd4 (Its.drop (its _))⟩
      refine ⟨_, rfl, _, _, rfl, rfl, _, rfl, ite_any ?_ ?_⟩
      · refine ⟨_, rfl, _, rfl, d, kvs, b, _, _, rfl, rfl, hd3.rd, nk3, hdep, hvk, _, rfl, 1, rfl, by show 2 ≤ sizeLine; decide, fun l2 hl2 => ?_⟩
        have s4 : Same H3 (upd H3 l2 (.lst [.int 1, .int (-1)])) := same_upd _ hl2
        have n42 := hp3.ne hl2
        refine ⟨p, c, l2, _, rfl, hp3.mono s4, upd_same, n42.1, by show 0 < 2; decide, by show 2 < 1000000; decide, fun j v H5 k5 hp5 hj => ?_⟩
        have hz5 : ∃ z : Int, v = .int z := by
          match j, hj with
          | 0, h => cases h; exact ⟨_, rfl⟩
          | 1, h => cases h; exact ⟨_, rfl⟩
        obtain ⟨z, rfl⟩ := hz5
        have k35 : Keep [p] H3 H5 := (Keep.of_same s4).trans k5
        have nd5 := nd3.keepP hp3 k35
        refine ⟨_, _, rfl, rfl, _, rfl, _, rfl, a, b, _, kvs, rfl, rfl, nd5, NK.mono (hp3.keepT k35) _ _ nk3, hdep, hkl, fun H6 k6 nd6 => put _ _ (k13.trans k35) hp5 nd5 k6 nd6 (Its.put (its _) ⟨_, .int _⟩)⟩
      refine ⟨_, rfl, rfl, _, rfl, ite_any ?_ ?_⟩
      · refine ⟨_, rfl, _, rfl, _, rfl, d, kvs, b, _, _, rfl, rfl, hd3.rd, nk3, hdep, hvk, by show 1 ≤ sizeLine; decide, fun t0 ht0 => ?_⟩
        have s4 : Same H3 (upd H3 t0 (.tup [.int (f' (.tup [.num (m : Int), vv]))])) := same_upd _ ht0
        have e4 : upd H3 t0 (.tup [.int (f' (.tup [.num (m : Int), vv]))]) t0 = some (.tup [.int (f' (.tup [.num (m : Int), vv]))]) := upd_same
        generalize upd H3 t0 (.tup [.int (f' (.tup [.num (m : Int), vv]))]) = H4 at s4 e4
        refine ⟨_, rfl, _, rfl, d, kvs, b, _, _, rfl, rfl, NDr.same hd3.rd s4, NK.mono (KeepT.of_same s4) _ _ nk3, hdep, hvk, .inl ⟨_, rfl, by show 4 ≤ sizeLine; decide, fun l4 hl4 => ?_⟩⟩
        have s5 := s4.trans (same_upd (.lst [.non, .str "0", .ref t0, .bl (f' (.tup [.num (m : Int), vv]) != 0)]) hl4)
        have n42 := (hp3.mono s4).ne hl4
        refine ⟨p, c, l4, _, rfl, hp3.mono s5, upd_same, n42.1, by show 0 < 4; decide, by show 4 < 1000000; decide, fun j v H5 k5 hp5 hj => ?_⟩
        have e5 : H5 t0 = some (.tup [.int (f' (.tup [.num (m : Int), vv]))]) := (hp3.mono s5).keepT k5 _ _ (same_upd _ hl4 _ _ e4)
        have k35 : Keep [p] H3 H5 := (Keep.of_same s5).trans k5
        have nd5 := nd3.keepP hp3 k35
        refine ⟨_, rfl, _, rfl, a, b, _, kvs, rfl, rfl, nd5, NK.mono (hp3.keepT k35) _ _ nk3, hdep, hkl, fun H6 k6 nd6 => put _ _ (k13.trans k35) hp5 nd5 k6 nd6 (Its.put (its _) ?_)⟩
        match j, hj with
        | 0, h => cases h; exact ⟨_, .non⟩
        | 1, h => cases h; exact ⟨_, .str _⟩
        | 2, h =>
          cases h
          exact ⟨_, .tup (nd5.keepT k6 _ _ e5)⟩
        | 3, h => cases h; exact ⟨_, .bl _⟩
      refine ⟨_, rfl, rfl, _, rfl, ite_any ?_ ?_⟩
      · refine ⟨_, rfl, _, rfl, b, _, 0, _, rfl, rfl, gb3, rfl, _, rfl, b, _, 1, _, rfl, rfl, gb3, rfl, by show 2 ≤ sizeLine; decide, fun t0 ht0 => ?_⟩
        have s4 : Same H3 (upd H3 t0 (.tup [.int 17, b2])) := same_upd _ ht0
        have e4 : upd H3 t0 (.tup [.int 17, b2]) t0 = some (.tup [.int 17, b2]) := upd_same
        generalize upd H3 t0 (.tup [.int 17, b2]) = H4 at s4 e4
        refine ⟨by show 2 ≤ sizeLine; decide, fun t2 ht2 => ?_⟩
        have s5 : Same H4 (upd H4 t2 (.tup [.int m, .ref t0])) := same_upd _ ht2
        have e5 : upd H4 t2 (.tup [.int m, .ref t0]) t2 = some (.tup [.int m, .ref t0]) := upd_same
        generalize upd H4 t2 (.tup [.int m, .ref t0]) = H5 at s5 e5
        have s35 := s4.trans s5
        have nb2 : NK H5 vv b2 := by
          obtain ⟨b', bs', e, gb', hbs'⟩ := id nk3
          cases e
          rw [gb3] at gb'
          cases gb'
          obtain ⟨_, _, e1, _, _, _, e2, h, _⟩ := hbs'
          cases e1
          cases e2
          exact NK.mono (KeepT.of_same s35) _ _ h
        have nd5 : ND P w H5 a kvs := nd3.mono (KeepT.of_same s35) fun o e => s35 _ _ e
        refine ⟨a, t2, .tup [.num (m : Int), .tup [.num 17, vv]], kvs, rfl, rfl, nd5, ⟨t2, _, rfl, e5, _, _, rfl, rfl, _, _, rfl, ⟨t0, _, rfl, s5 _ _ e4, _, _, rfl, rfl, _, _, rfl, nb2, rfl⟩, rfl⟩, ?_, hkl, fun H6 k6 nd6 => put _ _ (k13.trans (Keep.of_same s35)) (hp3.mono s35) nd5 k6 nd6 (Its.put (its _) ⟨_, .int _⟩)⟩
        simp only [NestedKey.depth, NestedKey.depthAll] at hdep5 ⊢
        omega
      refine ⟨_, rfl, rfl, _, rfl, ite_any ?_ ?_⟩
      · obtain ⟨ws, hdw, hkw, hnw⟩ := id hd3
        refine ⟨_, rfl, Nat.zero_le _, fun l1 hl1 => ?_⟩
        have sA : Same H3 (upd H3 l1 (.lst [])) := same_upd _ hl1
        have eA : upd H3 l1 (.lst []) l1 = some (.lst []) := upd_same
        generalize upd H3 l1 (.lst []) = HA at sA eA
        refine ⟨Nat.zero_le _, fun t1 ht1 => ?_⟩
        have sB : Same HA (upd HA t1 (.tup [])) := same_upd _ ht1
        have eB : upd HA t1 (.tup []) t1 = some (.tup []) := upd_same
        generalize upd HA t1 (.tup []) = HB at sB eB
        refine ⟨_, rfl, d, ws, rfl, .inl (sB _ _ (sA _ _ hdw)), fun l2 hl2 => ?_⟩
        have sC : Same HB (upd HB l2 (.lst (ws.map fun x => V.ref x.2.1))) := same_upd _ hl2
        have eC : upd HB l2 (.lst (ws.map fun x => V.ref x.2.1)) l2 = some (.lst (ws.map fun x => V.ref x.2.1)) := upd_same
        generalize upd HB l2 (.lst (ws.map fun x => V.ref x.2.1)) = HC at sC eC
        have sAC := (sA.trans sB).trans sC
        refine ⟨_, rfl, ⟨d, _, rfl, NDr.same hd3.rd sAC⟩, d, ws, rfl, rfl, .inl (sAC _ _ hdw), fun it hit => ?_⟩
        have sD : Same HC (upd HC it (DX.itemsO it d)) := same_upd _ hit
        have eD : upd HC it (DX.itemsO it d) it = some (DX.itemsO it d) := upd_same
        generalize upd HC it (DX.itemsO it d) = HD at sD eD
        refine ⟨it, d, ws, rfl, eD, .inl (sD _ _ (sAC _ _ hdw)), fun t2 tv ht2 => ?_⟩
        have sE : Same HD (upd HD t2 (.tup tv)) := same_upd _ ht2
        have eE : upd HD t2 (.tup tv) t2 = some (.tup tv) := upd_same
        generalize upd HD t2 (.tup tv) = HE at sE eE
        refine fun d2 HF hd2' sF nF => ?_
        refine ⟨by show 7 ≤ sizeLine; decide, fun l7 hl7 => ?_⟩
        have s3F : Same H3 HF := ((sAC.trans sD).trans sE).trans sF
        have n42 := (hp3.mono s3F).ne hl7
        have sG : Same HF (upd HF l7 (.lst [.non, .ref l1, .ref t1, .ref l2, .ref t2, .str "table", .ref d2])) := same_upd _ hl7
        have s3G := s3F.trans sG
        refine ⟨p, c, l7, _, rfl, hp3.mono s3G, upd_same, n42.1, by show 0 < 7; decide, by show 7 < 1000000; decide, fun j v H5 k5 hp5 hj => ?_⟩
        have k5' : Keep [p] H H5 := (k13.trans (Keep.of_same s3G)).trans k5
        have np : ∀ {x : Addr} {o : HO}, HF x = some o → x ≠ p → H5 x = some o := fun {x o} e n => k5 _ _ (sG _ _ e) (by simpa using n)
        have kG : KeepT HF H5 := (KeepT.of_same sG).trans ((hp3.mono s3G).keepT k5)
        have pne : ∀ {x : Addr} {HX : Hp}, Pot HX p c → HX x = none → x ≠ p := fun h e => (h.ne e).1
        match j, hj with
        | 0, h => cases h; exact q _ none _ k5' hp5 (.other .non (by decide))
        | 1, h => cases h; exact q _ none _ k5' hp5 (.other (.lst (np (sF _ _ (sE _ _ (sD _ _ (sC _ _ (sB _ _ eA))))) (pne hp3 hl1))) (by decide))
        | 2, h => cases h; exact q _ none _ k5' hp5 (.other (.tup (kG _ _ (sF _ _ (sE _ _ (sD _ _ (sC _ _ eB)))))) (by decide))
        | 3, h => cases h; exact q _ none _ k5' hp5 (.other (.lst (np (sF _ _ (sE _ _ (sD _ _ eC))) (pne (hp3.mono (sA.trans sB)) hl2))) (by decide))
        | 4, h => cases h; exact q _ none _ k5' hp5 (.other (.tup (kG _ _ (sF _ _ eE))) (by decide))
        | 5, h => cases h; exact q _ none _ k5' hp5 (.other (.str _) (by decide))
        | 6, h =>
          cases h
          have n6 : ND P w H5 d2 [] := nF.mono kG fun o e => np e (nF.ne_pot (hp3.mono s3F)).1
          exact q _ (some []) _ k5' hp5 (.dict n6.rd fun q hq => nomatch hq)
      · exact ⟨_, _, kvs, rfl, k13, hp3, nd3, its _⟩
    · rintro σ H4 ⟨v3, v5, kvs', rfl, k4, hp4, nd4, it4⟩
      exact ⟨_, rfl, q _ _ _ k4 hp4 (.dict nd4.rd it4)⟩

end
end S1

/-! LS: the law -/
namespace S1
open PySem L2
section
variable {P : Program} {w : World} {K : PySem.W.Frag} {mg : Str → Option Value} {base : Heap} {cT cR cS cA : Addr} {H H' : Hp}
/-- what the law has of its task -/
structure LawAt (P : Program) (w : World) (cT : Addr) (H : Hp) (tk lt rl d : Addr) (us : List V) (L : Lots) (r : Nat) : Prop where
  task : TaskAt cT H tk lt
  lots : NK H (lotsK L) (.ref lt)
  rl_ : H rl = some (.lst us)
  runs : NKs H ((runsL L r).map (runK L)) us
  bp : BP P w L r H d
theorem LawAt.mono {tk lt rl d : Addr} {us : List V} {L : Lots} {r : Nat} (A : LawAt P w cT H tk lt rl d us L r) (s : Same H H') : LawAt P w cT H' tk lt rl d us L r :=
  ⟨A.task.mono s, NK.mono (KeepT.of_same s) _ _ A.lots, s _ _ A.rl_, NKs.mono (KeepT.of_same s) _ _ A.runs, A.bp.mono s⟩
theorem refs_ne {L : Lots} {us : List Run} {x p c : Addr} {vs : List V} (hp : Pot H p c) (e : H x = some (.lst vs)) (h : NKs H (us.map (runK L)) vs) : x ≠ p := fun z => by
  obtain ⟨ns, k, a, b, d, h1, h2, h3⟩ := hp
  rw [z, h1] at e
  cases e
  obtain ⟨u, eu, nu⟩ := h.atK (i := 1) rfl
  obtain ⟨_, e⟩ := runK_ref nu
  cases e
theorem BP.keepP {p c d : Addr} {L : Lots} {r : Nat} (h : BP P w L r H d) (hp : Pot H p c) (k : Keep [p] H H') : BP P w L r H' d := by
  obtain ⟨o, nd, ho⟩ := h
  refine ⟨o, nd.keepP hp k, fun q hq => ?_⟩
  obtain ⟨vs, e, nk⟩ := ho q hq
  exact ⟨vs, k _ _ e (by simpa using refs_ne hp e nk), NKs.mono (hp.keepT k) _ _ nk⟩
theorem LawAt.keepP {p c tk lt rl d : Addr} {us : List V} {L : Lots} {r : Nat} (A : LawAt P w cT H tk lt rl d us L r) (hp : Pot H p c) (k : Keep [p] H H') : LawAt P w cT H' tk lt rl d us L r := by
  refine ⟨?_, NK.mono (hp.keepT k) _ _ A.lots, k _ _ A.rl_ (by simpa using refs_ne hp A.rl_ A.runs), NKs.mono (hp.keepT k) _ _ A.runs, A.bp.keepP hp k⟩
  obtain ⟨dx, fs, e, h1, h2⟩ := A.task
  refine ⟨dx, fs, k _ _ e ?_, h1, h2⟩
  rw [List.mem_singleton]
  intro z
  obtain ⟨ns, k, a, b, d, g1, _⟩ := hp
  rw [z, g1] at e; cases e
/-- a table that solves is one -/
theorem isTab_sol {L : Lots} {r : Nat} {T : Nat → Int} (hs : Sol L r T) : isTab L r (some (tabK L r T)) = true := by
  have hK := sol_K hs
  have hv : ∀ k ∈ pairsL L r, valV (tabK L r T) k = some (.int (T ((pairsL L r).idxOf k))) := fun k hk => (valV_mapV (f := fun k => V.int (T ((pairsL L r).idxOf k)))).trans (if_pos hk)
  have h1 : (tabK L r T).length = nP L r := by unfold tabK nP; rw [List.length_map]
  have h2 : (pairsL L r).all (fun k => isIntV ((valV (tabK L r T) k).getD .non)) = true := List.all_eq_true.mpr fun k hk => by rw [hv k hk]; rfl
  have h3 : (runsL L r).all (fun u => decide (rowOf (tabK L r T) (prsR L u) ∈ lotAt L u.1)) = true := List.all_eq_true.mpr fun u hu => by
    have e : rowOf (tabK L r T) (prsR L u) = (prsR L u).map fun k => T ((pairsL L r).idxOf k) := List.map_congr_left fun k hk => by
      rw [hv k (prsR_sub hu k hk)]; rfl
    rw [e]
    exact decide_eq_true (hK u hu)
  simp only [isTab, tabOk, h1, h2, h3, decide_true, Bool.and_self]
/-- some integer for a pair -/
def fvK (L : Lots) (r : Nat) (k : NestedKey) : Int := match hasL L r k, k with
  | u :: _, .tup (.num m :: _) => ((lotAt L u.1).getD 0 []).getD m.toNat 0
  | _, _ => 0
abbrev s_law : Stmt := top 64
def spLaw (K : PySem.W.Frag) : Sp := fun vs H Q _ => ∃ (a : Addr) (ns : List Int), vs = [.ref a] ∧ SqL K H a (ns.map V.int) ∧ ∀ H', Q (.bl true) H'
theorem ok_law {f : Addr} {fd : FuncData} (F : Fun K "law" "law" s_law f fd) (T : Txt K mg cT cR cS cA) (G__law_pot : Fn P w K mg base 1 "_law_pot" ["_law_script"] (sp__law_pot K)) (G__law_any : Fn P w K mg base 2 "_law_any" ["_law_pot_here", "_law_things"] sp__law_any) (G__law_few_lots : Fn P w K mg base 4 "_law_few_lots" ["_law_pot_here", "_law_many", "_law_most", "_law_rows"] sp__law_few_lots) (G_Task : Mk1 P w K mg base 7 "Task" cT ["self", "many", "lots"] (sp_Task___init__ cT)) (G__law_runs : Fn P w K mg base 2 "_law_runs" ["_law_many", "_law_lots", "_law_rounds"] sp__law_runs) (G__law_by_pair : Fn P w K mg base 1 "_law_by_pair" ["_law_runs_here"] (sp__law_by_pair P w)) (G_table : Fn P w K mg base 8 "table" ["task", "rounds"] (sp_table P w cT)) (G__law_is_table : Fn P w K mg base 1 "_law_is_table" ["_law_runs_here", "_law_by_pair_here", "_law_thing"] (sp__law_is_table P w K)) (G__law_bent_table : Fn P w K mg base 3 "_law_bent_table" ["_law_pot_here", "_law_thing", "_law_pairs"] (sp__law_bent_table P w K)) (G_is_table : Fn P w K mg base 8 "is_table" ["task", "rounds", "thing"] (sp_is_table P w K cT)) (G__law_solved : Fn P w K mg base 206 "_law_solved" ["_law_by_pair_here", "_law_left", "_law_told", "_law_turns"] (sp__law_solved P w 202)) : FnOk P w K mg base CX0 207 f fd ["_law_script"] (spLaw K) := by
  have sc : FnScope ["_law_script", "_law_pot_here", "_law_turn", "_law_rounds", "_law_lots", "_law_task", "_law_runs_here", "_law_by_pair_here", "_law_own", "_law_told", "_law_again", "_law_thing", "_law_flag", "_law_pair"] ["_law_script"] (defScope s_law) := sc_by (by decide +kernel)
  refine F.ok sc (fun vs H Q E h => ?_) (fun cdv A outer s H vs Q E hr h => ?_)
  · obtain ⟨_, _, rfl, _⟩ := h; rfl
  · obtain ⟨a, ns, rfl, h, q⟩ := h
    have hu := hu9 hr
    have hu65 := hu65 hr
    have hu1 := hu1_of hr
    refine ⟨_, (pss_cons (ps_set (i := 1) sc.nd rfl (Or.inl rfl) (pe_fn G__law_pot (hr.mono (by decide)) rfl (pa_cons (pv 0) pa_nil)))
      (pss_cons (ps_for PassesOwn.never rfl (pi_range1 (by rfl) T.range (pa_cons pe_int pa_nil)) (pg_name (i := 2) sc.nd rfl (Or.inl rfl) (Or.inl rfl))
        (pss_cons (ps_set (i := 3) sc.nd rfl (Or.inl rfl) (pe_fn G__law_any (hr.mono (by decide)) rfl (pa_cons (pv 1) (pa_cons (pe_lst (pa_cons pe_int (pa_cons pe_int (pa_cons pe_int pa_nil)))) pa_nil))))
          (pss_cons (ps_set (i := 4) sc.nd rfl (Or.inl rfl) (pe_fn G__law_few_lots (hr.mono (by decide)) rfl (pa_cons (pv 1) (pa_cons pe_int (pa_cons pe_int (pa_cons pe_int pa_nil))))))
          (pss_cons (ps_par rfl sc.nd (i := 5) (j := 6) rfl rfl (by decide) rfl rfl (pa_cons (pe_mk1 G_Task (hr.mono (by decide)) rfl (pa_cons pe_int (pa_cons (pv 4) pa_nil))) (pa_cons (pe_fn G__law_runs (hr.mono (by decide)) rfl (pa_cons pe_int (pa_cons (pv 4) (pa_cons (pv 3) pa_nil)))) pa_nil)) rfl)
          (pss_cons (ps_set (i := 7) sc.nd rfl (Or.inr rfl) (pe_fn G__law_by_pair (hr.mono (by decide)) rfl (pa_cons (pv 6) pa_nil)))
          (C8.pss_cut (ps_par rfl sc.nd (i := 8) (j := 9) rfl rfl (by decide) rfl rfl (pa_cons (pe_fn G__law_solved (hr.mono (by decide)) rfl (pa_cons (pv 7) (pa_cons (pe_callTy (call_listN rfl) (by rfl) T.list (by decide +kernel) (pa_cons (pv 7) pa_nil)) (pa_cons pe_dnewN (pa_cons (pe_lst (pa_cons pe_int pa_nil)) pa_nil))))) (pa_cons (pe_fn G_table (hr.mono (by decide)) rfl (pa_cons (pv 5) (pa_cons (pv 3) pa_nil))) pa_nil)) rfl)
          (C8.pss_cut (ps_if (PW.pt (pw_and (pt_cmpR (by exact or_neS hr.units0) (pv 8) pe_str (nomark _)) (pw_and1 (pt_cmpR op_ne (pe_cmp (pc_isN (pv 8))) (pe_cmp (pc_isN (pv 9))) (nomark _)))))
            (pss_one (ps_ret pe_bl))
            pss_nil)
          (C8.pss_cut (ps_if (PW.pt (pw_and (pt_cmp (pc_notN (pv 9))) (pw_and1 (pt_not (pt_val (pe_fn G__law_is_table (hr.mono (by decide)) rfl (pa_cons (pv 6) (pa_cons (pv 7) (pa_cons (pv 9) pa_nil)))))))))
            (pss_one (ps_ret pe_bl))
            pss_nil)
          (C8.pss_cut (ps_if (pt_cmp (pc_isN (pv 9)))
            (pss_one (ps_lock (ps_set (i := 9) sc.nd rfl (Or.inl rfl) (pe_callTy (call_dictPairsN rfl hu65) (by rfl) T.dict (by decide +kernel) (pa_cons (pe_lc (own := [("_law_pair", 13)]) rfl sc.nd (pi_keysN (pv 7)) (blkOk_by (by kernel_rfl)) (fun _ _ _ _ _ => (pg_name (i := 13) sc.nd rfl (Or.inl rfl) (Or.inr rfl))) (fun _ _ _ _ _ => pts_nil) (fun _ _ _ _ _ => (pe_tup (pa_cons (pv 13) (pa_cons (pe_ix ixt (pe_ix ixt (pe_ix ixt (pe_ix ixl (pe_ngetP P w hu (pv 7) (pv 13) (fun _ _ => rfl)) pe_int (fun _ _ => rfl)) pe_int (fun _ _ => rfl)) pe_int (fun _ _ => rfl)) (pe_ix ixt (pv 13) pe_int (fun _ _ => rfl)) (fun _ _ => rfl)) pa_nil))))) pa_nil)))))
            pss_nil)
          (pss_one (ps_for PassesOwn.never rfl (pi_range1 (by rfl) T.range (pa_cons pe_int pa_nil)) (pg_name (i := 10) sc.nd rfl (Or.inl rfl) (Or.inl rfl))
            (C8.pss_cut (ps_set (i := 11) sc.nd rfl (Or.inl rfl) (pe_ifExp (pt_cmpR op_eq (pv 10) pe_int (nomark _)) (pv 9) (pe_fn G__law_bent_table (hr.mono (by decide)) rfl (pa_cons (pv 1) (pa_cons (pv 9) (pa_cons (pe_callTy (call_listN rfl) (by rfl) T.list (by decide +kernel) (pa_cons (pv 7) pa_nil)) pa_nil))))))
              (pss_cons (ps_set (i := 12) sc.nd rfl (Or.inl rfl) (pe_fn G_is_table (hr.mono (by decide)) rfl (pa_cons (pv 5) (pa_cons (pv 3) (pa_cons (pv 11) pa_nil)))))
              (pss_one (ps_if (PW.pt (pw_or (pt_not (pt_val (pe_callB call_isT (by rfl) T.isinstance (by decide +kernel) (pa_cons (pv 12) (pa_cons (pe_bltn (v := .ty "bool") rfl T.bool (by decide +kernel) rfl) pa_nil))))) (pw_or1 (pt_cmpR op_ne (pv 12) (pe_fn G__law_is_table (hr.mono (by decide)) rfl (pa_cons (pv 6) (pa_cons (pv 7) (pa_cons (pv 11) pa_nil)))) (nomark _)))))
                (pss_one (ps_ret pe_bl))
                pss_nil)))))))))))))))
      (pss_one (ps_ret pe_bl)))), ?_⟩
    refine ⟨_, rfl, a, ns, rfl, h, fun p c H1 s1 z1 z2 hp1 => ?_⟩
    refine ⟨2, rfl, by decide, by decide, for_it (n := 2) walkR (fun i σ H' => ∃ (v2 v3 v4 v5 v6 v7 v8 v9 v10 v11 v12 v13 : Option V), σ = [some (.ref a), some (.ref p), v2, v3, v4, v5, v6, v7, v8, v9, v10, v11, v12, v13] ∧ Pot H' p c) ⟨_, _, _, _, _, _, _, _, _, _, _, _, rfl, hp1⟩ (fun _ _ _ _ _ => trivial) ?_ ?_⟩
    · rintro i x σ H2' H2 hi ⟨v2, v3, v4, v5, v6, v7, v8, v9, v10, v11, v12, v13, rfl, hp2⟩ ⟨rfl, rfl⟩
      refine ⟨_, rfl, by show 3 ≤ sizeLine; decide, fun l3 hl3 => ?_⟩
      have s3 : Same H2 (upd H2 l3 (.lst [.int 0, .int 1, .int 1])) := same_upd _ hl3
      refine ⟨p, c, l3, _, rfl, hp2.mono s3, upd_same, (hp2.ne hl3).1, by show 0 < 3; decide, by show 3 < 1000000; decide, fun j v H4 k4 hp4 hj => ?_⟩
      have hr1' : ∃ r : Nat, v = .int r ∧ r ≤ 1 := by
        match j, hj with
        | 0, h => cases h; exact ⟨0, rfl, by decide⟩
        | 1, h => cases h; exact ⟨1, rfl, by decide⟩
        | 2, h => cases h; exact ⟨1, rfl, by decide⟩
      obtain ⟨r, rfl, hr1⟩ := hr1'
      refine ⟨_, rfl, p, c, rfl, hp4, fun lt L H5 k5 hp5 hL hlots => ?_⟩
      refine ⟨_, rfl, fun tk dx htk hdx ndx => ?_⟩
      have s6 : Same H5 (upd (upd H5 dx (.own tk)) tk (.ins cT dx [])) := fun b o e => by rw [upd_ne (ne_of_none e htk), upd_ne (ne_of_none e hdx)]; exact e
      have e6 : upd (upd H5 dx (.own tk)) tk (.ins cT dx []) tk = some (.ins cT dx []) := upd_same
      generalize upd (upd H5 dx (.own tk)) tk (.ins cT dx []) = H6 at s6 e6
      refine ⟨tk, dx, lt, L, rfl, e6, NK.mono (KeepT.of_same s6) _ _ hlots, hL, fun H7 k7 task7 => ⟨rfl, ?_⟩⟩
      have s57 : Same H5 H7 := fun b o e => k7 _ _ (s6 _ _ e) (by rw [List.mem_singleton]; exact ne_of_none e htk)
      refine ⟨_, rfl, _, rfl, lt, L, r, rfl, NK.mono (KeepT.of_same s57) _ _ hlots, hL, hr1, fun rl us H8 s8 z8 e8 n8 => ⟨_, _, rfl, ?_⟩⟩
      refine ⟨_, rfl, rl, us, L, r, rfl, e8, n8, hL, hr1, fun d G o H9 s9 D9 hG => ?_⟩
      have s59 : Same H5 H9 := (s57.trans s8).trans s9
      have hp9 := hp5.mono s59
      have A9 : LawAt P w cT H9 tk lt rl d us L r := ⟨(task7.mono s8).mono s9, NK.mono (KeepT.of_same s59) _ _ hlots, s9 _ _ e8, NKs.mono (KeepT.of_same s9) _ _ n8, o, D9.nd, fun k hk => ⟨G k, D9.at_ k hk, hG k⟩⟩
      clear D9 hG n8 e8 task7 hlots
      have hmost : (pairsL L r).length ≤ 201 := by
        refine Nat.le_trans (nodup_sub_len (m := keysU) (ksOf_nodup L _ : (pairsL L r).Nodup) (pairsL_U hL hr1)) ?_
        decide +kernel
      refine ⟨fun σ' H' => ∃ (own told : V) (v10 v11 v12 v13 : Option V), σ' = [some (.ref a), some (.ref p), some (.int i), some (.int r), some (.ref lt), some (.ref tk), some (.ref rl), some (.ref d), some own, some told, v10, v11, v12, v13] ∧ Pot H' p c ∧ LawAt P w cT H' tk lt rl d us L r ∧
        ((own = .non ∧ ¬∃ g, SolK L r g) ∨ (∃ b kvs, own = .ref b ∧ NDr P w H' b kvs ∧ ∃ g, SolK L r g) ∨ own = .str "open") ∧ ((∃ dT T, told = .ref dT ∧ ND P w H' dT (tabK L r T) ∧ Sol L r T) ∨ (told = .non ∧ ¬∃ T, Sol L r T)), ?_, ?_⟩
      · obtain ⟨ob, ⟨ws, hd, hkw, hnw⟩, hob⟩ := id A9.bp
        have wfst : ws.map (·.1) = pairsL L r := by
          have := congrArg (List.map (·.1)) hkw
          rw [kvOf_keys, List.map_map] at this
          rw [this]
          exact (List.map_congr_left fun _ _ => rfl).trans (List.map_id _)
        have hrefs : ∀ H', Same H9 H' → NKs H' (pairsL L r) (ws.map fun x => V.ref x.2.1) := fun H' s => by
          rw [← wfst]
          have : ∀ xs : List NEnt, (∀ x ∈ xs, NK H9 x.1 (.ref x.2.1)) → NKs H9 (xs.map (·.1)) (xs.map fun x => V.ref x.2.1) := by
            intro xs
            induction xs with
            | nil => intro _; exact rfl
            | cons x xs ih => intro h; exact ⟨_, _, rfl, h x List.mem_cons_self, ih fun y hy => h y (List.mem_cons_of_mem _ hy)⟩
          exact NKs.mono (KeepT.of_same s) _ _ (this ws fun x hx => (hnw x hx).1)
        have wlen : ws.length = (pairsL L r).length := by rw [← wfst, List.length_map]
        refine ⟨_, rfl, _, rfl, d, ws, rfl, .inl hd, fun l hl => ?_⟩
        have sA : Same H9 (upd H9 l (.lst (ws.map fun x => V.ref x.2.1))) := same_upd _ hl
        have eA : upd H9 l (.lst (ws.map fun x => V.ref x.2.1)) l = some (.lst (ws.map fun x => V.ref x.2.1)) := upd_same
        generalize upd H9 l (.lst (ws.map fun x => V.ref x.2.1)) = HA at sA eA
        refine fun td HB htd sB nB => ?_
        refine ⟨by show 1 ≤ sizeLine; decide, fun tn htn => ?_⟩
        have sC : Same HB (upd HB tn (.lst [.int 0])) := same_upd _ htn
        have eC : upd HB tn (.lst [.int 0]) tn = some (.lst [.int 0]) := upd_same
        generalize upd HB tn (.lst [.int 0]) = HC at sC eC
        have s9C := (sA.trans sB).trans sC
        have fresh : ∀ {H' : Hp}, Keep [tn] HC H' → Same H9 H' := fun k b o e => k _ _ (s9C _ _ e) (by
          rw [List.mem_singleton]
          exact ne_of_none (sB _ _ (sA _ _ e)) htn)
        have lC : HC l = some (.lst (ws.map fun x => V.ref x.2.1)) := sC _ _ (sB _ _ eA)
        refine ⟨d, l, td, tn, L, r, 0, (fun _ => 0), _, 0, rfl, hL, hr1, A9.bp.mono s9C, lC, by rw [List.drop_zero]; exact hrefs _ s9C, by rw [List.length_map, wlen]; omega, (nB.mono (KeepT.of_same sC) fun o e => sC _ _ e).rd, eC, told0 _, fun c2 HD kD hD hno => ?_, fun b kvs c2 HD kD hD nD hs => ?_, fun c2 HD kD hD => ?_⟩
        · have sD := fresh kD
          have own : V.non = V.non ∧ ¬∃ g, SolK L r g := ⟨rfl, fun ⟨g, hg⟩ => hno ⟨g, hg, fun k hk => by simp at hk⟩⟩
          refine ⟨_, rfl, _, rfl, tk, lt, L, r, rfl, (A9.mono sD).task, (A9.mono sD).lots, hL, hr1, fun dT HE T sE nT hT => ?_, fun HE sE hnT => ?_⟩
          · exact ⟨_, _, rfl, _, _, _, _, _, _, rfl, hp9.mono (sD.trans sE), A9.mono (sD.trans sE), .inl own, .inl ⟨dT, T, rfl, nT, hT⟩⟩
          · exact ⟨_, _, rfl, _, _, _, _, _, _, rfl, hp9.mono (sD.trans sE), A9.mono (sD.trans sE), .inl own, .inr ⟨rfl, hnT⟩⟩
        · have sD := fresh kD
          refine ⟨_, rfl, _, rfl, tk, lt, L, r, rfl, (A9.mono sD).task, (A9.mono sD).lots, hL, hr1, fun dT HE T sE nT hT => ?_, fun HE sE hnT => ?_⟩
          · exact ⟨_, _, rfl, _, _, _, _, _, _, rfl, hp9.mono (sD.trans sE), A9.mono (sD.trans sE), .inr (.inl ⟨b, kvs, rfl, NDr.same nD sE, hs⟩), .inl ⟨dT, T, rfl, nT, hT⟩⟩
          · exact ⟨_, _, rfl, _, _, _, _, _, _, rfl, hp9.mono (sD.trans sE), A9.mono (sD.trans sE), .inr (.inl ⟨b, kvs, rfl, NDr.same nD sE, hs⟩), .inr ⟨rfl, hnT⟩⟩
        · have sD := fresh kD
          refine ⟨_, rfl, _, rfl, tk, lt, L, r, rfl, (A9.mono sD).task, (A9.mono sD).lots, hL, hr1, fun dT HE T sE nT hT => ?_, fun HE sE hnT => ?_⟩
          · exact ⟨_, _, rfl, _, _, _, _, _, _, rfl, hp9.mono (sD.trans sE), A9.mono (sD.trans sE), .inr (.inr rfl), .inl ⟨dT, T, rfl, nT, hT⟩⟩
          · exact ⟨_, _, rfl, _, _, _, _, _, _, rfl, hp9.mono (sD.trans sE), A9.mono (sD.trans sE), .inr (.inr rfl), .inr ⟨rfl, hnT⟩⟩
      rintro σ HA ⟨own, told, v10, v11, v12, v13, rfl, hpA, AA, hown, htold⟩
      refine ⟨fun σ' H' => ∃ (v8 : Option V) (told : V) (v10 v11 v12 v13 : Option V), σ' = [some (.ref a), some (.ref p), some (.int i), some (.int r), some (.ref lt), some (.ref tk), some (.ref rl), some (.ref d), v8, some told, v10, v11, v12, v13] ∧ Pot H' p c ∧ LawAt P w cT H' tk lt rl d us L r ∧
        ((∃ dT T, told = .ref dT ∧ ND P w H' dT (tabK L r T) ∧ Sol L r T) ∨ (told = .non ∧ ¬∃ T, Sol L r T)), ?_, ?_⟩
      · have go : ∃ (v8' : Option V) (told' : V) (v10' v11' v12' v13' : Option V), [some (.ref a), some (.ref p), some (.int i), some (.int r), some (.ref lt), some (.ref tk), some (.ref rl), some (.ref d), some own, some told, v10, v11, v12, v13] = [some (.ref a), some (.ref p), some (.int i), some (.int r), some (.ref lt), some (.ref tk), some (.ref rl), some (.ref d), v8', some told', v10', v11', v12', v13'] ∧ Pot HA p c ∧ LawAt P w cT HA tk lt rl d us L r ∧
          ((∃ dT T, told' = .ref dT ∧ ND P w HA dT (tabK L r T) ∧ Sol L r T) ∨ (told' = .non ∧ ¬∃ T, Sol L r T)) := ⟨_, _, _, _, _, _, rfl, hpA, AA, htold⟩
        rcases hown with ⟨rfl, hno⟩ | ⟨b, kvs, rfl, nb, g, hg⟩ | rfl
        · rcases htold with ⟨dT, T, rfl, nT, hT⟩ | ⟨rfl, hnT⟩
          · exact absurd ⟨_, sol_K hT⟩ hno
          · exact ⟨_, rfl, _, rfl, .inr (.inl ⟨rfl, _, rfl, ite_t rfl ⟨_, rfl, _, rfl, rfl, _, rfl, ite_f rfl go⟩⟩)⟩
        · rcases htold with ⟨dT, T, rfl, nT, hT⟩ | ⟨rfl, hnT⟩
          · exact ⟨_, rfl, _, rfl, .inl ⟨b, kvs, rfl, nb, _, rfl, ite_t rfl ⟨_, rfl, _, rfl, rfl, _, rfl, ite_f rfl go⟩⟩⟩
          · exact absurd (K_sol hg) hnT
        · exact ⟨_, rfl, _, rfl, .inr (.inr ⟨_, rfl, _, rfl, ite_f (by simp) go⟩)⟩
      clear hown htold
      rintro σ HB ⟨v8, told, v10, v11, v12, v13, rfl, hpB, AB, htold⟩
      refine ⟨fun σ' H' => ∃ (v8 : Option V) (told : V) (v10 v11 v12 v13 : Option V), σ' = [some (.ref a), some (.ref p), some (.int i), some (.int r), some (.ref lt), some (.ref tk), some (.ref rl), some (.ref d), v8, some told, v10, v11, v12, v13] ∧ Pot H' p c ∧ LawAt P w cT H' tk lt rl d us L r ∧
        ((∃ dT T, told = .ref dT ∧ ND P w H' dT (tabK L r T) ∧ Sol L r T) ∨ (told = .non ∧ ¬∃ T, Sol L r T)), ?_, ?_⟩
      · rcases htold with ⟨dT, T, rfl, nT, hT⟩ | ⟨rfl, hnT⟩
        · refine ⟨_, rfl, _, rfl, ite_t rfl ⟨_, rfl, _, rfl, _, rfl, rl, d, .ref dT, us, L, r, _, rfl, hL, hr1, AB.rl_, AB.runs, AB.bp, .dict nT.rd Its.ints, fun HC sC => ⟨_, rfl, ?_⟩⟩⟩
          rw [isTab_sol hT]
          refine ite_f rfl ?_
          exact ⟨_, _, _, _, _, _, rfl, hpB.mono sC, AB.mono sC, .inl ⟨dT, T, rfl, nT.mono (KeepT.of_same sC) fun o e => sC _ _ e, hT⟩⟩
        · refine ⟨_, rfl, _, rfl, ite_f rfl ?_⟩
          exact ⟨_, _, _, _, _, _, rfl, hpB, AB, .inr ⟨rfl, hnT⟩⟩
      clear htold
      rintro σ HC ⟨v8, told, v10, v11, v12, v13, rfl, hpC, AC, htold⟩
      refine ⟨fun σ' H' => ∃ (v8 : Option V) (dT : Addr) (f : NestedKey → Int) (v10 v11 v12 v13 : Option V), σ' = [some (.ref a), some (.ref p), some (.int i), some (.int r), some (.ref lt), some (.ref tk), some (.ref rl), some (.ref d), v8, some (.ref dT), v10, v11, v12, v13] ∧ Pot H' p c ∧ LawAt P w cT H' tk lt rl d us L r ∧
        ND P w H' dT ((pairsL L r).map fun k => (k, V.int (f k))), ?_, ?_⟩
      · rcases htold with ⟨dT, T, rfl, nT, hT⟩ | ⟨rfl, hnT⟩
        · exact ⟨_, rfl, _, rfl, ite_f rfl ⟨_, dT, fun k => T ((pairsL L r).idxOf k), _, _, _, _, rfl, hpC, AC, nT⟩⟩
        · refine ⟨_, rfl, _, rfl, ite_t rfl ?_⟩
          obtain ⟨ob, ⟨ws, hd, hkw, hnw⟩, hob⟩ := id AC.bp
          have ndd : ND P w HC d ((pairsL L r).map fun k => (k, .ref (ob k))) := ⟨ws, hd, hkw, hnw⟩
          have wfst : ws.map (·.1) = pairsL L r := by
            have := congrArg (List.map (·.1)) hkw
            rw [kvOf_keys, List.map_map] at this
            rw [this]
            exact (List.map_congr_left fun _ _ => rfl).trans (List.map_id _)
          have wlen : ws.length = (pairsL L r).length := by rw [← wfst, List.length_map]
          refine ⟨d, NDO P w d ws, hd, trivial, fun od => ?_⟩
          have hlk : upd HC d (.frz od (NDO P w d ws)) d = some (.frz od (NDO P w d ws)) := upd_same
          have ndL := NDr.lock (od := od) hd ndd.rd
          have bk : upd (upd HC d (.frz od (NDO P w d ws))) d (NDO P w d ws) = HC := upd_back hd
          have kL : KeepT HC (upd HC d (.frz od (NDO P w d ws))) := keepT_lock hd
          have lL : ∀ {x : Addr} {vs : List V}, HC x = some (.lst vs) → upd HC d (.frz od (NDO P w d ws)) x = some (.lst vs) := fun {x vs} e => by
            rw [upd_ne (fun z => by rw [z, hd] at e; cases e)]; exact e
          have oth : ∀ {x : Addr}, x ≠ d → upd HC d (.frz od (NDO P w d ws)) x = HC x := fun n => upd_ne n
          generalize upd HC d (.frz od (NDO P w d ws)) = HL at hlk ndL bk kL lL oth
          refine ⟨_, rfl, d, od, ws, rfl, hlk, fun D hD => lc_map walk_keysN [] (by simp) (by omega) hD (fun H' k => k _ _ hlk (by simp)) (fun j H' acc => ∃ ts : List Addr, acc = ts.map V.ref ∧ ts.length = j ∧ ∀ (q : Nat) (t : Addr) (en : NEnt), ts[q]? = some t → ws[q]? = some en → H' t = some (.tup [.ref en.2.1, .int (fvK L r en.1)])) ⟨[], rfl, rfl, by simp⟩ (fun j x H1' H1 acc Kf hj k hacc hl hR hY hK => ?_) (fun H1 acc k hacc hl hR => ?_)⟩
          · obtain ⟨rfl, en, hen, rfl⟩ := hY
            obtain ⟨ts, rfl, tl, hts⟩ := hR
            have s1 : Same HL H1 := Keep.same k
            have nken := (hnw en (List.mem_of_getElem? hen)).1
            have hkm : en.1 ∈ pairsL L r := by rw [← wfst]; exact List.mem_map.mpr ⟨en, List.mem_of_getElem? hen, rfl⟩
            have hdep := keysU_depth _ (pairsL_U hL hr1 _ hkm)
            obtain ⟨u0, us0, eh, hu0, hk0⟩ := hasL_cons hkm
            obtain ⟨m, vv, ekey, hm3, hmp⟩ := pair_form hL hu0 hk0
            have efv : fvK L r en.1 = ((lotAt L u0.1).getD 0 []).getD m 0 := by
              rw [ekey]
              unfold fvK
              rw [← ekey, eh, ekey]
              rfl
            obtain ⟨rv, erv, nrv⟩ := hob _ hkm
            have hvk : valV ((pairsL L r).map fun k => (k, V.ref (ob k))) en.1 = some (.ref (ob en.1)) := valV_map.trans (if_pos hkm)
            have hlot := lot_ok hL hu0
            rw [eh] at nrv
            obtain ⟨v0, vs0, erv0, nv0, _⟩ := nrv
            obtain ⟨c0, cs0, rfl, gc0, hcs0⟩ := id nv0
            obtain ⟨y1, _, rfl, m1, y2, _, rfl, m2, y3, _, rfl, m3, y4, _, rfl, m4, rfl⟩ := id hcs0
            obtain ⟨ltt, ls, rfl, gl, hls⟩ := id m4
            have llen := hls.lenK
            have lpos := hlot.pos
            obtain ⟨row, erow⟩ : ∃ row, (lotAt L u0.1)[0]? = some row := ⟨_, List.getElem?_eq_getElem (by omega)⟩
            obtain ⟨rv2, erv2, nrow⟩ := NKs.toK hls erow
            obtain ⟨ra, rfl, gra⟩ := nrow.rowI
            have hr3 := hlot.rows row (List.mem_of_getElem? erow)
            have ktl : KeepT HC H1 := kL.trans (KeepT.of_same s1)
            rw [ekey] at nken
            obtain ⟨_, ens, een, gen, hens⟩ := id nken
            obtain ⟨e1, _, rfl, h1, e2, _, rfl, h2, rfl⟩ := id hens
            obtain rfl : e1 = .int m := h1
            rw [← ekey] at nken
            have eaddr : en.2.1 = _ := V.ref.inj een
            have hrw : (row.map V.int)[m]? = some (.int (row.getD m 0)) := by rw [List.getElem?_map, (row3_get hr3 hm3).1]; rfl
            have erow0 : ((lotAt L u0.1).getD 0 []) = row := by rw [List.getD_eq_getElem?_getD, erow]; rfl
            rw [erow0] at efv
            refine ⟨rfl, _, rfl, _, rfl, _, rfl, d, _, en.2.1, en.1, _, rfl, rfl, NDr.same ndL s1, NK.mono ktl _ _ nken, hdep, hvk, ob en.1, rv, 0, _, rfl, rfl, s1 _ _ (lL erv), by rw [erv0]; rfl, c0, _, 3, _, rfl, rfl, ktl _ _ gc0, rfl, ltt, ls, 0, _, rfl, rfl, ktl _ _ gl, erv2, _, rfl, en.2.1, _, 0, _, rfl, rfl, by rw [eaddr]; exact ktl _ _ gen, rfl, ra, _, m, _, rfl, rfl, ktl _ _ gra, hrw, by show 2 ≤ sizeLine; decide, fun t ht => hK _ _ (Keep.of_same (same_upd _ ht)) ?_⟩
            have nt : D ≠ t := fun z => by rw [z, ht] at hacc; cases hacc
            refine ⟨ts ++ [t], by rw [List.map_append]; rfl, by simp [tl], fun q t' en' hq hen' => ?_⟩
            have sT : Same H1 (upd H1 t (.tup [.ref en.2.1, .int (row.getD m 0)])) := same_upd _ ht
            have kT : KeepT (upd H1 t (.tup [.ref en.2.1, .int (row.getD m 0)])) (upd (upd H1 t (.tup [.ref en.2.1, .int (row.getD m 0)])) D (.lst (ts.map V.ref ++ [.ref t]))) := keepT_upd fun xs e => by rw [sT _ _ hacc] at e; cases e
            by_cases c : q < ts.length
            · rw [List.getElem?_append_left c] at hq
              exact kT _ _ (sT _ _ (hts q t' en' hq hen'))
            · have hq2 : q = ts.length := by
                have := (List.getElem?_eq_some_iff.mp hq).1
                simp at this; omega
              subst hq2
              rw [List.getElem?_append_right (Nat.le_refl _)] at hq
              simp at hq
              subst hq
              rw [tl, hen] at hen'
              cases hen'
              rw [efv]
              exact kT _ _ upd_same
          · obtain ⟨ts, rfl, tl, hts⟩ := hR
            have s1 : Same HL H1 := Keep.same k
            have hps : kvOf (ws.map fun e => (e.1, e.2.1, V.int (fvK L r e.1))) = (pairsL L r).map fun k => (k, V.int (fvK L r k)) := by
              unfold kvOf
              rw [← wfst, List.map_map, List.map_map]; rfl
            refine ⟨D, ts, ws.map fun e => (e.1, e.2.1, V.int (fvK L r e.1)), rfl, SqL.of hacc, paired_of (by rw [List.length_map]; exact tl) (fun q t en h1 h2 => ?_), fun x hx => ?_, ?_, fun pd HF hpd sF ndF => ?_⟩
            · rw [List.getElem?_map] at h2
              obtain ⟨en', hen', rfl⟩ := Option.map_eq_some_iff.mp h2
              exact hts q t en' h1 hen'
            · obtain ⟨en, hen, rfl⟩ := List.mem_map.mp hx
              exact ⟨NK.mono (kL.trans (KeepT.of_same s1)) _ _ (hnw en hen).1, (hnw en hen).2⟩
            · rw [List.map_map]
              show (ws.map (·.1)).Nodup
              rw [wfst]; exact ksOf_nodup L _
            rw [hps] at ndF
            have dF : HF d = some (.frz od (NDO P w d ws)) := sF _ _ (s1 _ _ hlk)
            have sS : Same HC (upd HF d (NDO P w d ws)) := fun b o e => by
              by_cases c : b = d
              · subst c; rw [upd_same, ← hd]; exact e
              · rw [upd_ne c]; exact sF _ _ (s1 _ _ (by rw [oth c]; exact e))
            have npd : pd ≠ d := fun z => by rw [z, s1 _ _ hlk] at hpd; cases hpd
            refine ⟨dF, _, pd, fvK L r, _, _, _, _, rfl, hpC.mono sS, AC.mono sS, ndF.mono (keepT_upd fun xs e => by rw [dF] at e; cases e) fun o e => by rw [upd_ne npd]; exact e⟩
      clear htold
      rintro σ HD ⟨v8, dT, f', v10, v11, v12, v13, rfl, hpD, AD, nD⟩
      refine ⟨4, rfl, by decide, by decide, for_it (n := 4) walkR (fun j σ H' => ∃ (v8 v10 v11 v12 v13 : Option V), σ = [some (.ref a), some (.ref p), some (.int i), some (.int r), some (.ref lt), some (.ref tk), some (.ref rl), some (.ref d), v8, some (.ref dT), v10, v11, v12, v13] ∧ Pot H' p c ∧ LawAt P w cT H' tk lt rl d us L r ∧ ND P w H' dT ((pairsL L r).map fun k => (k, V.int (f' k)))) ⟨_, _, _, _, _, rfl, hpD, AD, nD⟩ (fun _ _ _ _ _ => trivial) ?_ ?_⟩
      · rintro j x σ HE' HE hj ⟨v8, v10, v11, v12, v13, rfl, hpE, AE, nE⟩ ⟨rfl, rfl⟩
        refine ⟨fun σ' H' => ∃ (v8 : Option V) (th : V) (o : Option (List (NestedKey × V))) (v12 v13 : Option V), σ' = [some (.ref a), some (.ref p), some (.int i), some (.int r), some (.ref lt), some (.ref tk), some (.ref rl), some (.ref d), v8, some (.ref dT), some (.int j), some th, v12, v13] ∧ Pot H' p c ∧ LawAt P w cT H' tk lt rl d us L r ∧ ND P w H' dT ((pairsL L r).map fun k => (k, V.int (f' k))) ∧ Thing P w K H' th o, ?_, ?_⟩
        · refine ⟨_, rfl, rfl, _, rfl, ite_any ⟨_, rfl, _, .ref dT, _, _, _, rfl, hpE, AE, nE, .dict nE.rd Its.ints⟩ ?_⟩
          obtain ⟨ob, ⟨ws, hd, hkw, hnw⟩, hob⟩ := id AE.bp
          have wfst : ws.map (·.1) = pairsL L r := by
            have := congrArg (List.map (·.1)) hkw
            rw [kvOf_keys, List.map_map] at this
            rw [this]
            exact (List.map_congr_left fun _ _ => rfl).trans (List.map_id _)
          refine ⟨_, rfl, _, rfl, _, rfl, d, ws, rfl, .inl hd, fun l hl => ?_⟩
          have sA : Same HE (upd HE l (.lst (ws.map fun x => V.ref x.2.1))) := same_upd _ hl
          have hrefs : NKs (upd HE l (.lst (ws.map fun x => V.ref x.2.1))) (pairsL L r) (ws.map fun x => V.ref x.2.1) := by
            rw [← wfst]
            have : ∀ xs : List NEnt, (∀ x ∈ xs, NK HE x.1 (.ref x.2.1)) → NKs HE (xs.map (·.1)) (xs.map fun x => V.ref x.2.1) := by
              intro xs
              induction xs with
              | nil => intro _; exact rfl
              | cons x xs ih => intro h; exact ⟨_, _, rfl, h x List.mem_cons_self, ih fun y hy => h y (List.mem_cons_of_mem _ hy)⟩
            exact NKs.mono (KeepT.of_same sA) _ _ (this ws fun x hx => (hnw x hx).1)
          refine ⟨p, c, dT, l, L, r, f', _, rfl, hpE.mono sA, hL, hr1, nE.mono (KeepT.of_same sA) fun o e => sA _ _ e, upd_same, hrefs, fun v o HF kF hpF thF => ?_⟩
          have kE : Keep [p] HE HF := (Keep.of_same sA).trans kF
          exact ⟨_, v, o, _, _, rfl, hpF, AE.keepP hpE kE, nE.keepP hpE kE, thF⟩
        · rintro σ HF ⟨v8, th, o, v12, v13, rfl, hpF, AF, nF, thF⟩
          refine ⟨_, rfl, _, rfl, _, rfl, tk, lt, L, r, th, o, rfl, AF.task, AF.lots, hL, hr1, thF, fun HG sG => ?_⟩
          refine ⟨_, rfl, _, "bool", "bool", true, rfl, .bl _, kit_ty (by decide +kernel), _, rfl, ite_f rfl ?_⟩
          refine ⟨_, rfl, _, rfl, _, rfl, _, rfl, rl, d, th, us, L, r, o, rfl, hL, hr1, (AF.mono sG).rl_, (AF.mono sG).runs, (AF.mono sG).bp, thF.mono sG, fun HH sH => ⟨?_, _, rfl, ite_f ?_ ?_⟩⟩
          · rfl
          · simp
          · exact ⟨_, _, _, _, _, rfl, hpF.mono (sG.trans sH), AF.mono (sG.trans sH), nF.mono (KeepT.of_same (sG.trans sH)) fun o e => (sG.trans sH) _ _ e⟩
      · rintro σ HE ⟨v8, v10, v11, v12, v13, rfl, hpE, AE, nE⟩
        exact ⟨_, _, _, _, _, _, _, _, _, _, _, _, rfl, hpE⟩
    · rintro σ H2 ⟨v2, v3, v4, v5, v6, v7, v8, v9, v10, v11, v12, v13, rfl, hp2⟩
      exact q _

end
end S1

/-! LT: what the top has written, the walk -/
namespace S1
open PySem L2 PyProof.Rows
theorem all_mk {l : PySem.W.OpenLaw} {w : World} {K : PySem.W.Frag} {h : Heap} {mg : Str → Option Value} {fa cT cR cS cA f0 f1 f2 f3 f4 f5 f6 f7 f8 f9 f10 f11 f12 f13 f14 f15 f16 f17 f18 f19 f20 f21 f22 f23 f24 f25 f26 f27 f28 f29 f30 f31 f32 f33 f34 f35 f36 f37 f38 f39 f40 f41 f42 f43 f44 f45 f46 f47 f48 f49 f50 f51 f52 f53 f54 f55 f56 f57 f58 f59 : Addr} (X : K.In h) (G : h.Ns mainGlobals mg) (hfa : mg "law" = some (.ref fa))
    {od0 an0 : Option Addr} {sl0 : Array (Option Value)} {oc0 kV0 dc0 pm0 cd0 ct0 : Value}
    {od1 an1 : Option Addr} {sl1 : Array (Option Value)} {oc1 kV1 dc1 pm1 cd1 ct1 : Value}
    {od2 an2 : Option Addr} {sl2 : Array (Option Value)} {oc2 kV2 dc2 pm2 cd2 ct2 : Value}
    {od3 an3 : Option Addr} {sl3 : Array (Option Value)} {oc3 kV3 dc3 pm3 cd3 ct3 : Value}
    {od4 an4 : Option Addr} {sl4 : Array (Option Value)} {oc4 kV4 dc4 pm4 cd4 ct4 : Value}
    {od5 an5 : Option Addr} {sl5 : Array (Option Value)} {oc5 kV5 dc5 pm5 cd5 ct5 : Value}
    {od6 an6 : Option Addr} {sl6 : Array (Option Value)} {oc6 kV6 dc6 pm6 cd6 ct6 : Value}
    {od7 an7 : Option Addr} {sl7 : Array (Option Value)} {oc7 kV7 dc7 pm7 cd7 ct7 : Value}
    {od8 an8 : Option Addr} {sl8 : Array (Option Value)} {oc8 kV8 dc8 pm8 cd8 ct8 : Value}
    {od9 an9 : Option Addr} {sl9 : Array (Option Value)} {oc9 kV9 dc9 pm9 cd9 ct9 : Value}
    {od10 an10 : Option Addr} {sl10 : Array (Option Value)} {oc10 kV10 dc10 pm10 cd10 ct10 : Value}
    {od11 an11 : Option Addr} {sl11 : Array (Option Value)} {oc11 kV11 dc11 pm11 cd11 ct11 : Value}
    {od12 an12 : Option Addr} {sl12 : Array (Option Value)} {oc12 kV12 dc12 pm12 cd12 ct12 : Value}
    {od13 an13 : Option Addr} {sl13 : Array (Option Value)} {oc13 kV13 dc13 pm13 cd13 ct13 : Value}
    {od14 an14 : Option Addr} {sl14 : Array (Option Value)} {oc14 kV14 dc14 pm14 cd14 ct14 : Value}
    {od15 an15 : Option Addr} {sl15 : Array (Option Value)} {oc15 kV15 dc15 pm15 cd15 ct15 : Value}
    {od16 an16 : Option Addr} {sl16 : Array (Option Value)} {oc16 kV16 dc16 pm16 cd16 ct16 : Value}
    {od17 an17 : Option Addr} {sl17 : Array (Option Value)} {oc17 kV17 dc17 pm17 cd17 ct17 : Value}
    {od18 an18 : Option Addr} {sl18 : Array (Option Value)} {oc18 kV18 dc18 pm18 cd18 ct18 : Value}
    {od19 an19 : Option Addr} {sl19 : Array (Option Value)} {oc19 kV19 dc19 pm19 cd19 ct19 : Value}
    {od20 an20 : Option Addr} {sl20 : Array (Option Value)} {oc20 kV20 dc20 pm20 cd20 ct20 : Value}
    {od21 an21 : Option Addr} {sl21 : Array (Option Value)} {oc21 kV21 dc21 pm21 cd21 ct21 : Value}
    {od22 an22 : Option Addr} {sl22 : Array (Option Value)} {oc22 kV22 dc22 pm22 cd22 ct22 : Value}
    {od23 an23 : Option Addr} {sl23 : Array (Option Value)} {oc23 kV23 dc23 pm23 cd23 ct23 : Value}
    {od24 an24 : Option Addr} {sl24 : Array (Option Value)} {oc24 kV24 dc24 pm24 cd24 ct24 : Value}
    {od25 an25 : Option Addr} {sl25 : Array (Option Value)} {oc25 kV25 dc25 pm25 cd25 ct25 : Value}
    {od26 an26 : Option Addr} {sl26 : Array (Option Value)} {oc26 kV26 dc26 pm26 cd26 ct26 : Value}
    {od27 an27 : Option Addr} {sl27 : Array (Option Value)} {oc27 kV27 dc27 pm27 cd27 ct27 : Value}
    {od28 an28 : Option Addr} {sl28 : Array (Option Value)} {oc28 kV28 dc28 pm28 cd28 ct28 : Value}
    {od29 an29 : Option Addr} {sl29 : Array (Option Value)} {oc29 kV29 dc29 pm29 cd29 ct29 : Value}
    {od30 an30 : Option Addr} {sl30 : Array (Option Value)} {oc30 kV30 dc30 pm30 cd30 ct30 : Value}
    {od31 an31 : Option Addr} {sl31 : Array (Option Value)} {oc31 kV31 dc31 pm31 cd31 ct31 : Value}
    {od32 an32 : Option Addr} {sl32 : Array (Option Value)} {oc32 kV32 dc32 pm32 cd32 ct32 : Value}
    {od33 an33 : Option Addr} {sl33 : Array (Option Value)} {oc33 kV33 dc33 pm33 cd33 ct33 : Value}
    {od34 an34 : Option Addr} {sl34 : Array (Option Value)} {oc34 kV34 dc34 pm34 cd34 ct34 : Value}
    {od35 an35 : Option Addr} {sl35 : Array (Option Value)} {oc35 kV35 dc35 pm35 cd35 ct35 : Value}
    {od36 an36 : Option Addr} {sl36 : Array (Option Value)} {oc36 kV36 dc36 pm36 cd36 ct36 : Value}
    {od37 an37 : Option Addr} {sl37 : Array (Option Value)} {oc37 kV37 dc37 pm37 cd37 ct37 : Value}
    {od38 an38 : Option Addr} {sl38 : Array (Option Value)} {oc38 kV38 dc38 pm38 cd38 ct38 : Value}
    {od39 an39 : Option Addr} {sl39 : Array (Option Value)} {oc39 kV39 dc39 pm39 cd39 ct39 : Value}
    {od40 an40 : Option Addr} {sl40 : Array (Option Value)} {oc40 kV40 dc40 pm40 cd40 ct40 : Value}
    {od41 an41 : Option Addr} {sl41 : Array (Option Value)} {oc41 kV41 dc41 pm41 cd41 ct41 : Value}
    {od42 an42 : Option Addr} {sl42 : Array (Option Value)} {oc42 kV42 dc42 pm42 cd42 ct42 : Value}
    {od43 an43 : Option Addr} {sl43 : Array (Option Value)} {oc43 kV43 dc43 pm43 cd43 ct43 : Value}
    {od44 an44 : Option Addr} {sl44 : Array (Option Value)} {oc44 kV44 dc44 pm44 cd44 ct44 : Value}
    {od45 an45 : Option Addr} {sl45 : Array (Option Value)} {oc45 kV45 dc45 pm45 cd45 ct45 : Value}
    {od46 an46 : Option Addr} {sl46 : Array (Option Value)} {oc46 kV46 dc46 pm46 cd46 ct46 : Value}
    {od47 an47 : Option Addr} {sl47 : Array (Option Value)} {oc47 kV47 dc47 pm47 cd47 ct47 : Value}
    {od48 an48 : Option Addr} {sl48 : Array (Option Value)} {oc48 kV48 dc48 pm48 cd48 ct48 : Value}
    {od49 an49 : Option Addr} {sl49 : Array (Option Value)} {oc49 kV49 dc49 pm49 cd49 ct49 : Value}
    {od50 an50 : Option Addr} {sl50 : Array (Option Value)} {oc50 kV50 dc50 pm50 cd50 ct50 : Value}
    {od51 an51 : Option Addr} {sl51 : Array (Option Value)} {oc51 kV51 dc51 pm51 cd51 ct51 : Value}
    {od52 an52 : Option Addr} {sl52 : Array (Option Value)} {oc52 kV52 dc52 pm52 cd52 ct52 : Value}
    {od53 an53 : Option Addr} {sl53 : Array (Option Value)} {oc53 kV53 dc53 pm53 cd53 ct53 : Value}
    {od54 an54 : Option Addr} {sl54 : Array (Option Value)} {oc54 kV54 dc54 pm54 cd54 ct54 : Value}
    {od55 an55 : Option Addr} {sl55 : Array (Option Value)} {oc55 kV55 dc55 pm55 cd55 ct55 : Value}
    {od56 an56 : Option Addr} {sl56 : Array (Option Value)} {oc56 kV56 dc56 pm56 cd56 ct56 : Value}
    {od57 an57 : Option Addr} {sl57 : Array (Option Value)} {oc57 kV57 dc57 pm57 cd57 ct57 : Value}
    {od58 an58 : Option Addr} {sl58 : Array (Option Value)} {oc58 kV58 dc58 pm58 cd58 ct58 : Value}
    {od59 an59 : Option Addr} {sl59 : Array (Option Value)} {oc59 kV59 dc59 pm59 cd59 ct59 : Value}
    {t_LEAST_MANY : Tok}
    {t_MOST_MANY : Tok}
    {t_MOST_ROUNDS : Tok}
    {t_MOST_VIEWED : Tok}
    {t_MOST_RUNS : Tok}
    {t_MOST_PAIRS : Tok}
    {t_MOST_INPUTS : Tok}
    {t_MOST_ROWS : Tok}
    {t_MOST_NUMBER : Tok}
    (aT : PySem.W.nsIn K mainGlobals "Task" = some (some (.ref cT)))
    (aR : PySem.W.nsIn K mainGlobals "Runs" = some (some (.ref cR)))
    (aS : PySem.W.nsIn K mainGlobals "Split" = some (some (.ref cS)))
    (aA : PySem.W.nsIn K mainGlobals "Asking" = some (some (.ref cA)))
    (a0 : PySem.W.nsIn K mainGlobals "is_integer" = some (some (.ref f0)))
    (l0 : K.lookup f0 = some ⟨oc0, od0, .func (PySem.W.fnOf "is_integer" "is_integer" (defArgs s_is_integer) (defBody s_is_integer) (defScope s_is_integer) .none kV0 dc0 pm0 an0 cd0 ct0), sl0⟩)
    (c0 : PySem.W.codeIn K cd0 "is_integer" = true)
    (k0 : PySem.W.keepIn K (.ref f0) = true)
    (a1 : PySem.W.nsIn K mainGlobals "is_within" = some (some (.ref f1)))
    (l1 : K.lookup f1 = some ⟨oc1, od1, .func (PySem.W.fnOf "is_within" "is_within" (defArgs s_is_within) (defBody s_is_within) (defScope s_is_within) .none kV1 dc1 pm1 an1 cd1 ct1), sl1⟩)
    (c1 : PySem.W.codeIn K cd1 "is_within" = true)
    (k1 : PySem.W.keepIn K (.ref f1) = true)
    (a2 : PySem.W.nsIn K mainGlobals "is_many" = some (some (.ref f2)))
    (l2 : K.lookup f2 = some ⟨oc2, od2, .func (PySem.W.fnOf "is_many" "is_many" (defArgs s_is_many) (defBody s_is_many) (defScope s_is_many) .none kV2 dc2 pm2 an2 cd2 ct2), sl2⟩)
    (c2 : PySem.W.codeIn K cd2 "is_many" = true)
    (k2 : PySem.W.keepIn K (.ref f2) = true)
    (a3 : PySem.W.nsIn K mainGlobals "is_sized" = some (some (.ref f3)))
    (l3 : K.lookup f3 = some ⟨oc3, od3, .func (PySem.W.fnOf "is_sized" "is_sized" (defArgs s_is_sized) (defBody s_is_sized) (defScope s_is_sized) .none kV3 dc3 pm3 an3 cd3 ct3), sl3⟩)
    (c3 : PySem.W.codeIn K cd3 "is_sized" = true)
    (k3 : PySem.W.keepIn K (.ref f3) = true)
    (a4 : PySem.W.nsIn K mainGlobals "is_pair" = some (some (.ref f4)))
    (l4 : K.lookup f4 = some ⟨oc4, od4, .func (PySem.W.fnOf "is_pair" "is_pair" (defArgs s_is_pair) (defBody s_is_pair) (defScope s_is_pair) .none kV4 dc4 pm4 an4 cd4 ct4), sl4⟩)
    (c4 : PySem.W.codeIn K cd4 "is_pair" = true)
    (k4 : PySem.W.keepIn K (.ref f4) = true)
    (a5 : PySem.W.nsIn K mainGlobals "is_row_of" = some (some (.ref f5)))
    (l5 : K.lookup f5 = some ⟨oc5, od5, .func (PySem.W.fnOf "is_row_of" "is_row_of" (defArgs s_is_row_of) (defBody s_is_row_of) (defScope s_is_row_of) .none kV5 dc5 pm5 an5 cd5 ct5), sl5⟩)
    (c5 : PySem.W.codeIn K cd5 "is_row_of" = true)
    (k5 : PySem.W.keepIn K (.ref f5) = true)
    (a6 : PySem.W.nsIn K mainGlobals "are_rising" = some (some (.ref f6)))
    (l6 : K.lookup f6 = some ⟨oc6, od6, .func (PySem.W.fnOf "are_rising" "are_rising" (defArgs s_are_rising) (defBody s_are_rising) (defScope s_are_rising) .none kV6 dc6 pm6 an6 cd6 ct6), sl6⟩)
    (c6 : PySem.W.codeIn K cd6 "are_rising" = true)
    (k6 : PySem.W.keepIn K (.ref f6) = true)
    (a7 : PySem.W.nsIn K mainGlobals "check_many" = some (some (.ref f7)))
    (l7 : K.lookup f7 = some ⟨oc7, od7, .func (PySem.W.fnOf "check_many" "check_many" (defArgs s_check_many) (defBody s_check_many) (defScope s_check_many) .none kV7 dc7 pm7 an7 cd7 ct7), sl7⟩)
    (c7 : PySem.W.codeIn K cd7 "check_many" = true)
    (k7 : PySem.W.keepIn K (.ref f7) = true)
    (a8 : PySem.W.nsIn K mainGlobals "check_rounds" = some (some (.ref f8)))
    (l8 : K.lookup f8 = some ⟨oc8, od8, .func (PySem.W.fnOf "check_rounds" "check_rounds" (defArgs s_check_rounds) (defBody s_check_rounds) (defScope s_check_rounds) .none kV8 dc8 pm8 an8 cd8 ct8), sl8⟩)
    (c8 : PySem.W.codeIn K cd8 "check_rounds" = true)
    (k8 : PySem.W.keepIn K (.ref f8) = true)
    (a9 : PySem.W.nsIn K mainGlobals "check_viewed" = some (some (.ref f9)))
    (l9 : K.lookup f9 = some ⟨oc9, od9, .func (PySem.W.fnOf "check_viewed" "check_viewed" (defArgs s_check_viewed) (defBody s_check_viewed) (defScope s_check_viewed) .none kV9 dc9 pm9 an9 cd9 ct9), sl9⟩)
    (c9 : PySem.W.codeIn K cd9 "check_viewed" = true)
    (k9 : PySem.W.keepIn K (.ref f9) = true)
    (a10 : PySem.W.nsIn K mainGlobals "is_small_row" = some (some (.ref f10)))
    (l10 : K.lookup f10 = some ⟨oc10, od10, .func (PySem.W.fnOf "is_small_row" "is_small_row" (defArgs s_is_small_row) (defBody s_is_small_row) (defScope s_is_small_row) .none kV10 dc10 pm10 an10 cd10 ct10), sl10⟩)
    (c10 : PySem.W.codeIn K cd10 "is_small_row" = true)
    (k10 : PySem.W.keepIn K (.ref f10) = true)
    (a11 : PySem.W.nsIn K mainGlobals "is_small_lot" = some (some (.ref f11)))
    (l11 : K.lookup f11 = some ⟨oc11, od11, .func (PySem.W.fnOf "is_small_lot" "is_small_lot" (defArgs s_is_small_lot) (defBody s_is_small_lot) (defScope s_is_small_lot) .none kV11 dc11 pm11 an11 cd11 ct11), sl11⟩)
    (c11 : PySem.W.codeIn K cd11 "is_small_lot" = true)
    (k11 : PySem.W.keepIn K (.ref f11) = true)
    (a12 : PySem.W.nsIn K mainGlobals "is_inputs_with_lot" = some (some (.ref f12)))
    (l12 : K.lookup f12 = some ⟨oc12, od12, .func (PySem.W.fnOf "is_inputs_with_lot" "is_inputs_with_lot" (defArgs s_is_inputs_with_lot) (defBody s_is_inputs_with_lot) (defScope s_is_inputs_with_lot) .none kV12 dc12 pm12 an12 cd12 ct12), sl12⟩)
    (c12 : PySem.W.codeIn K cd12 "is_inputs_with_lot" = true)
    (k12 : PySem.W.keepIn K (.ref f12) = true)
    (a13 : PySem.W.nsIn K mainGlobals "bad_part" = some (some (.ref f13)))
    (l13 : K.lookup f13 = some ⟨oc13, od13, .func (PySem.W.fnOf "bad_part" "bad_part" (defArgs s_bad_part) (defBody s_bad_part) (defScope s_bad_part) .none kV13 dc13 pm13 an13 cd13 ct13), sl13⟩)
    (c13 : PySem.W.codeIn K cd13 "bad_part" = true)
    (k13 : PySem.W.keepIn K (.ref f13) = true)
    (a14 : PySem.W.nsIn K mainGlobals "raw_rest" = some (some (.ref f14)))
    (l14 : K.lookup f14 = some ⟨oc14, od14, .func (PySem.W.fnOf "raw_rest" "raw_rest" (defArgs s_raw_rest) (defBody s_raw_rest) (defScope s_raw_rest) .none kV14 dc14 pm14 an14 cd14 ct14), sl14⟩)
    (c14 : PySem.W.codeIn K cd14 "raw_rest" = true)
    (k14 : PySem.W.keepIn K (.ref f14) = true)
    (a15 : PySem.W.nsIn K mainGlobals "completing_of" = some (some (.ref f15)))
    (l15 : K.lookup f15 = some ⟨oc15, od15, .func (PySem.W.fnOf "completing_of" "completing_of" (defArgs s_completing_of) (defBody s_completing_of) (defScope s_completing_of) .none kV15 dc15 pm15 an15 cd15 ct15), sl15⟩)
    (c15 : PySem.W.codeIn K cd15 "completing_of" = true)
    (k15 : PySem.W.keepIn K (.ref f15) = true)
    (a16 : PySem.W.findIn K (.ref cT) "keep" = some (some (.ref f16)))
    (i16 : PySem.W.isFn K (.ref f16) = true)
    (l16 : K.lookup f16 = some ⟨oc16, od16, .func (PySem.W.fnOf "keep" "Task.keep" (defArgs s_Task_keep) (defBody s_Task_keep) (defScope s_Task_keep) .none kV16 dc16 pm16 an16 cd16 ct16), sl16⟩)
    (c16 : PySem.W.codeIn K cd16 "Task.keep" = true)
    (k16 : PySem.W.keepIn K (.ref f16) = true)
    (a17 : PySem.W.findIn K (.ref cT) "__init__" = some (some (.ref f17)))
    (i17 : PySem.W.isFn K (.ref f17) = true)
    (l17 : K.lookup f17 = some ⟨oc17, od17, .func (PySem.W.fnOf "__init__" "Task.__init__" (defArgs s_Task___init__) (defBody s_Task___init__) (defScope s_Task___init__) .none kV17 dc17 pm17 an17 cd17 ct17), sl17⟩)
    (c17 : PySem.W.codeIn K cd17 "Task.__init__" = true)
    (k17 : PySem.W.keepIn K (.ref f17) = true)
    (a18 : PySem.W.nsIn K mainGlobals "raw_count" = some (some (.ref f18)))
    (l18 : K.lookup f18 = some ⟨oc18, od18, .func (PySem.W.fnOf "raw_count" "raw_count" (defArgs s_raw_count) (defBody s_raw_count) (defScope s_raw_count) .none kV18 dc18 pm18 an18 cd18 ct18), sl18⟩)
    (c18 : PySem.W.codeIn K cd18 "raw_count" = true)
    (k18 : PySem.W.keepIn K (.ref f18) = true)
    (a19 : PySem.W.nsIn K mainGlobals "count_patterns" = some (some (.ref f19)))
    (l19 : K.lookup f19 = some ⟨oc19, od19, .func (PySem.W.fnOf "count_patterns" "count_patterns" (defArgs s_count_patterns) (defBody s_count_patterns) (defScope s_count_patterns) .none kV19 dc19 pm19 an19 cd19 ct19), sl19⟩)
    (c19 : PySem.W.codeIn K cd19 "count_patterns" = true)
    (k19 : PySem.W.keepIn K (.ref f19) = true)
    (a20 : PySem.W.nsIn K mainGlobals "figures_of" = some (some (.ref f20)))
    (l20 : K.lookup f20 = some ⟨oc20, od20, .func (PySem.W.fnOf "figures_of" "figures_of" (defArgs s_figures_of) (defBody s_figures_of) (defScope s_figures_of) .none kV20 dc20 pm20 an20 cd20 ct20), sl20⟩)
    (c20 : PySem.W.codeIn K cd20 "figures_of" = true)
    (k20 : PySem.W.keepIn K (.ref f20) = true)
    (a21 : PySem.W.nsIn K mainGlobals "miss_of" = some (some (.ref f21)))
    (l21 : K.lookup f21 = some ⟨oc21, od21, .func (PySem.W.fnOf "miss_of" "miss_of" (defArgs s_miss_of) (defBody s_miss_of) (defScope s_miss_of) .none kV21 dc21 pm21 an21 cd21 ct21), sl21⟩)
    (c21 : PySem.W.codeIn K cd21 "miss_of" = true)
    (k21 : PySem.W.keepIn K (.ref f21) = true)
    (a22 : PySem.W.nsIn K mainGlobals "raw_pattern" = some (some (.ref f22)))
    (l22 : K.lookup f22 = some ⟨oc22, od22, .func (PySem.W.fnOf "raw_pattern" "raw_pattern" (defArgs s_raw_pattern) (defBody s_raw_pattern) (defScope s_raw_pattern) .none kV22 dc22 pm22 an22 cd22 ct22), sl22⟩)
    (c22 : PySem.W.codeIn K cd22 "raw_pattern" = true)
    (k22 : PySem.W.keepIn K (.ref f22) = true)
    (a23 : PySem.W.nsIn K mainGlobals "raw_views" = some (some (.ref f23)))
    (l23 : K.lookup f23 = some ⟨oc23, od23, .func (PySem.W.fnOf "raw_views" "raw_views" (defArgs s_raw_views) (defBody s_raw_views) (defScope s_raw_views) .none kV23 dc23 pm23 an23 cd23 ct23), sl23⟩)
    (c23 : PySem.W.codeIn K cd23 "raw_views" = true)
    (k23 : PySem.W.keepIn K (.ref f23) = true)
    (a24 : PySem.W.findIn K (.ref cR) "numbered" = some (some (.ref f24)))
    (i24 : PySem.W.isFn K (.ref f24) = true)
    (l24 : K.lookup f24 = some ⟨oc24, od24, .func (PySem.W.fnOf "numbered" "Runs.numbered" (defArgs s_Runs_numbered) (defBody s_Runs_numbered) (defScope s_Runs_numbered) .none kV24 dc24 pm24 an24 cd24 ct24), sl24⟩)
    (c24 : PySem.W.codeIn K cd24 "Runs.numbered" = true)
    (k24 : PySem.W.keepIn K (.ref f24) = true)
    (a25 : PySem.W.findIn K (.ref cR) "__init__" = some (some (.ref f25)))
    (i25 : PySem.W.isFn K (.ref f25) = true)
    (l25 : K.lookup f25 = some ⟨oc25, od25, .func (PySem.W.fnOf "__init__" "Runs.__init__" (defArgs s_Runs___init__) (defBody s_Runs___init__) (defScope s_Runs___init__) .none kV25 dc25 pm25 an25 cd25 ct25), sl25⟩)
    (c25 : PySem.W.codeIn K cd25 "Runs.__init__" = true)
    (k25 : PySem.W.keepIn K (.ref f25) = true)
    (a26 : PySem.W.nsIn K mainGlobals "checked_runs" = some (some (.ref f26)))
    (l26 : K.lookup f26 = some ⟨oc26, od26, .func (PySem.W.fnOf "checked_runs" "checked_runs" (defArgs s_checked_runs) (defBody s_checked_runs) (defScope s_checked_runs) .none kV26 dc26 pm26 an26 cd26 ct26), sl26⟩)
    (c26 : PySem.W.codeIn K cd26 "checked_runs" = true)
    (k26 : PySem.W.keepIn K (.ref f26) = true)
    (a27 : PySem.W.nsIn K mainGlobals "integers_of" = some (some (.ref f27)))
    (l27 : K.lookup f27 = some ⟨oc27, od27, .func (PySem.W.fnOf "integers_of" "integers_of" (defArgs s_integers_of) (defBody s_integers_of) (defScope s_integers_of) .none kV27 dc27 pm27 an27 cd27 ct27), sl27⟩)
    (c27 : PySem.W.codeIn K cd27 "integers_of" = true)
    (k27 : PySem.W.keepIn K (.ref f27) = true)
    (a28 : PySem.W.nsIn K mainGlobals "lets_of" = some (some (.ref f28)))
    (l28 : K.lookup f28 = some ⟨oc28, od28, .func (PySem.W.fnOf "lets_of" "lets_of" (defArgs s_lets_of) (defBody s_lets_of) (defScope s_lets_of) .none kV28 dc28 pm28 an28 cd28 ct28), sl28⟩)
    (c28 : PySem.W.codeIn K cd28 "lets_of" = true)
    (k28 : PySem.W.keepIn K (.ref f28) = true)
    (a29 : PySem.W.findIn K (.ref cS) "__init__" = some (some (.ref f29)))
    (i29 : PySem.W.isFn K (.ref f29) = true)
    (l29 : K.lookup f29 = some ⟨oc29, od29, .func (PySem.W.fnOf "__init__" "Split.__init__" (defArgs s_Split___init__) (defBody s_Split___init__) (defScope s_Split___init__) .none kV29 dc29 pm29 an29 cd29 ct29), sl29⟩)
    (c29 : PySem.W.codeIn K cd29 "Split.__init__" = true)
    (k29 : PySem.W.keepIn K (.ref f29) = true)
    (a30 : PySem.W.findIn K (.ref cS) "refuse" = some (some (.ref f30)))
    (i30 : PySem.W.isFn K (.ref f30) = true)
    (l30 : K.lookup f30 = some ⟨oc30, od30, .func (PySem.W.fnOf "refuse" "Split.refuse" (defArgs s_Split_refuse) (defBody s_Split_refuse) (defScope s_Split_refuse) .none kV30 dc30 pm30 an30 cd30 ct30), sl30⟩)
    (c30 : PySem.W.codeIn K cd30 "Split.refuse" = true)
    (k30 : PySem.W.keepIn K (.ref f30) = true)
    (a31 : PySem.W.findIn K (.ref cA) "__init__" = some (some (.ref f31)))
    (i31 : PySem.W.isFn K (.ref f31) = true)
    (l31 : K.lookup f31 = some ⟨oc31, od31, .func (PySem.W.fnOf "__init__" "Asking.__init__" (defArgs s_Asking___init__) (defBody s_Asking___init__) (defScope s_Asking___init__) .none kV31 dc31 pm31 an31 cd31 ct31), sl31⟩)
    (c31 : PySem.W.codeIn K cd31 "Asking.__init__" = true)
    (k31 : PySem.W.keepIn K (.ref f31) = true)
    (a32 : PySem.W.findIn K (.ref cA) "open_in" = some (some (.ref f32)))
    (i32 : PySem.W.isFn K (.ref f32) = true)
    (l32 : K.lookup f32 = some ⟨oc32, od32, .func (PySem.W.fnOf "open_in" "Asking.open_in" (defArgs s_Asking_open_in) (defBody s_Asking_open_in) (defScope s_Asking_open_in) .none kV32 dc32 pm32 an32 cd32 ct32), sl32⟩)
    (c32 : PySem.W.codeIn K cd32 "Asking.open_in" = true)
    (k32 : PySem.W.keepIn K (.ref f32) = true)
    (a33 : PySem.W.findIn K (.ref cA) "barred" = some (some (.ref f33)))
    (i33 : PySem.W.isFn K (.ref f33) = true)
    (l33 : K.lookup f33 = some ⟨oc33, od33, .func (PySem.W.fnOf "barred" "Asking.barred" (defArgs s_Asking_barred) (defBody s_Asking_barred) (defScope s_Asking_barred) .none kV33 dc33 pm33 an33 cd33 ct33), sl33⟩)
    (c33 : PySem.W.codeIn K cd33 "Asking.barred" = true)
    (k33 : PySem.W.keepIn K (.ref f33) = true)
    (a34 : PySem.W.findIn K (.ref cA) "bar" = some (some (.ref f34)))
    (i34 : PySem.W.isFn K (.ref f34) = true)
    (l34 : K.lookup f34 = some ⟨oc34, od34, .func (PySem.W.fnOf "bar" "Asking.bar" (defArgs s_Asking_bar) (defBody s_Asking_bar) (defScope s_Asking_bar) .none kV34 dc34 pm34 an34 cd34 ct34), sl34⟩)
    (c34 : PySem.W.codeIn K cd34 "Asking.bar" = true)
    (k34 : PySem.W.keepIn K (.ref f34) = true)
    (a35 : PySem.W.findIn K (.ref cA) "unbar" = some (some (.ref f35)))
    (i35 : PySem.W.isFn K (.ref f35) = true)
    (l35 : K.lookup f35 = some ⟨oc35, od35, .func (PySem.W.fnOf "unbar" "Asking.unbar" (defArgs s_Asking_unbar) (defBody s_Asking_unbar) (defScope s_Asking_unbar) .none kV35 dc35 pm35 an35 cd35 ct35), sl35⟩)
    (c35 : PySem.W.codeIn K cd35 "Asking.unbar" = true)
    (k35 : PySem.W.keepIn K (.ref f35) = true)
    (a36 : PySem.W.findIn K (.ref cA) "put" = some (some (.ref f36)))
    (i36 : PySem.W.isFn K (.ref f36) = true)
    (l36 : K.lookup f36 = some ⟨oc36, od36, .func (PySem.W.fnOf "put" "Asking.put" (defArgs s_Asking_put) (defBody s_Asking_put) (defScope s_Asking_put) .none kV36 dc36 pm36 an36 cd36 ct36), sl36⟩)
    (c36 : PySem.W.codeIn K cd36 "Asking.put" = true)
    (k36 : PySem.W.keepIn K (.ref f36) = true)
    (a37 : PySem.W.findIn K (.ref cA) "take_back" = some (some (.ref f37)))
    (i37 : PySem.W.isFn K (.ref f37) = true)
    (l37 : K.lookup f37 = some ⟨oc37, od37, .func (PySem.W.fnOf "take_back" "Asking.take_back" (defArgs s_Asking_take_back) (defBody s_Asking_take_back) (defScope s_Asking_take_back) .none kV37 dc37 pm37 an37 cd37 ct37), sl37⟩)
    (c37 : PySem.W.codeIn K cd37 "Asking.take_back" = true)
    (k37 : PySem.W.keepIn K (.ref f37) = true)
    (a38 : PySem.W.findIn K (.ref cA) "next_pair" = some (some (.ref f38)))
    (i38 : PySem.W.isFn K (.ref f38) = true)
    (l38 : K.lookup f38 = some ⟨oc38, od38, .func (PySem.W.fnOf "next_pair" "Asking.next_pair" (defArgs s_Asking_next_pair) (defBody s_Asking_next_pair) (defScope s_Asking_next_pair) .none kV38 dc38 pm38 an38 cd38 ct38), sl38⟩)
    (c38 : PySem.W.codeIn K cd38 "Asking.next_pair" = true)
    (k38 : PySem.W.keepIn K (.ref f38) = true)
    (a39 : PySem.W.findIn K (.ref cA) "run_told" = some (some (.ref f39)))
    (i39 : PySem.W.isFn K (.ref f39) = true)
    (l39 : K.lookup f39 = some ⟨oc39, od39, .func (PySem.W.fnOf "run_told" "Asking.run_told" (defArgs s_Asking_run_told) (defBody s_Asking_run_told) (defScope s_Asking_run_told) .none kV39 dc39 pm39 an39 cd39 ct39), sl39⟩)
    (c39 : PySem.W.codeIn K cd39 "Asking.run_told" = true)
    (k39 : PySem.W.keepIn K (.ref f39) = true)
    (a40 : PySem.W.findIn K (.ref cA) "closed" = some (some (.ref f40)))
    (i40 : PySem.W.isFn K (.ref f40) = true)
    (l40 : K.lookup f40 = some ⟨oc40, od40, .func (PySem.W.fnOf "closed" "Asking.closed" (defArgs s_Asking_closed) (defBody s_Asking_closed) (defScope s_Asking_closed) .none kV40 dc40 pm40 an40 cd40 ct40), sl40⟩)
    (c40 : PySem.W.codeIn K cd40 "Asking.closed" = true)
    (k40 : PySem.W.keepIn K (.ref f40) = true)
    (a41 : PySem.W.findIn K (.ref cA) "tried" = some (some (.ref f41)))
    (i41 : PySem.W.isFn K (.ref f41) = true)
    (l41 : K.lookup f41 = some ⟨oc41, od41, .func (PySem.W.fnOf "tried" "Asking.tried" (defArgs s_Asking_tried) (defBody s_Asking_tried) (defScope s_Asking_tried) .none kV41 dc41 pm41 an41 cd41 ct41), sl41⟩)
    (c41 : PySem.W.codeIn K cd41 "Asking.tried" = true)
    (k41 : PySem.W.keepIn K (.ref f41) = true)
    (a42 : PySem.W.findIn K (.ref cA) "search" = some (some (.ref f42)))
    (i42 : PySem.W.isFn K (.ref f42) = true)
    (l42 : K.lookup f42 = some ⟨oc42, od42, .func (PySem.W.fnOf "search" "Asking.search" (defArgs s_Asking_search) (defBody s_Asking_search) (defScope s_Asking_search) .none kV42 dc42 pm42 an42 cd42 ct42), sl42⟩)
    (c42 : PySem.W.codeIn K cd42 "Asking.search" = true)
    (k42 : PySem.W.keepIn K (.ref f42) = true)
    (a43 : PySem.W.nsIn K mainGlobals "table" = some (some (.ref f43)))
    (l43 : K.lookup f43 = some ⟨oc43, od43, .func (PySem.W.fnOf "table" "table" (defArgs s_table) (defBody s_table) (defScope s_table) .none kV43 dc43 pm43 an43 cd43 ct43), sl43⟩)
    (c43 : PySem.W.codeIn K cd43 "table" = true)
    (k43 : PySem.W.keepIn K (.ref f43) = true)
    (a44 : PySem.W.nsIn K mainGlobals "is_table" = some (some (.ref f44)))
    (l44 : K.lookup f44 = some ⟨oc44, od44, .func (PySem.W.fnOf "is_table" "is_table" (defArgs s_is_table) (defBody s_is_table) (defScope s_is_table) .none kV44 dc44 pm44 an44 cd44 ct44), sl44⟩)
    (c44 : PySem.W.codeIn K cd44 "is_table" = true)
    (k44 : PySem.W.keepIn K (.ref f44) = true)
    (a45 : PySem.W.nsIn K mainGlobals "_law_pot" = some (some (.ref f45)))
    (l45 : K.lookup f45 = some ⟨oc45, od45, .func (PySem.W.fnOf "_law_pot" "_law_pot" (defArgs s__law_pot) (defBody s__law_pot) (defScope s__law_pot) .none kV45 dc45 pm45 an45 cd45 ct45), sl45⟩)
    (c45 : PySem.W.codeIn K cd45 "_law_pot" = true)
    (k45 : PySem.W.keepIn K (.ref f45) = true)
    (a46 : PySem.W.nsIn K mainGlobals "_law_draw" = some (some (.ref f46)))
    (l46 : K.lookup f46 = some ⟨oc46, od46, .func (PySem.W.fnOf "_law_draw" "_law_draw" (defArgs s__law_draw) (defBody s__law_draw) (defScope s__law_draw) .none kV46 dc46 pm46 an46 cd46 ct46), sl46⟩)
    (c46 : PySem.W.codeIn K cd46 "_law_draw" = true)
    (k46 : PySem.W.keepIn K (.ref f46) = true)
    (a47 : PySem.W.nsIn K mainGlobals "_law_any" = some (some (.ref f47)))
    (l47 : K.lookup f47 = some ⟨oc47, od47, .func (PySem.W.fnOf "_law_any" "_law_any" (defArgs s__law_any) (defBody s__law_any) (defScope s__law_any) .none kV47 dc47 pm47 an47 cd47 ct47), sl47⟩)
    (c47 : PySem.W.codeIn K cd47 "_law_any" = true)
    (k47 : PySem.W.keepIn K (.ref f47) = true)
    (a48 : PySem.W.nsIn K mainGlobals "_law_lot" = some (some (.ref f48)))
    (l48 : K.lookup f48 = some ⟨oc48, od48, .func (PySem.W.fnOf "_law_lot" "_law_lot" (defArgs s__law_lot) (defBody s__law_lot) (defScope s__law_lot) .none kV48 dc48 pm48 an48 cd48 ct48), sl48⟩)
    (c48 : PySem.W.codeIn K cd48 "_law_lot" = true)
    (k48 : PySem.W.keepIn K (.ref f48) = true)
    (a49 : PySem.W.nsIn K mainGlobals "_law_views" = some (some (.ref f49)))
    (l49 : K.lookup f49 = some ⟨oc49, od49, .func (PySem.W.fnOf "_law_views" "_law_views" (defArgs s__law_views) (defBody s__law_views) (defScope s__law_views) .none kV49 dc49 pm49 an49 cd49 ct49), sl49⟩)
    (c49 : PySem.W.codeIn K cd49 "_law_views" = true)
    (k49 : PySem.W.keepIn K (.ref f49) = true)
    (a50 : PySem.W.nsIn K mainGlobals "_law_patterns" = some (some (.ref f50)))
    (l50 : K.lookup f50 = some ⟨oc50, od50, .func (PySem.W.fnOf "_law_patterns" "_law_patterns" (defArgs s__law_patterns) (defBody s__law_patterns) (defScope s__law_patterns) .none kV50 dc50 pm50 an50 cd50 ct50), sl50⟩)
    (c50 : PySem.W.codeIn K cd50 "_law_patterns" = true)
    (k50 : PySem.W.keepIn K (.ref f50) = true)
    (a51 : PySem.W.nsIn K mainGlobals "_law_runs" = some (some (.ref f51)))
    (l51 : K.lookup f51 = some ⟨oc51, od51, .func (PySem.W.fnOf "_law_runs" "_law_runs" (defArgs s__law_runs) (defBody s__law_runs) (defScope s__law_runs) .none kV51 dc51 pm51 an51 cd51 ct51), sl51⟩)
    (c51 : PySem.W.codeIn K cd51 "_law_runs" = true)
    (k51 : PySem.W.keepIn K (.ref f51) = true)
    (a52 : PySem.W.nsIn K mainGlobals "_law_by_pair" = some (some (.ref f52)))
    (l52 : K.lookup f52 = some ⟨oc52, od52, .func (PySem.W.fnOf "_law_by_pair" "_law_by_pair" (defArgs s__law_by_pair) (defBody s__law_by_pair) (defScope s__law_by_pair) .none kV52 dc52 pm52 an52 cd52 ct52), sl52⟩)
    (c52 : PySem.W.codeIn K cd52 "_law_by_pair" = true)
    (k52 : PySem.W.keepIn K (.ref f52) = true)
    (a53 : PySem.W.nsIn K mainGlobals "_law_fits" = some (some (.ref f53)))
    (l53 : K.lookup f53 = some ⟨oc53, od53, .func (PySem.W.fnOf "_law_fits" "_law_fits" (defArgs s__law_fits) (defBody s__law_fits) (defScope s__law_fits) .none kV53 dc53 pm53 an53 cd53 ct53), sl53⟩)
    (c53 : PySem.W.codeIn K cd53 "_law_fits" = true)
    (k53 : PySem.W.keepIn K (.ref f53) = true)
    (a54 : PySem.W.nsIn K mainGlobals "_law_solved" = some (some (.ref f54)))
    (l54 : K.lookup f54 = some ⟨oc54, od54, .func (PySem.W.fnOf "_law_solved" "_law_solved" (defArgs s__law_solved) (defBody s__law_solved) (defScope s__law_solved) .none kV54 dc54 pm54 an54 cd54 ct54), sl54⟩)
    (c54 : PySem.W.codeIn K cd54 "_law_solved" = true)
    (k54 : PySem.W.keepIn K (.ref f54) = true)
    (a55 : PySem.W.nsIn K mainGlobals "_law_is_table" = some (some (.ref f55)))
    (l55 : K.lookup f55 = some ⟨oc55, od55, .func (PySem.W.fnOf "_law_is_table" "_law_is_table" (defArgs s__law_is_table) (defBody s__law_is_table) (defScope s__law_is_table) .none kV55 dc55 pm55 an55 cd55 ct55), sl55⟩)
    (c55 : PySem.W.codeIn K cd55 "_law_is_table" = true)
    (k55 : PySem.W.keepIn K (.ref f55) = true)
    (a56 : PySem.W.nsIn K mainGlobals "_law_few_lots" = some (some (.ref f56)))
    (l56 : K.lookup f56 = some ⟨oc56, od56, .func (PySem.W.fnOf "_law_few_lots" "_law_few_lots" (defArgs s__law_few_lots) (defBody s__law_few_lots) (defScope s__law_few_lots) .none kV56 dc56 pm56 an56 cd56 ct56), sl56⟩)
    (c56 : PySem.W.codeIn K cd56 "_law_few_lots" = true)
    (k56 : PySem.W.keepIn K (.ref f56) = true)
    (a57 : PySem.W.nsIn K mainGlobals "_law_bent_table" = some (some (.ref f57)))
    (l57 : K.lookup f57 = some ⟨oc57, od57, .func (PySem.W.fnOf "_law_bent_table" "_law_bent_table" (defArgs s__law_bent_table) (defBody s__law_bent_table) (defScope s__law_bent_table) .none kV57 dc57 pm57 an57 cd57 ct57), sl57⟩)
    (c57 : PySem.W.codeIn K cd57 "_law_bent_table" = true)
    (k57 : PySem.W.keepIn K (.ref f57) = true)
    (a58 : PySem.W.nsIn K mainGlobals "all_patterns" = some (some (.ref f58)))
    (l58 : K.lookup f58 = some ⟨oc58, od58, .func (PySem.W.fnOf "all_patterns" "all_patterns" (defArgs s_ap) (defBody s_ap) (defScope s_ap) .none kV58 dc58 pm58 an58 cd58 ct58), sl58⟩)
    (c58 : PySem.W.codeIn K cd58 "all_patterns" = true)
    (k58 : PySem.W.keepIn K (.ref f58) = true)
    (a59 : PySem.W.nsIn K mainGlobals "law" = some (some (.ref f59)))
    (l59 : K.lookup f59 = some ⟨oc59, od59, .func (PySem.W.fnOf "law" "law" (defArgs s_law) (defBody s_law) (defScope s_law) .none kV59 dc59 pm59 an59 cd59 ct59), sl59⟩)
    (c59 : PySem.W.codeIn K cd59 "law" = true)
    (k59 : PySem.W.keepIn K (.ref f59) = true)
    (pgT : PySem.W.plainGet K cT Str.empty = true)
    (hdT : PySem.W.hasDictIn K cT = true)
    (poT : PySem.W.plainOver K cT = true)
    (saT : PySem.W.findIn K (.ref cT) "__setattr__" = some (some (.builtin "object.__setattr__")))
    (mkT : PySem.W.makesIn K cT = true)
    (kcT : PySem.W.keepIn K (.ref cT) = true)
    (nT_many : PySem.W.findIn K (.ref cT) "many" = some none)
    (nT_lots : PySem.W.findIn K (.ref cT) "lots" = some none)
    (nT_kept_lots : PySem.W.findIn K (.ref cT) "kept_lots" = some none)
    (nT_kept_completing : PySem.W.findIn K (.ref cT) "kept_completing" = some none)
    (pgR : PySem.W.plainGet K cR Str.empty = true)
    (hdR : PySem.W.hasDictIn K cR = true)
    (poR : PySem.W.plainOver K cR = true)
    (saR : PySem.W.findIn K (.ref cR) "__setattr__" = some (some (.builtin "object.__setattr__")))
    (mkR : PySem.W.makesIn K cR = true)
    (kcR : PySem.W.keepIn K (.ref cR) = true)
    (nR_task : PySem.W.findIn K (.ref cR) "task" = some none)
    (nR_pairs : PySem.W.findIn K (.ref cR) "pairs" = some none)
    (nR_numbers : PySem.W.findIn K (.ref cR) "numbers" = some none)
    (nR_rows : PySem.W.findIn K (.ref cR) "rows" = some none)
    (pgS : PySem.W.plainGet K cS Str.empty = true)
    (hdS : PySem.W.hasDictIn K cS = true)
    (poS : PySem.W.plainOver K cS = true)
    (saS : PySem.W.findIn K (.ref cS) "__setattr__" = some (some (.builtin "object.__setattr__")))
    (mkS : PySem.W.makesIn K cS = true)
    (kcS : PySem.W.keepIn K (.ref cS) = true)
    (nS_pair : PySem.W.findIn K (.ref cS) "pair" = some none)
    (nS_refusals : PySem.W.findIn K (.ref cS) "refusals" = some none)
    (pgA : PySem.W.plainGet K cA Str.empty = true)
    (hdA : PySem.W.hasDictIn K cA = true)
    (poA : PySem.W.plainOver K cA = true)
    (saA : PySem.W.findIn K (.ref cA) "__setattr__" = some (some (.builtin "object.__setattr__")))
    (mkA : PySem.W.makesIn K cA = true)
    (kcA : PySem.W.keepIn K (.ref cA) = true)
    (nA_runs : PySem.W.findIn K (.ref cA) "runs" = some none)
    (nA_integers : PySem.W.findIn K (.ref cA) "integers" = some none)
    (nA_lets : PySem.W.findIn K (.ref cA) "lets" = some none)
    (nA_told : PySem.W.findIn K (.ref cA) "told" = some none)
    (nA_near : PySem.W.findIn K (.ref cA) "near" = some none)
    (nA_dead : PySem.W.findIn K (.ref cA) "dead" = some none)
    (nA_bars : PySem.W.findIn K (.ref cA) "bars" = some none)
    (nA_left : PySem.W.findIn K (.ref cA) "left" = some none)
    (nA_places : PySem.W.findIn K (.ref cA) "places" = some none)
    (z_len : PySem.W.nsIn K mainGlobals "len" = some none)
    (z_range : PySem.W.nsIn K mainGlobals "range" = some none)
    (z_isinstance : PySem.W.nsIn K mainGlobals "isinstance" = some none)
    (z_all : PySem.W.nsIn K mainGlobals "all" = some none)
    (z_any : PySem.W.nsIn K mainGlobals "any" = some none)
    (z_tuple : PySem.W.nsIn K mainGlobals "tuple" = some none)
    (z_list : PySem.W.nsIn K mainGlobals "list" = some none)
    (z_sorted : PySem.W.nsIn K mainGlobals "sorted" = some none)
    (z_set : PySem.W.nsIn K mainGlobals "set" = some none)
    (z_dict : PySem.W.nsIn K mainGlobals "dict" = some none)
    (z_enumerate : PySem.W.nsIn K mainGlobals "enumerate" = some none)
    (z_zip : PySem.W.nsIn K mainGlobals "zip" = some none)
    (z_int : PySem.W.nsIn K mainGlobals "int" = some none)
    (z_abs : PySem.W.nsIn K mainGlobals "abs" = some none)
    (z_bool : PySem.W.nsIn K mainGlobals "bool" = some none)
    (v_LEAST_MANY : PySem.W.nsIn K mainGlobals "LEAST_MANY" = some (some (.int 3 t_LEAST_MANY)))
    (v_MOST_MANY : PySem.W.nsIn K mainGlobals "MOST_MANY" = some (some (.int 5 t_MOST_MANY)))
    (v_MOST_ROUNDS : PySem.W.nsIn K mainGlobals "MOST_ROUNDS" = some (some (.int 30 t_MOST_ROUNDS)))
    (v_MOST_VIEWED : PySem.W.nsIn K mainGlobals "MOST_VIEWED" = some (some (.int 4 t_MOST_VIEWED)))
    (v_MOST_RUNS : PySem.W.nsIn K mainGlobals "MOST_RUNS" = some (some (.int 20000 t_MOST_RUNS)))
    (v_MOST_PAIRS : PySem.W.nsIn K mainGlobals "MOST_PAIRS" = some (some (.int 400 t_MOST_PAIRS)))
    (v_MOST_INPUTS : PySem.W.nsIn K mainGlobals "MOST_INPUTS" = some (some (.int 60 t_MOST_INPUTS)))
    (v_MOST_ROWS : PySem.W.nsIn K mainGlobals "MOST_ROWS" = some (some (.int 60 t_MOST_ROWS)))
    (v_MOST_NUMBER : PySem.W.nsIn K mainGlobals "MOST_NUMBER" = some (some (.int 9999 t_MOST_NUMBER)))
    : ∃ fd : FuncData, (∀ (s : Shared) (v : Value), BindsTo s fd ⟨[v], []⟩ [("_law_script", v)]) ∧ ∀ base : Heap, K.In base → base.Ns mainGlobals mg → FnOk l.prog w K mg base CX0 207 fa fd ["_law_script"] (spLaw K) := by
  have e := hfa.symm.trans (PySem.W.mg_of X G a59)
  cases e
  have T : Txt K mg cT cR cS cA := ⟨⟨pgT, hdT, poT, saT⟩, ⟨pgR, hdR, poR, saR⟩, ⟨pgS, hdS, poS, saS⟩, ⟨pgA, hdA, poA, saA⟩, PySem.W.mg_none_of X G z_len, PySem.W.mg_none_of X G z_range, PySem.W.mg_none_of X G z_isinstance, PySem.W.mg_none_of X G z_all, PySem.W.mg_none_of X G z_any, PySem.W.mg_none_of X G z_tuple, PySem.W.mg_none_of X G z_list, PySem.W.mg_none_of X G z_sorted, PySem.W.mg_none_of X G z_set, PySem.W.mg_none_of X G z_dict, PySem.W.mg_none_of X G z_enumerate, PySem.W.mg_none_of X G z_zip, PySem.W.mg_none_of X G z_int, PySem.W.mg_none_of X G z_abs, PySem.W.mg_none_of X G z_bool, ⟨_, PySem.W.mg_of X G v_LEAST_MANY, ⟨_, rfl⟩⟩, ⟨_, PySem.W.mg_of X G v_MOST_MANY, ⟨_, rfl⟩⟩, ⟨_, PySem.W.mg_of X G v_MOST_ROUNDS, ⟨_, rfl⟩⟩, ⟨_, PySem.W.mg_of X G v_MOST_VIEWED, ⟨_, rfl⟩⟩, ⟨_, PySem.W.mg_of X G v_MOST_RUNS, ⟨_, rfl⟩⟩, ⟨_, PySem.W.mg_of X G v_MOST_PAIRS, ⟨_, rfl⟩⟩, ⟨_, PySem.W.mg_of X G v_MOST_INPUTS, ⟨_, rfl⟩⟩, ⟨_, PySem.W.mg_of X G v_MOST_ROWS, ⟨_, rfl⟩⟩, ⟨_, PySem.W.mg_of X G v_MOST_NUMBER, ⟨_, rfl⟩⟩, nT_many, nT_lots, nT_kept_lots, nT_kept_completing, nR_task, nR_pairs, nR_numbers, nR_rows, nS_pair, nS_refusals, nA_runs, nA_integers, nA_lets, nA_told, nA_near, nA_dead, nA_bars, nA_left, nA_places⟩
  refine ⟨PySem.W.fnOf "law" "law" (defArgs s_law) (defBody s_law) (defScope s_law) .none kV59 dc59 pm59 an59 cd59 ct59, fun s v => .of_eq rfl, fun base _ _ => ?_⟩
  have F0 := fun_mk (st := s_is_integer) l0 c0 k0
  have b0 := F0.binds (ps := ["thing"]) fun _ _ _ _ _ _ us hl => match us, hl with | [_], _ => rfl
  have F1 := fun_mk (st := s_is_within) l1 c1 k1
  have b1 := F1.binds (ps := ["thing", "least", "most"]) fun _ _ _ _ _ _ us hl => match us, hl with | [_, _, _], _ => rfl
  have F2 := fun_mk (st := s_is_many) l2 c2 k2
  have b2 := F2.binds (ps := ["thing"]) fun _ _ _ _ _ _ us hl => match us, hl with | [_], _ => rfl
  have F3 := fun_mk (st := s_is_sized) l3 c3 k3
  have b3 := F3.binds (ps := ["thing", "least", "most"]) fun _ _ _ _ _ _ us hl => match us, hl with | [_, _, _], _ => rfl
  have F4 := fun_mk (st := s_is_pair) l4 c4 k4
  have b4 := F4.binds (ps := ["thing"]) fun _ _ _ _ _ _ us hl => match us, hl with | [_], _ => rfl
  have F5 := fun_mk (st := s_is_row_of) l5 c5 k5
  have b5 := F5.binds (ps := ["thing", "many"]) fun _ _ _ _ _ _ us hl => match us, hl with | [_, _], _ => rfl
  have F6 := fun_mk (st := s_are_rising) l6 c6 k6
  have b6 := F6.binds (ps := ["things"]) fun _ _ _ _ _ _ us hl => match us, hl with | [_], _ => rfl
  have F7 := fun_mk (st := s_check_many) l7 c7 k7
  have b7 := F7.binds (ps := ["thing"]) fun _ _ _ _ _ _ us hl => match us, hl with | [_], _ => rfl
  have F8 := fun_mk (st := s_check_rounds) l8 c8 k8
  have b8 := F8.binds (ps := ["thing"]) fun _ _ _ _ _ _ us hl => match us, hl with | [_], _ => rfl
  have F9 := fun_mk (st := s_check_viewed) l9 c9 k9
  have b9 := F9.binds (ps := ["rounds"]) fun _ _ _ _ _ _ us hl => match us, hl with | [_], _ => rfl
  have F10 := fun_mk (st := s_is_small_row) l10 c10 k10
  have b10 := F10.binds (ps := ["thing", "many"]) fun _ _ _ _ _ _ us hl => match us, hl with | [_, _], _ => rfl
  have F11 := fun_mk (st := s_is_small_lot) l11 c11 k11
  have b11 := F11.binds (ps := ["thing", "many"]) fun _ _ _ _ _ _ us hl => match us, hl with | [_, _], _ => rfl
  have F12 := fun_mk (st := s_is_inputs_with_lot) l12 c12 k12
  have b12 := F12.binds (ps := ["thing", "many"]) fun _ _ _ _ _ _ us hl => match us, hl with | [_, _], _ => rfl
  have F13 := fun_mk (st := s_bad_part) l13 c13 k13
  have b13 := F13.binds (ps := ["many", "lots"]) fun _ _ _ _ _ _ us hl => match us, hl with | [_, _], _ => rfl
  have F14 := fun_mk (st := s_raw_rest) l14 c14 k14
  have b14 := F14.binds (ps := ["row", "i"]) fun _ _ _ _ _ _ us hl => match us, hl with | [_, _], _ => rfl
  have F15 := fun_mk (st := s_completing_of) l15 c15 k15
  have b15 := F15.binds (ps := ["many", "lots"]) fun _ _ _ _ _ _ us hl => match us, hl with | [_, _], _ => rfl
  have F16 := fun_mk (st := s_Task_keep) l16 c16 k16
  have b16 := F16.binds (ps := ["self", "many", "lots"]) fun _ _ _ _ _ _ us hl => match us, hl with | [_, _, _], _ => rfl
  have F17 := fun_mk (st := s_Task___init__) l17 c17 k17
  have b17 := F17.binds (ps := ["self", "many", "lots"]) fun _ _ _ _ _ _ us hl => match us, hl with | [_, _, _], _ => rfl
  have F18 := fun_mk (st := s_raw_count) l18 c18 k18
  have b18 := F18.binds (ps := ["many", "rounds"]) fun _ _ _ _ _ _ us hl => match us, hl with | [_, _], _ => rfl
  have F19 := fun_mk (st := s_count_patterns) l19 c19 k19
  have b19 := F19.binds (ps := ["many", "rounds"]) fun _ _ _ _ _ _ us hl => match us, hl with | [_, _], _ => rfl
  have F20 := fun_mk (st := s_figures_of) l20 c20 k20
  have b20 := F20.binds (ps := ["base", "places", "number"]) fun _ _ _ _ _ _ us hl => match us, hl with | [_, _, _], _ => rfl
  have F21 := fun_mk (st := s_miss_of) l21 c21 k21
  have b21 := F21.binds (ps := ["me", "figure"]) fun _ _ _ _ _ _ us hl => match us, hl with | [_, _], _ => rfl
  have F22 := fun_mk (st := s_raw_pattern) l22 c22 k22
  have b22 := F22.binds (ps := ["many", "rounds", "number"]) fun _ _ _ _ _ _ us hl => match us, hl with | [_, _, _], _ => rfl
  have F23 := fun_mk (st := s_raw_views) l23 c23 k23
  have b23 := F23.binds (ps := ["inputs", "pattern"]) fun _ _ _ _ _ _ us hl => match us, hl with | [_, _], _ => rfl
  have F24 := fun_mk (st := s_Runs_numbered) l24 c24 k24
  have b24 := F24.binds (ps := ["self", "views"]) fun _ _ _ _ _ _ us hl => match us, hl with | [_, _], _ => rfl
  have F25 := fun_mk (st := s_Runs___init__) l25 c25 k25
  have b25 := F25.binds (ps := ["self", "task", "rounds"]) fun _ _ _ _ _ _ us hl => match us, hl with | [_, _, _], _ => rfl
  have F26 := fun_mk (st := s_checked_runs) l26 c26 k26
  have b26 := F26.binds (ps := ["task", "rounds"]) fun _ _ _ _ _ _ us hl => match us, hl with | [_, _], _ => rfl
  have F27 := fun_mk (st := s_integers_of) l27 c27 k27
  have b27 := F27.binds (ps := ["task", "me"]) fun _ _ _ _ _ _ us hl => match us, hl with | [_, _], _ => rfl
  have F28 := fun_mk (st := s_lets_of) l28 c28 k28
  have b28 := F28.binds (ps := ["task"]) fun _ _ _ _ _ _ us hl => match us, hl with | [_], _ => rfl
  have F29 := fun_mk (st := s_Split___init__) l29 c29 k29
  have b29 := F29.binds (ps := ["self", "pair"]) fun _ _ _ _ _ _ us hl => match us, hl with | [_, _], _ => rfl
  have F30 := fun_mk (st := s_Split_refuse) l30 c30 k30
  have b30 := F30.binds (ps := ["self", "integer", "refusal"]) fun _ _ _ _ _ _ us hl => match us, hl with | [_, _, _], _ => rfl
  have F31 := fun_mk (st := s_Asking___init__) l31 c31 k31
  have b31 := F31.binds (ps := ["self", "runs"]) fun _ _ _ _ _ _ us hl => match us, hl with | [_, _], _ => rfl
  have F32 := fun_mk (st := s_Asking_open_in) l32 c32 k32
  have b32 := F32.binds (ps := ["self", "number"]) fun _ _ _ _ _ _ us hl => match us, hl with | [_, _], _ => rfl
  have F33 := fun_mk (st := s_Asking_barred) l33 c33 k33
  have b33 := F33.binds (ps := ["self", "number", "pair"]) fun _ _ _ _ _ _ us hl => match us, hl with | [_, _, _], _ => rfl
  have F34 := fun_mk (st := s_Asking_bar) l34 c34 k34
  have b34 := F34.binds (ps := ["self", "number", "pair"]) fun _ _ _ _ _ _ us hl => match us, hl with | [_, _, _], _ => rfl
  have F35 := fun_mk (st := s_Asking_unbar) l35 c35 k35
  have b35 := F35.binds (ps := ["self", "number", "pair"]) fun _ _ _ _ _ _ us hl => match us, hl with | [_, _, _], _ => rfl
  have F36 := fun_mk (st := s_Asking_put) l36 c36 k36
  have b36 := F36.binds (ps := ["self", "pair", "integer"]) fun _ _ _ _ _ _ us hl => match us, hl with | [_, _, _], _ => rfl
  have F37 := fun_mk (st := s_Asking_take_back) l37 c37 k37
  have b37 := F37.binds (ps := ["self", "pair"]) fun _ _ _ _ _ _ us hl => match us, hl with | [_, _], _ => rfl
  have F38 := fun_mk (st := s_Asking_next_pair) l38 c38 k38
  have b38 := F38.binds (ps := ["self"]) fun _ _ _ _ _ _ us hl => match us, hl with | [_], _ => rfl
  have F39 := fun_mk (st := s_Asking_run_told) l39 c39 k39
  have b39 := F39.binds (ps := ["self", "number"]) fun _ _ _ _ _ _ us hl => match us, hl with | [_, _], _ => rfl
  have F40 := fun_mk (st := s_Asking_closed) l40 c40 k40
  have b40 := F40.binds (ps := ["self", "split"]) fun _ _ _ _ _ _ us hl => match us, hl with | [_, _], _ => rfl
  have F41 := fun_mk (st := s_Asking_tried) l41 c41 k41
  have b41 := F41.binds (ps := ["self", "split"]) fun _ _ _ _ _ _ us hl => match us, hl with | [_, _], _ => rfl
  have F42 := fun_mk (st := s_Asking_search) l42 c42 k42
  have b42 := F42.binds (ps := ["self"]) fun _ _ _ _ _ _ us hl => match us, hl with | [_], _ => rfl
  have F43 := fun_mk (st := s_table) l43 c43 k43
  have b43 := F43.binds (ps := ["task", "rounds"]) fun _ _ _ _ _ _ us hl => match us, hl with | [_, _], _ => rfl
  have F44 := fun_mk (st := s_is_table) l44 c44 k44
  have b44 := F44.binds (ps := ["task", "rounds", "thing"]) fun _ _ _ _ _ _ us hl => match us, hl with | [_, _, _], _ => rfl
  have F45 := fun_mk (st := s__law_pot) l45 c45 k45
  have b45 := F45.binds (ps := ["_law_script"]) fun _ _ _ _ _ _ us hl => match us, hl with | [_], _ => rfl
  have F46 := fun_mk (st := s__law_draw) l46 c46 k46
  have b46 := F46.binds (ps := ["_law_pot_here", "_law_many"]) fun _ _ _ _ _ _ us hl => match us, hl with | [_, _], _ => rfl
  have F47 := fun_mk (st := s__law_any) l47 c47 k47
  have b47 := F47.binds (ps := ["_law_pot_here", "_law_things"]) fun _ _ _ _ _ _ us hl => match us, hl with | [_, _], _ => rfl
  have F48 := fun_mk (st := s__law_lot) l48 c48 k48
  have b48 := F48.binds (ps := ["_law_pot_here", "_law_many", "_law_values", "_law_most"]) fun _ _ _ _ _ _ us hl => match us, hl with | [_, _, _, _], _ => rfl
  have F49 := fun_mk (st := s__law_views) l49 c49 k49
  have b49 := F49.binds (ps := ["_law_inputs", "_law_pattern"]) fun _ _ _ _ _ _ us hl => match us, hl with | [_, _], _ => rfl
  have F50 := fun_mk (st := s__law_patterns) l50 c50 k50
  have b50 := F50.binds (ps := ["_law_many", "_law_rounds"]) fun _ _ _ _ _ _ us hl => match us, hl with | [_, _], _ => rfl
  have F51 := fun_mk (st := s__law_runs) l51 c51 k51
  have b51 := F51.binds (ps := ["_law_many", "_law_lots", "_law_rounds"]) fun _ _ _ _ _ _ us hl => match us, hl with | [_, _, _], _ => rfl
  have F52 := fun_mk (st := s__law_by_pair) l52 c52 k52
  have b52 := F52.binds (ps := ["_law_runs_here"]) fun _ _ _ _ _ _ us hl => match us, hl with | [_], _ => rfl
  have F53 := fun_mk (st := s__law_fits) l53 c53 k53
  have b53 := F53.binds (ps := ["_law_told", "_law_run"]) fun _ _ _ _ _ _ us hl => match us, hl with | [_, _], _ => rfl
  have F54 := fun_mk (st := s__law_solved) l54 c54 k54
  have b54 := F54.binds (ps := ["_law_by_pair_here", "_law_left", "_law_told", "_law_turns"]) fun _ _ _ _ _ _ us hl => match us, hl with | [_, _, _, _], _ => rfl
  have F55 := fun_mk (st := s__law_is_table) l55 c55 k55
  have b55 := F55.binds (ps := ["_law_runs_here", "_law_by_pair_here", "_law_thing"]) fun _ _ _ _ _ _ us hl => match us, hl with | [_, _, _], _ => rfl
  have F56 := fun_mk (st := s__law_few_lots) l56 c56 k56
  have b56 := F56.binds (ps := ["_law_pot_here", "_law_many", "_law_most", "_law_rows"]) fun _ _ _ _ _ _ us hl => match us, hl with | [_, _, _, _], _ => rfl
  have F57 := fun_mk (st := s__law_bent_table) l57 c57 k57
  have b57 := F57.binds (ps := ["_law_pot_here", "_law_thing", "_law_pairs"]) fun _ _ _ _ _ _ us hl => match us, hl with | [_, _, _], _ => rfl
  have F58 := fun_mk (st := s_ap) l58 c58 k58
  have hAP := PySem.W.mg_of X G a58
  have G_is_integer : Fn l.prog w K mg base 1 "is_integer" ["thing"] (sp_is_integer l.prog w K) := Fn.of (ok_is_integer F0 T ) (PySem.W.mg_of X G a0) k0 b0
  have G_is_within : Fn l.prog w K mg base 2 "is_within" ["thing", "least", "most"] sp_is_within := Fn.of (ok_is_within F1 T G_is_integer) (PySem.W.mg_of X G a1) k1 b1
  have G_is_many : Fn l.prog w K mg base 3 "is_many" ["thing"] sp_is_many := Fn.of (ok_is_many F2 T G_is_within) (PySem.W.mg_of X G a2) k2 b2
  have G_is_sized : Fn l.prog w K mg base 1 "is_sized" ["thing", "least", "most"] sp_is_sized := Fn.of (ok_is_sized F3 T ) (PySem.W.mg_of X G a3) k3 b3
  have G_is_pair : Fn l.prog w K mg base 2 "is_pair" ["thing"] sp_is_pair := Fn.of (ok_is_pair F4 T G_is_sized) (PySem.W.mg_of X G a4) k4 b4
  have G_is_row_of : Fn l.prog w K mg base 2 "is_row_of" ["thing", "many"] sp_is_row_of := Fn.of (ok_is_row_of F5 T G_is_sized G_is_integer) (PySem.W.mg_of X G a5) k5 b5
  have G_are_rising : Fn l.prog w K mg base 1 "are_rising" ["things"] sp_are_rising := Fn.of (ok_are_rising F6 T ) (PySem.W.mg_of X G a6) k6 b6
  have G_check_many : Fn l.prog w K mg base 4 "check_many" ["thing"] sp_check_many := Fn.of (ok_check_many F7 T G_is_many) (PySem.W.mg_of X G a7) k7 b7
  have G_check_rounds : Fn l.prog w K mg base 3 "check_rounds" ["thing"] sp_check_rounds := Fn.of (ok_check_rounds F8 T G_is_within) (PySem.W.mg_of X G a8) k8 b8
  have G_check_viewed : Fn l.prog w K mg base 3 "check_viewed" ["rounds"] sp_check_viewed := Fn.of (ok_check_viewed F9 T G_is_within) (PySem.W.mg_of X G a9) k9 b9
  have G_is_small_row : Fn l.prog w K mg base 3 "is_small_row" ["thing", "many"] sp_is_small_row := Fn.of (ok_is_small_row F10 T G_is_row_of) (PySem.W.mg_of X G a10) k10 b10
  have G_is_small_lot : Fn l.prog w K mg base 4 "is_small_lot" ["thing", "many"] sp_is_small_lot := Fn.of (ok_is_small_lot F11 T G_is_sized G_is_small_row G_are_rising) (PySem.W.mg_of X G a11) k11 b11
  have G_is_inputs_with_lot : Fn l.prog w K mg base 5 "is_inputs_with_lot" ["thing", "many"] sp_is_inputs_with_lot := Fn.of (ok_is_inputs_with_lot F12 T G_is_pair G_is_small_row G_is_small_lot) (PySem.W.mg_of X G a12) k12 b12
  have G_bad_part : Fn l.prog w K mg base 6 "bad_part" ["many", "lots"] sp_bad_part := Fn.of (ok_bad_part F13 T G_is_many G_is_sized G_is_inputs_with_lot) (PySem.W.mg_of X G a13) k13 b13
  have G_raw_rest : Fn l.prog w K mg base 1 "raw_rest" ["row", "i"] sp_raw_rest := Fn.of (ok_raw_rest F14 T ) (PySem.W.mg_of X G a14) k14 b14
  have G_completing_of : Fn l.prog w K mg base 2 "completing_of" ["many", "lots"] sp_completing_of := Fn.of (ok_completing_of F15 T G_raw_rest) (PySem.W.mg_of X G a15) k15 b15
  have G_keep : Me l.prog w K mg base 3 cT "keep" ["self", "many", "lots"] (sp_Task_keep cT) := ⟨_, _, ok_Task_keep F16 T G_completing_of, ⟨a16, i16, k16⟩, b16⟩
  have G_Task : Mk1 l.prog w K mg base 7 "Task" cT ["self", "many", "lots"] (sp_Task___init__ cT) := ⟨_, _, ok_Task___init__ F17 T G_bad_part G_keep, ⟨mkT, a17, i17, kcT⟩, PySem.W.mg_of X G aT, b17⟩
  have G_raw_count : Fn l.prog w K mg base 1 "raw_count" ["many", "rounds"] sp_raw_count := Fn.of (ok_raw_count F18 T ) (PySem.W.mg_of X G a18) k18 b18
  have G_count_patterns : Fn l.prog w K mg base 5 "count_patterns" ["many", "rounds"] sp_count_patterns := Fn.of (ok_count_patterns F19 T G_check_many G_check_rounds G_raw_count) (PySem.W.mg_of X G a19) k19 b19
  have G_figures_of : Fn l.prog w K mg base 1 "figures_of" ["base", "places", "number"] sp_figures_of := Fn.of (ok_figures_of F20 T ) (PySem.W.mg_of X G a20) k20 b20
  have G_miss_of : Fn l.prog w K mg base 1 "miss_of" ["me", "figure"] sp_miss_of := Fn.of (ok_miss_of F21 T ) (PySem.W.mg_of X G a21) k21 b21
  have G_raw_pattern : Fn l.prog w K mg base 2 "raw_pattern" ["many", "rounds", "number"] sp_raw_pattern := Fn.of (ok_raw_pattern F22 T G_figures_of G_miss_of) (PySem.W.mg_of X G a22) k22 b22
  have G_raw_views : Fn l.prog w K mg base 1 "raw_views" ["inputs", "pattern"] sp_raw_views := Fn.of (ok_raw_views F23 T ) (PySem.W.mg_of X G a23) k23 b23
  have G_numbered : Me l.prog w K mg base 1 cR "numbered" ["self", "views"] (sp_Runs_numbered l.prog w cR) := ⟨_, _, ok_Runs_numbered F24 T , ⟨a24, i24, k24⟩, b24⟩
  have G_Runs : Mk1 l.prog w K mg base 5 "Runs" cR ["self", "task", "rounds"] (sp_Runs___init__ cT cR) := ⟨_, _, ok_Runs___init__ F25 T G_raw_pattern G_raw_count G_raw_views G_numbered F58 hAP, ⟨mkR, a25, i25, kcR⟩, PySem.W.mg_of X G aR, b25⟩
  have G_checked_runs : Fn l.prog w K mg base 7 "checked_runs" ["task", "rounds"] (sp_checked_runs cT cR) := Fn.of (ok_checked_runs F26 T G_check_viewed G_count_patterns G_Runs) (PySem.W.mg_of X G a26) k26 b26
  have G_integers_of : Fn l.prog w K mg base 1 "integers_of" ["task", "me"] (sp_integers_of cT) := Fn.of (ok_integers_of F27 T ) (PySem.W.mg_of X G a27) k27 b27
  have G_lets_of : Fn l.prog w K mg base 1 "lets_of" ["task"] (sp_lets_of l.prog w cT) := Fn.of (ok_lets_of F28 T ) (PySem.W.mg_of X G a28) k28 b28
  have G_Split : Mk1 l.prog w K mg base 1 "Split" cS ["self", "pair"] (sp_Split___init__ cS) := ⟨_, _, ok_Split___init__ F29 T , ⟨mkS, a29, i29, kcS⟩, PySem.W.mg_of X G aS, b29⟩
  have G_refuse : Me l.prog w K mg base 1 cS "refuse" ["self", "integer", "refusal"] (sp_Split_refuse cS) := ⟨_, _, ok_Split_refuse F30 T , ⟨a30, i30, k30⟩, b30⟩
  have G_Asking : Mk1 l.prog w K mg base 2 "Asking" cA ["self", "runs"] (sp_Asking___init__ l.prog w cT cR cA) := ⟨_, _, ok_Asking___init__ F31 T G_integers_of G_lets_of, ⟨mkA, a31, i31, kcA⟩, PySem.W.mg_of X G aA, b31⟩
  have G_open_in : Me l.prog w K mg base 1 cA "open_in" ["self", "number"] (sp_Asking_open_in l.prog w cT cR cA) := ⟨_, _, ok_Asking_open_in F32 T , ⟨a32, i32, k32⟩, b32⟩
  have G_barred : Me l.prog w K mg base 1 cA "barred" ["self", "number", "pair"] (sp_Asking_barred l.prog w cT cR cA) := ⟨_, _, ok_Asking_barred F33 T , ⟨a33, i33, k33⟩, b33⟩
  have G_bar : Me l.prog w K mg base 2 cA "bar" ["self", "number", "pair"] (sp_Asking_bar l.prog w cT cR cA) := ⟨_, _, ok_Asking_bar F34 T G_barred, ⟨a34, i34, k34⟩, b34⟩
  have G_unbar : Me l.prog w K mg base 2 cA "unbar" ["self", "number", "pair"] (sp_Asking_unbar l.prog w cT cR cA) := ⟨_, _, ok_Asking_unbar F35 T G_barred, ⟨a35, i35, k35⟩, b35⟩
  have G_put : Me l.prog w K mg base 3 cA "put" ["self", "pair", "integer"] (sp_Asking_put l.prog w cT cR cA) := ⟨_, _, ok_Asking_put F36 T G_open_in G_bar, ⟨a36, i36, k36⟩, b36⟩
  have G_take_back : Me l.prog w K mg base 3 cA "take_back" ["self", "pair"] (sp_Asking_take_back l.prog w cT cR cA) := ⟨_, _, ok_Asking_take_back F37 T G_open_in G_unbar, ⟨a37, i37, k37⟩, b37⟩
  have G_next_pair : Me l.prog w K mg base 1 cA "next_pair" ["self"] (sp_Asking_next_pair l.prog w cT cR cA) := ⟨_, _, ok_Asking_next_pair F38 T , ⟨a38, i38, k38⟩, b38⟩
  have G_run_told : Me l.prog w K mg base 1 cA "run_told" ["self", "number"] (sp_Asking_run_told l.prog w cT cR cA) := ⟨_, _, ok_Asking_run_told F39 T , ⟨a39, i39, k39⟩, b39⟩
  have G_closed : Me l.prog w K mg base 1 cA "closed" ["self", "split"] (sp_Asking_closed l.prog w cT cR cS cA) := ⟨_, _, ok_Asking_closed F40 T , ⟨a40, i40, k40⟩, b40⟩
  have G_tried : Me l.prog w K mg base 4 cA "tried" ["self", "split"] (sp_Asking_tried l.prog w cT cR cS cA) := ⟨_, _, ok_Asking_tried F41 T G_run_told G_put G_refuse, ⟨a41, i41, k41⟩, b41⟩
  have G_search : Me l.prog w K mg base 5 cA "search" ["self"] (sp_Asking_search l.prog w cT cR cA) := ⟨_, _, ok_Asking_search F42 T G_next_pair G_closed G_take_back G_tried G_refuse G_Split, ⟨a42, i42, k42⟩, b42⟩
  have G_table : Fn l.prog w K mg base 8 "table" ["task", "rounds"] (sp_table l.prog w cT) := Fn.of (ok_table F43 T G_checked_runs G_Asking G_search) (PySem.W.mg_of X G a43) k43 b43
  have G_is_table : Fn l.prog w K mg base 8 "is_table" ["task", "rounds", "thing"] (sp_is_table l.prog w K cT) := Fn.of (ok_is_table F44 T G_checked_runs G_is_integer) (PySem.W.mg_of X G a44) k44 b44
  have G__law_pot : Fn l.prog w K mg base 1 "_law_pot" ["_law_script"] (sp__law_pot K) := Fn.of (ok__law_pot F45 T ) (PySem.W.mg_of X G a45) k45 b45
  have G__law_draw : Fn l.prog w K mg base 1 "_law_draw" ["_law_pot_here", "_law_many"] sp__law_draw := Fn.of (ok__law_draw F46 T ) (PySem.W.mg_of X G a46) k46 b46
  have G__law_any : Fn l.prog w K mg base 2 "_law_any" ["_law_pot_here", "_law_things"] sp__law_any := Fn.of (ok__law_any F47 T G__law_draw) (PySem.W.mg_of X G a47) k47 b47
  have G__law_lot : Fn l.prog w K mg base 3 "_law_lot" ["_law_pot_here", "_law_many", "_law_values", "_law_most"] sp__law_lot := Fn.of (ok__law_lot F48 T G__law_draw G__law_any) (PySem.W.mg_of X G a48) k48 b48
  have G__law_views : Fn l.prog w K mg base 1 "_law_views" ["_law_inputs", "_law_pattern"] sp__law_views := Fn.of (ok__law_views F49 T ) (PySem.W.mg_of X G a49) k49 b49
  have G__law_patterns : Fn l.prog w K mg base 1 "_law_patterns" ["_law_many", "_law_rounds"] sp__law_patterns := Fn.of (ok__law_patterns F50 T ) (PySem.W.mg_of X G a50) k50 b50
  have G__law_runs : Fn l.prog w K mg base 2 "_law_runs" ["_law_many", "_law_lots", "_law_rounds"] sp__law_runs := Fn.of (ok__law_runs F51 T G__law_patterns G__law_views) (PySem.W.mg_of X G a51) k51 b51
  have G__law_by_pair : Fn l.prog w K mg base 1 "_law_by_pair" ["_law_runs_here"] (sp__law_by_pair l.prog w) := Fn.of (ok__law_by_pair F52 T ) (PySem.W.mg_of X G a52) k52 b52
  have G__law_fits : Fn l.prog w K mg base 1 "_law_fits" ["_law_told", "_law_run"] (sp__law_fits l.prog w) := Fn.of (ok__law_fits F53 T ) (PySem.W.mg_of X G a53) k53 b53
  have G__law_solved : Fn l.prog w K mg base 206 "_law_solved" ["_law_by_pair_here", "_law_left", "_law_told", "_law_turns"] (sp__law_solved l.prog w 202) := solved_all F54 T G__law_fits (PySem.W.mg_of X G a54) k54 b54 202
  have G__law_is_table : Fn l.prog w K mg base 1 "_law_is_table" ["_law_runs_here", "_law_by_pair_here", "_law_thing"] (sp__law_is_table l.prog w K) := Fn.of (ok__law_is_table F55 T ) (PySem.W.mg_of X G a55) k55 b55
  have G__law_few_lots : Fn l.prog w K mg base 4 "_law_few_lots" ["_law_pot_here", "_law_many", "_law_most", "_law_rows"] sp__law_few_lots := Fn.of (ok__law_few_lots F56 T G__law_draw G__law_any G__law_lot) (PySem.W.mg_of X G a56) k56 b56
  have G__law_bent_table : Fn l.prog w K mg base 3 "_law_bent_table" ["_law_pot_here", "_law_thing", "_law_pairs"] (sp__law_bent_table l.prog w K) := Fn.of (ok__law_bent_table F57 T G__law_draw G__law_any) (PySem.W.mg_of X G a57) k57 b57
  exact ok_law (fun_mk (st := s_law) l59 c59 k59) T G__law_pot G__law_any G__law_few_lots G_Task G__law_runs G__law_by_pair G_table G__law_is_table G__law_bent_table G_is_table G__law_solved
theorem walk {l : PySem.W.OpenLaw} {q : Program} {loose : List Str} {XP : (Str → Option Value) → Heap → Prop} {YP : World → Heap → Prop} {d : DefRec} {K : Params → PySem.W.Frag} (hn : l.most = some 63) (hdf : d.params.defaults = [])
    (hY : ∀ (w : World) (h : Heap), YP w h → (K w.params).In h)
    (F : ∀ (w : World) (mg : Str → Option Value) (fa : Addr) (h : Heap), (K w.params).In h → h.Ns mainGlobals mg → mg d.name = some (.ref fa) →
      ∃ fd : FuncData, (∀ (s : Shared) (u : Value), BindsTo s fd ⟨[u], []⟩ [("_law_script", u)]) ∧ ∀ base : Heap, (K w.params).In base → base.Ns mainGlobals mg → FnOk l.prog w (K w.params) mg base CX0 207 fa fd ["_law_script"] (spLaw (K w.params))) :
    PySem.W.WalkO q loose XP YP l.row.toRowW d [] (fun f vs => PySem.call f vs) :=
  L2.walk_of (n := 63) (k := 207) (x := "_law_script") (CX := fun _ => CX0) (sp := fun w => spLaw (K w.params)) hn (by decide) hdf ⟨rfl, by decide, by decide⟩ hY F (fun _ _ a ns hl _ hS => ⟨a, ns, rfl, hS, fun _ => rfl⟩) fun _ _ _ _ _ z => z
end S1

open PySem PySem.W PyProof.Rows in
set_option maxRecDepth 100000 in
set_option maxHeartbeats 0 in
theorem PySem.Challenge.cw_onesilent_k44_whole_tables_found_and_jud_holds : PySem.Challenge.rw_onesilent_k44_whole_tables_found_and_jud.Holds := by
  w_on; o_law; k_head; (case hw => w_witness2)
  k_fill
  refine S1.walk (l := PySem.Challenge.rw_onesilent_k44_whole_tables_found_and_jud) rfl rfl (fun w h Y => PySem.W.kIn_of Y) ?F
  case F =>
    intro w mg fa h KX G hmg
    refine' S1.all_mk KX G hmg ?aT ?aR ?aS ?aA ?a0 ?l0 ?c0 ?k0 ?a1 ?l1 ?c1 ?k1 ?a2 ?l2 ?c2 ?k2 ?a3 ?l3 ?c3 ?k3 ?a4 ?l4 ?c4 ?k4 ?a5 ?l5 ?c5 ?k5 ?a6 ?l6 ?c6 ?k6 ?a7 ?l7 ?c7 ?k7 ?a8 ?l8 ?c8 ?k8 ?a9 ?l9 ?c9 ?k9 ?a10 ?l10 ?c10 ?k10 ?a11 ?l11 ?c11 ?k11 ?a12 ?l12 ?c12 ?k12 ?a13 ?l13 ?c13 ?k13 ?a14 ?l14 ?c14 ?k14 ?a15 ?l15 ?c15 ?k15 ?a16 ?i16 ?l16 ?c16 ?k16 ?a17 ?i17 ?l17 ?c17 ?k17 ?a18 ?l18 ?c18 ?k18 ?a19 ?l19 ?c19 ?k19 ?a20 ?l20 ?c20 ?k20 ?a21 ?l21 ?c21 ?k21 ?a22 ?l22 ?c22 ?k22 ?a23 ?l23 ?c23 ?k23 ?a24 ?i24 ?l24 ?c24 ?k24 ?a25 ?i25 ?l25 ?c25 ?k25 ?a26 ?l26 ?c26 ?k26 ?a27 ?l27 ?c27 ?k27 ?a28 ?l28 ?c28 ?k28 ?a29 ?i29 ?l29 ?c29 ?k29 ?a30 ?i30 ?l30 ?c30 ?k30 ?a31 ?i31 ?l31 ?c31 ?k31 ?a32 ?i32 ?l32 ?c32 ?k32 ?a33 ?i33 ?l33 ?c33 ?k33 ?a34 ?i34 ?l34 ?c34 ?k34 ?a35 ?i35 ?l35 ?c35 ?k35 ?a36 ?i36 ?l36 ?c36 ?k36 ?a37 ?i37 ?l37 ?c37 ?k37 ?a38 ?i38 ?l38 ?c38 ?k38 ?a39 ?i39 ?l39 ?c39 ?k39 ?a40 ?i40 ?l40 ?c40 ?k40 ?a41 ?i41 ?l41 ?c41 ?k41 ?a42 ?i42 ?l42 ?c42 ?k42 ?a43 ?l43 ?c43 ?k43 ?a44 ?l44 ?c44 ?k44 ?a45 ?l45 ?c45 ?k45 ?a46 ?l46 ?c46 ?k46 ?a47 ?l47 ?c47 ?k47 ?a48 ?l48 ?c48 ?k48 ?a49 ?l49 ?c49 ?k49 ?a50 ?l50 ?c50 ?k50 ?a51 ?l51 ?c51 ?k51 ?a52 ?l52 ?c52 ?k52 ?a53 ?l53 ?c53 ?k53 ?a54 ?l54 ?c54 ?k54 ?a55 ?l55 ?c55 ?k55 ?a56 ?l56 ?c56 ?k56 ?a57 ?l57 ?c57 ?k57 ?a58 ?l58 ?c58 ?k58 ?a59 ?l59 ?c59 ?k59 ?pgT ?hdT ?poT ?saT ?mkT ?kcT ?nT_many ?nT_lots ?nT_kept_lots ?nT_kept_completing ?pgR ?hdR ?poR ?saR ?mkR ?kcR ?nR_task ?nR_pairs ?nR_numbers ?nR_rows ?pgS ?hdS ?poS ?saS ?mkS ?kcS ?nS_pair ?nS_refusals ?pgA ?hdA ?poA ?saA ?mkA ?kcA ?nA_runs ?nA_integers ?nA_lets ?nA_told ?nA_near ?nA_dead ?nA_bars ?nA_left ?nA_places ?z_len ?z_range ?z_isinstance ?z_all ?z_any ?z_tuple ?z_list ?z_sorted ?z_set ?z_dict ?z_enumerate ?z_zip ?z_int ?z_abs ?z_bool ?v_LEAST_MANY ?v_MOST_MANY ?v_MOST_ROUNDS ?v_MOST_VIEWED ?v_MOST_RUNS ?v_MOST_PAIRS ?v_MOST_INPUTS ?v_MOST_ROWS ?v_MOST_NUMBER
    (case aT => k_is)
    (case aR => k_is)
    (case aS => k_is)
    (case aA => k_is)
    (case a0 => k_is)
    (case l0 => k_is)
    (case c0 => k_is)
    (case k0 => k_is)
    (case a1 => k_is)
    (case l1 => k_is)
    (case c1 => k_is)
    (case k1 => k_is)
    (case a2 => k_is)
    (case l2 => k_is)
    (case c2 => k_is)
    (case k2 => k_is)
    (case a3 => k_is)
    (case l3 => k_is)
    (case c3 => k_is)
    (case k3 => k_is)
    (case a4 => k_is)
    (case l4 => k_is)
    (case c4 => k_is)
    (case k4 => k_is)
    (case a5 => k_is)
    (case l5 => k_is)
    (case c5 => k_is)
    (case k5 => k_is)
    (case a6 => k_is)
    (case l6 => k_is)
    (case c6 => k_is)
    (case k6 => k_is)
    (case a7 => k_is)
    (case l7 => k_is)
    (case c7 => k_is)
    (case k7 => k_is)
    (case a8 => k_is)
    (case l8 => k_is)
    (case c8 => k_is)
    (case k8 => k_is)
    (case a9 => k_is)
    (case l9 => k_is)
    (case c9 => k_is)
    (case k9 => k_is)
    (case a10 => k_is)
    (case l10 => k_is)
    (case c10 => k_is)
    (case k10 => k_is)
    (case a11 => k_is)
    (case l11 => k_is)
    (case c11 => k_is)
    (case k11 => k_is)
    (case a12 => k_is)
    (case l12 => k_is)
    (case c12 => k_is)
    (case k12 => k_is)
    (case a13 => k_is)
    (case l13 => k_is)
    (case c13 => k_is)
    (case k13 => k_is)
    (case a14 => k_is)
    (case l14 => k_is)
    (case c14 => k_is)
    (case k14 => k_is)
    (case a15 => k_is)
    (case l15 => k_is)
    (case c15 => k_is)
    (case k15 => k_is)
    (case a16 => k_is)
    (case i16 => k_is)
    (case l16 => k_is)
    (case c16 => k_is)
    (case k16 => k_is)
    (case a17 => k_is)
    (case i17 => k_is)
    (case l17 => k_is)
    (case c17 => k_is)
    (case k17 => k_is)
    (case a18 => k_is)
    (case l18 => k_is)
    (case c18 => k_is)
    (case k18 => k_is)
    (case a19 => k_is)
    (case l19 => k_is)
    (case c19 => k_is)
    (case k19 => k_is)
    (case a20 => k_is)
    (case l20 => k_is)
    (case c20 => k_is)
    (case k20 => k_is)
    (case a21 => k_is)
    (case l21 => k_is)
    (case c21 => k_is)
    (case k21 => k_is)
    (case a22 => k_is)
    (case l22 => k_is)
    (case c22 => k_is)
    (case k22 => k_is)
    (case a23 => k_is)
    (case l23 => k_is)
    (case c23 => k_is)
    (case k23 => k_is)
    (case a24 => k_is)
    (case i24 => k_is)
    (case l24 => k_is)
    (case c24 => k_is)
    (case k24 => k_is)
    (case a25 => k_is)
    (case i25 => k_is)
    (case l25 => k_is)
    (case c25 => k_is)
    (case k25 => k_is)
    (case a26 => k_is)
    (case l26 => k_is)
    (case c26 => k_is)
    (case k26 => k_is)
    (case a27 => k_is)
    (case l27 => k_is)
    (case c27 => k_is)
    (case k27 => k_is)
    (case a28 => k_is)
    (case l28 => k_is)
    (case c28 => k_is)
    (case k28 => k_is)
    (case a29 => k_is)
    (case i29 => k_is)
    (case l29 => k_is)
    (case c29 => k_is)
    (case k29 => k_is)
    (case a30 => k_is)
    (case i30 => k_is)
    (case l30 => k_is)
    (case c30 => k_is)
    (case k30 => k_is)
    (case a31 => k_is)
    (case i31 => k_is)
    (case l31 => k_is)
    (case c31 => k_is)
    (case k31 => k_is)
    (case a32 => k_is)
    (case i32 => k_is)
    (case l32 => k_is)
    (case c32 => k_is)
    (case k32 => k_is)
    (case a33 => k_is)
    (case i33 => k_is)
    (case l33 => k_is)
    (case c33 => k_is)
    (case k33 => k_is)
    (case a34 => k_is)
    (case i34 => k_is)
    (case l34 => k_is)
    (case c34 => k_is)
    (case k34 => k_is)
    (case a35 => k_is)
    (case i35 => k_is)
    (case l35 => k_is)
    (case c35 => k_is)
    (case k35 => k_is)
    (case a36 => k_is)
    (case i36 => k_is)
    (case l36 => k_is)
    (case c36 => k_is)
    (case k36 => k_is)
    (case a37 => k_is)
    (case i37 => k_is)
    (case l37 => k_is)
    (case c37 => k_is)
    (case k37 => k_is)
    (case a38 => k_is)
    (case i38 => k_is)
    (case l38 => k_is)
    (case c38 => k_is)
    (case k38 => k_is)
    (case a39 => k_is)
    (case i39 => k_is)
    (case l39 => k_is)
    (case c39 => k_is)
    (case k39 => k_is)
    (case a40 => k_is)
    (case i40 => k_is)
    (case l40 => k_is)
    (case c40 => k_is)
    (case k40 => k_is)
    (case a41 => k_is)
    (case i41 => k_is)
    (case l41 => k_is)
    (case c41 => k_is)
    (case k41 => k_is)
    (case a42 => k_is)
    (case i42 => k_is)
    (case l42 => k_is)
    (case c42 => k_is)
    (case k42 => k_is)
    (case a43 => k_is)
    (case l43 => k_is)
    (case c43 => k_is)
    (case k43 => k_is)
    (case a44 => k_is)
    (case l44 => k_is)
    (case c44 => k_is)
    (case k44 => k_is)
    (case a45 => k_is)
    (case l45 => k_is)
    (case c45 => k_is)
    (case k45 => k_is)
    (case a46 => k_is)
    (case l46 => k_is)
    (case c46 => k_is)
    (case k46 => k_is)
    (case a47 => k_is)
    (case l47 => k_is)
    (case c47 => k_is)
    (case k47 => k_is)
    (case a48 => k_is)
    (case l48 => k_is)
    (case c48 => k_is)
    (case k48 => k_is)
    (case a49 => k_is)
    (case l49 => k_is)
    (case c49 => k_is)
    (case k49 => k_is)
    (case a50 => k_is)
    (case l50 => k_is)
    (case c50 => k_is)
    (case k50 => k_is)
    (case a51 => k_is)
    (case l51 => k_is)
    (case c51 => k_is)
    (case k51 => k_is)
    (case a52 => k_is)
    (case l52 => k_is)
    (case c52 => k_is)
    (case k52 => k_is)
    (case a53 => k_is)
    (case l53 => k_is)
    (case c53 => k_is)
    (case k53 => k_is)
    (case a54 => k_is)
    (case l54 => k_is)
    (case c54 => k_is)
    (case k54 => k_is)
    (case a55 => k_is)
    (case l55 => k_is)
    (case c55 => k_is)
    (case k55 => k_is)
    (case a56 => k_is)
    (case l56 => k_is)
    (case c56 => k_is)
    (case k56 => k_is)
    (case a57 => k_is)
    (case l57 => k_is)
    (case c57 => k_is)
    (case k57 => k_is)
    (case a58 => k_is)
    (case l58 => k_is)
    (case c58 => k_is)
    (case k58 => k_is)
    (case a59 => k_is)
    (case l59 => k_is)
    (case c59 => k_is)
    (case k59 => k_is)
    (case pgT => k_is)
    (case hdT => k_is)
    (case poT => k_is)
    (case saT => k_is)
    (case mkT => k_is)
    (case kcT => k_is)
    (case nT_many => k_is)
    (case nT_lots => k_is)
    (case nT_kept_lots => k_is)
    (case nT_kept_completing => k_is)
    (case pgR => k_is)
    (case hdR => k_is)
    (case poR => k_is)
    (case saR => k_is)
    (case mkR => k_is)
    (case kcR => k_is)
    (case nR_task => k_is)
    (case nR_pairs => k_is)
    (case nR_numbers => k_is)
    (case nR_rows => k_is)
    (case pgS => k_is)
    (case hdS => k_is)
    (case poS => k_is)
    (case saS => k_is)
    (case mkS => k_is)
    (case kcS => k_is)
    (case nS_pair => k_is)
    (case nS_refusals => k_is)
    (case pgA => k_is)
    (case hdA => k_is)
    (case poA => k_is)
    (case saA => k_is)
    (case mkA => k_is)
    (case kcA => k_is)
    (case nA_runs => k_is)
    (case nA_integers => k_is)
    (case nA_lets => k_is)
    (case nA_told => k_is)
    (case nA_near => k_is)
    (case nA_dead => k_is)
    (case nA_bars => k_is)
    (case nA_left => k_is)
    (case nA_places => k_is)
    (case z_len => k_is)
    (case z_range => k_is)
    (case z_isinstance => k_is)
    (case z_all => k_is)
    (case z_any => k_is)
    (case z_tuple => k_is)
    (case z_list => k_is)
    (case z_sorted => k_is)
    (case z_set => k_is)
    (case z_dict => k_is)
    (case z_enumerate => k_is)
    (case z_zip => k_is)
    (case z_int => k_is)
    (case z_abs => k_is)
    (case z_bool => k_is)
    (case v_LEAST_MANY => k_is)
    (case v_MOST_MANY => k_is)
    (case v_MOST_ROUNDS => k_is)
    (case v_MOST_VIEWED => k_is)
    (case v_MOST_RUNS => k_is)
    (case v_MOST_PAIRS => k_is)
    (case v_MOST_INPUTS => k_is)
    (case v_MOST_ROWS => k_is)
    (case v_MOST_NUMBER => k_is)
#print axioms PySem.Challenge.cw_onesilent_k44_whole_tables_found_and_jud_holds
