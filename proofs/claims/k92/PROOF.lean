import PyProof.Rows.All
import HandS.ForMost
import KE.KeyNested
import HandS.Walk
import HandS.Defaults
import HandS.WordsExc
import HandS.Head0
import HandS.Head1
import HandS.Head2
import HandS.HeadEnd
import HandS.HeadHook1
import HandS.HeadHook2
import HandS.TupAny
import HandS.TupMul
import HandS.Conv
import HandS.IsInst
import HandS.TupLe
import HandS.Style
import HandS.Deep
import HandS.SortInts
import HandS.SortKw
import HandS.Wide
import HandS.Flow
import HandS.Zip
import HandS.SetFor
import KE.GoesMore
import KE.GoesEnum
import KE.SortData
import KE.KTupSum
import KE.DataMinMax
import HandS.TupLen
import HandS.Strs
import HandS.HeadHook3
import HandS.HeadHook4
import KE.KDictDisplayH
import KE.KItemsList
import HandS.Lambda
import KE.SortKeyHeap
import HandS.Sort
import HandS.EndTab
import PySem.Challenge.RW_toldbysums_k92_whole_scores_under_the_st
set_option Elab.async false
set_option linter.all false
set_option maxRecDepth 100000
set_option maxHeartbeats 1000000
/-! dicts whose keys are tuples of ints, None and such tuples -/
namespace PV
open PySem PySem.Spec PyProof.Rows L2
mutual
/-- the value v is the key -/
inductive NK (H : Hp) : NestedKey → V → Prop
  | non : NK H .none .non
  | num (i : Int) : NK H (.num i) (.int i)
  | text (x : Str) : NK H (.text x) (.str x)
  | tup {a : Addr} {xs : List V} {ks : List NestedKey} : H a = some (.tup xs) → NKs H ks xs → NK H (.tup ks) (.ref a)
inductive NKs (H : Hp) : List NestedKey → List V → Prop
  | nil : NKs H [] []
  | cons {k : NestedKey} {ks : List NestedKey} {x : V} {xs : List V} : NK H k x → NKs H ks xs → NKs H (k :: ks) (x :: xs)
end
mutual
/-- no text in it -/
def flatK : NestedKey → Bool
  | .none => true
  | .num _ => true
  | .text _ => false
  | .tup ks => flatKs ks
def flatKs : List NestedKey → Bool
  | [] => true
  | k :: ks => flatK k && flatKs ks
end
mutual
theorem hash_flat (w w' : World) : ∀ k : NestedKey, flatK k = true → k.hash w = k.hash w'
  | .none, _ => rfl
  | .num _, _ => rfl
  | .text _, h => by cases h
  | .tup ks, h => by
    have := hashes_flat w w' ks (by simpa [flatK] using h)
    simp only [NestedKey.hash, this]
theorem hashes_flat (w w' : World) : ∀ ks : List NestedKey, flatKs ks = true → NestedKey.hashes w ks = NestedKey.hashes w' ks
  | [], _ => rfl
  | k :: ks, h => by
    simp only [flatKs, Bool.and_eq_true] at h
    simp only [NestedKey.hashes, hash_flat w w' k h.1, hashes_flat w w' ks h.2]
end
def GoodK (k : NestedKey) : Prop := flatK k = true ∧ k.depth ≤ 8
abbrev NX := List (NestedKey × Addr × V)
/-- the dict at a with the keys, their addresses and values xs -/
def DN (a : Addr) (xs : NX) : HO := .ext fun h => ∃ (o : Obj) (es : Array DictEntry) (ep : Nat) (ys : List (NestedKey × Addr × Value)), h.get? a = some o ∧ o.ExactDict ∧ o.data = .dict es ep ∧ (a == sysModules) = false ∧
  Paired (fun (p : NestedKey × Addr × V) (q : NestedKey × Addr × Value) => p.1 = q.1 ∧ p.2.1 = q.2.1 ∧ RelV p.2.2 q.2.2) xs ys ∧ ∀ w : World, es.toList = ys.map fun x => ⟨x.1.hash w, .ref x.2.1, x.2.2⟩
structure IsN (H : Hp) (a : Addr) (xs : NX) : Prop where
  at_ : H a = some (DN a xs)
  keys : ∀ x ∈ xs, NK H x.1 (.ref x.2.1) ∧ GoodK x.1
  nd : (xs.map (·.1)).Nodup
mutual
theorem NK.move {H H' : Hp} (ht : ∀ b ys, H b = some (.tup ys) → H' b = some (.tup ys)) : ∀ (k : NestedKey) (v : V), NK H k v → NK H' k v
  | .none, _, h => by cases h; exact .non
  | .num i, _, h => by cases h; exact .num i
  | .text x, _, h => by cases h; exact .text x
  | .tup ks, _, h => by
    cases h with
    | tup h1 h2 => exact .tup (ht _ _ h1) (NKs.move ht ks _ h2)
theorem NKs.move {H H' : Hp} (ht : ∀ b ys, H b = some (.tup ys) → H' b = some (.tup ys)) : ∀ (ks : List NestedKey) (v : List V), NKs H ks v → NKs H' ks v
  | [], _, h => by cases h; exact .nil
  | k :: ks, _, h => by
    cases h with
    | cons h1 h2 => exact .cons (NK.move ht k _ h1) (NKs.move ht ks _ h2)
end
theorem IsN.move {H H' : Hp} {a : Addr} {xs : NX} (h : IsN H a xs) (ht : ∀ b ys, H b = some (.tup ys) → H' b = some (.tup ys)) (ha : H' a = H a) : IsN H' a xs :=
  ⟨ha.trans h.at_, fun x hx => ⟨NK.move ht _ _ (h.keys x hx).1, (h.keys x hx).2⟩, h.nd⟩
mutual
theorem NK.is {P : Program} {w : World} {H : Hp} {h : Heap} (ok : HOk P w H h) : ∀ (k : NestedKey) (v : V) (u : Value), NK H k v → RelV v u → NestedIs h k u
  | .none, _, u, hk, r => by cases hk; cases (show u = Value.none from r); exact .none
  | .num i, _, u, hk, r => by cases hk; obtain ⟨t, rfl⟩ := (show ∃ t, u = Value.int i t from r); exact .int i t
  | .text x, _, u, hk, r => by cases hk; obtain ⟨t, rfl⟩ := (show ∃ t, u = Value.str x t from r); exact .text x t
  | .tup ks, _, u, hk, r => by
    cases hk with
    | @tup a xs _ h1 h2 =>
      cases (show u = Value.ref a from r)
      obtain ⟨_, its, rel, o, e1, e2, n, e3⟩ := (show ObjOk P w H h a (.tup xs) from ok a _ h1)
      exact .tup e1 e2 e3 (by simpa using NKs.is ok ks xs its h2 rel)
theorem NKs.is {P : Program} {w : World} {H : Hp} {h : Heap} (ok : HOk P w H h) : ∀ (ks : List NestedKey) (vs : List V) (us : List Value), NKs H ks vs → Vals vs us → NestedAll h ks us
  | [], _, us, hk, r => by cases hk; cases r; exact .nil
  | k :: ks, _, us, hk, r => by
    cases hk with
    | cons h1 h2 =>
      cases r with
      | cons r1 r2 => exact .cons (NK.is ok k _ _ h1 r1) (NKs.is ok ks _ _ h2 r2)
end
def valN (xs : NX) (k : NestedKey) : Option V := (xs.find? fun x => decide (x.1 = k)).map (·.2.2)
abbrev PX : NX → List (NestedKey × Addr × Value) → Prop := Paired fun p q => p.1 = q.1 ∧ p.2.1 = q.2.1 ∧ RelV p.2.2 q.2.2
theorem valN_rel {xs : NX} {ys : List (NestedKey × Addr × Value)} (r : PX xs ys) (k : NestedKey) : RelO (valN xs k) ((atKey ys k).map (·.2)) := by
  induction r with
  | nil => exact True.intro
  | @cons p q ps qs h t ih =>
    obtain ⟨h1, h2, h3⟩ := h
    by_cases e : p.1 = k
    · have e' : q.1 = k := h1.symm.trans e
      have a1 : valN (p :: ps) k = some p.2.2 := by simp [valN, List.find?_cons, e]
      have a2 : atKey (q :: qs) k = some q.2 := by simp [atKey, List.find?_cons, e']
      rw [a1, a2]; exact h3
    · have e' : ¬ q.1 = k := fun z => e (h1.trans z)
      have a1 : valN (p :: ps) k = valN ps k := by simp [valN, List.find?_cons, e]
      have a2 : atKey (q :: qs) k = atKey qs k := by simp [atKey, List.find?_cons, e']
      rw [a1, a2]; exact ih
def putN (xs : NX) (k : NestedKey) (b : Addr) (v : V) : NX := if (valN xs k).isSome = true then xs.map fun x => if x.1 = k then (x.1, x.2.1, v) else x else xs ++ [(k, b, v)]
theorem PX.snoc : ∀ {xs : NX} {ys : List (NestedKey × Addr × Value)} {p : NestedKey × Addr × V} {q : NestedKey × Addr × Value}, PX xs ys → (p.1 = q.1 ∧ p.2.1 = q.2.1 ∧ RelV p.2.2 q.2.2) → PX (xs ++ [p]) (ys ++ [q])
  | _, _, _, _, .nil, h => .cons h .nil
  | _, _, _, _, .cons r t, h => .cons r (PX.snoc t h)
theorem PX.put {xs : NX} {ys : List (NestedKey × Addr × Value)} (r : PX xs ys) (k : NestedKey) (b : Addr) {v : V} {u : Value} (rv : RelV v u) : PX (putN xs k b v) (storedH ys k b u) := by
  have e : (valN xs k).isSome = (atKey ys k).isSome := by rw [(valN_rel r k).isSome_eq, Option.isSome_map]
  unfold putN storedH
  rw [e]
  by_cases q : (atKey ys k).isSome = true
  · rw [if_pos q, if_pos q]
    clear e q
    induction r with
    | nil => exact .nil
    | @cons p q ps qs h t ih =>
      obtain ⟨h1, h2, h3⟩ := h
      rw [List.map_cons, List.map_cons]
      refine .cons ?_ ih
      unfold putAt
      by_cases e : p.1 = k
      · rw [if_pos e, if_pos (h1.symm.trans e)]; exact ⟨h1, h2, rv⟩
      · rw [if_neg e, if_neg (fun z => e (h1.trans z))]; exact ⟨h1, h2, h3⟩
  · rw [if_neg q, if_neg q]; exact PX.snoc r ⟨rfl, rfl, rv⟩
theorem PX.keys {xs : NX} {ys : List (NestedKey × Addr × Value)} (r : PX xs ys) : xs.map (fun x => (x.1, x.2.1)) = ys.map fun x => (x.1, x.2.1) := by
  induction r with
  | nil => rfl
  | cons h t ih => simp only [List.map_cons, ih, h.1, h.2.1]
section
variable {P : Program} {w : World} {H : Hp} {h : Heap} {a : Addr} {xs : NX}
theorem dn_of (ok : HOk P w H h) (e : IsN H a xs) : (a == sysModules) = false ∧ ∃ ys, PX xs ys ∧ h.DictOfH (nestedKind P w) a ys ∧ ∀ w' : World, ∀ (o : Obj) (es : Array DictEntry) (ep : Nat), h.get? a = some o → o.data = .dict es ep → es.toList = ys.map fun x => ⟨x.1.hash w', .ref x.2.1, x.2.2⟩ := by
  obtain ⟨⟨o, es, ep, ys, h1, h2, h3, h4, h5, h6⟩, _⟩ := (show ObjOk P w H h a (DN a xs) from ok a _ e.at_)
  refine ⟨h4, ys, h5, ⟨o, es, ep, h1, h2, h3, h6 w, fun x hx => ?_, ?_⟩, fun w' o' es' ep' g1 g2 => ?_⟩
  · have : (x.1, x.2.1) ∈ xs.map fun x => (x.1, x.2.1) := by rw [PX.keys h5]; exact List.mem_map.mpr ⟨x, hx, rfl⟩
    obtain ⟨z, hz, ez⟩ := List.mem_map.mp this
    obtain ⟨k1, k2⟩ := e.keys z hz
    cases x with
    | mk x1 x2 =>
      simp only [Prod.mk.injEq] at ez
      rw [← ez.1, ← ez.2]
      exact ⟨NK.is ok _ _ _ k1 rfl, k2.2⟩
  · have := congrArg (List.map Prod.fst) (PX.keys h5)
    simp only [List.map_map] at this
    have e2 : ys.map (·.1) = xs.map (·.1) := by simpa [Function.comp_def] using this.symm
    rw [e2]; exact e.nd
  · rw [h1] at g1; cases g1
    rw [h3] at g2; cases g2
    exact h6 w'
theorem dn_type {s : Shared} (ok : HOk P w H s.heap) (e : IsN H a xs) : s.TypeIs (.ref a) "dict" := (dn_of ok e).2.choose_spec.2.1.typeIs
theorem dn_ok {P' : Program} {w' : World} {H' : Hp} {h' : Heap} {ys : List (NestedKey × Addr × Value)} {w0 : World} (r : PX xs ys) (hd : (a == sysModules) = false) (dd : h'.DictOfH (nestedKind P w0) a ys) (hf : ∀ x ∈ ys, flatK x.1 = true) : ObjOk P' w' H' h' a (DN a xs) := by
  obtain ⟨o, es, ep, h1, h2, h3, h4, h5, h6⟩ := dd
  refine ⟨⟨o, es, ep, ys, h1, h2, h3, hd, r, fun w'' => ?_⟩, ⟨o, h1⟩, ?_⟩
  · rw [h4]
    refine List.map_congr_left fun x hx => ?_
    show (⟨NestedKey.hash w0 x.1, _, _⟩ : DictEntry) = _
    rw [hash_flat w0 w'' _ (hf x hx)]
  · rintro h1' h2' ⟨o, es, ep, ys, g1, g2⟩ k
    exact ⟨o, es, ep, ys, k o g1, g2⟩
end
/-- what the dict at a holds at the key y -/
def NGet (H : Hp) (a : Addr) (y : V) (r : Option V) : Prop := ∃ xs k b, IsN H a xs ∧ y = .ref b ∧ NK H k (.ref b) ∧ GoodK k ∧ r = valN xs k
def NPut (H : Hp) (a : Addr) (y v : V) (H' : Hp) : Prop := ∃ xs k b, IsN H a xs ∧ y = .ref b ∧ NK H k (.ref b) ∧ GoodK k ∧ xs.length < sizeLine ∧ H' = upd H a (DN a (putN xs k b v))
theorem putN_len (xs : NX) (k : NestedKey) (b : Addr) (v : V) : (putN xs k b v).length ≤ xs.length + 1 := by
  unfold putN; split <;> simp
theorem putN_keys (xs : NX) (k : NestedKey) (b : Addr) (v : V) {z : NestedKey × Addr × V} (h : z ∈ putN xs k b v) : (∃ x ∈ xs, x.1 = z.1 ∧ x.2.1 = z.2.1) ∨ (z.1 = k ∧ z.2.1 = b) := by
  unfold putN at h
  split at h
  · obtain ⟨x, hx, rfl⟩ := List.mem_map.mp h
    left
    refine ⟨x, hx, ?_⟩
    split <;> simp
  · rcases List.mem_append.mp h with m | m
    · exact .inl ⟨z, m, rfl, rfl⟩
    · rw [List.mem_singleton] at m; subst m; exact .inr ⟨rfl, rfl⟩
theorem valN_none {xs : NX} {k : NestedKey} (h : ¬ (valN xs k).isSome = true) : k ∉ xs.map (·.1) := fun m => by
  obtain ⟨x, hx, rfl⟩ := List.mem_map.mp m
  apply h
  unfold valN
  rw [Option.isSome_map, List.find?_isSome]
  exact ⟨x, hx, by simp⟩
theorem putN_nd {xs : NX} (k : NestedKey) (b : Addr) (v : V) (h : (xs.map (·.1)).Nodup) : ((putN xs k b v).map (·.1)).Nodup := by
  unfold putN
  split
  · have : (xs.map fun x => if x.1 = k then (x.1, x.2.1, v) else x).map (·.1) = xs.map (·.1) := by
      rw [List.map_map]; refine List.map_congr_left fun x _ => ?_
      simp only [Function.comp]; split <;> rfl
    rw [this]; exact h
  · rename_i hn
    rw [List.map_append, List.nodup_append]
    refine ⟨h, by simp, fun x hx y hy e => ?_⟩
    simp only [List.map_cons, List.map_nil, List.mem_singleton] at hy
    subst hy; subst e
    exact valN_none hn hx
theorem IsN.put {H : Hp} {a b : Addr} {xs : NX} {k : NestedKey} (v : V) (h : IsN H a xs) (hk : NK H k (.ref b)) (hg : GoodK k) : IsN (upd H a (DN a (putN xs k b v))) a (putN xs k b v) := by
  have ht : ∀ c ys, H c = some (.tup ys) → upd H a (DN a (putN xs k b v)) c = some (.tup ys) := fun c ys e => by
    rw [upd_ne (ne_of e h.at_ (fun z => nomatch z))]; exact e
  refine ⟨upd_same, fun z hz => ?_, putN_nd k b v h.nd⟩
  rcases putN_keys xs k b v hz with ⟨x, hx, e1, e2⟩ | ⟨e1, e2⟩
  · rw [← e1, ← e2]
    exact ⟨NK.move ht _ _ (h.keys x hx).1, (h.keys x hx).2⟩
  · rw [e1, e2]; exact ⟨NK.move ht _ _ hk, hg⟩
section
variable {X : Cx} {pins : List (Addr × Obj)} {σ : L2.St} {H : Hp} {s : Shared} {a : Addr} {y v : V} {u r : Value} {o : Option V} {A : Around} {E : Value → Shared → Prop}
theorem room1 (hu : A.units + 20 < cLine) : A.in1.units + 8 < cLine := by rw [Around.in1_units]; omega
theorem n_getItem {Q : Value → Shared → Prop} (hu : A.units + 20 < cLine) (I : Inv X pins σ H s) (g : NGet H a y (some v)) (ry : RelV y u) (h : ∀ w' s', Inv X pins σ H s' → RelV v w' → Q w' s') :
    wpAny (model X.prog X.w) A (getItem (.ref a) u) Q E s := by
  obtain ⟨xs, k, b, e, rfl, nk, gk, l⟩ := g
  cases (show u = Value.ref b from ry)
  obtain ⟨hd, ys, rel, dd, _⟩ := dn_of I.hok e
  obtain ⟨w', hw, rw'⟩ := RelO.some_of (v := v) (o := (atKey ys k).map (·.2)) (by rw [l]; exact valN_rel rel k)
  obtain ⟨p, hp, hp2⟩ := Option.map_eq_some_iff.mp hw
  refine wpAny_getItem_heap (knd := nestedKind X.prog X.w) (room1 hu) ⟨NK.is I.hok _ _ _ nk rfl, gk.2⟩ dd hp ?_
  rw [hp2]
  exact h w' _ (I.tok _) rw'
theorem n_in {Q : Value → Shared → Prop} (hu : A.units + 20 < cLine) (I : Inv X pins σ H s) (g : NGet H a y o) (ry : RelV y u) (h : ∀ s', Inv X pins σ H s' → Q (.bool o.isSome) s') :
    wpAny (model X.prog X.w) A (compareOp .In u (.ref a)) Q E s := by
  obtain ⟨xs, k, b, e, rfl, nk, gk, l⟩ := g
  cases (show u = Value.ref b from ry)
  obtain ⟨hd, ys, rel, dd, _⟩ := dn_of I.hok e
  refine wpAny_in_heap (knd := nestedKind X.prog X.w) (room1 hu) ⟨NK.is I.hok _ _ _ nk rfl, gk.2⟩ hd dd ?_
  have q := (valN_rel rel k).isSome_eq
  rw [Option.isSome_map] at q
  rw [← q, ← l]
  exact h _ (I.tok _)
theorem n_notIn {Q : Value → Shared → Prop} (hu : A.units + 20 < cLine) (I : Inv X pins σ H s) (g : NGet H a y o) (ry : RelV y u) (h : ∀ s', Inv X pins σ H s' → Q (.bool (!o.isSome)) s') :
    wpAny (model X.prog X.w) A (compareOp .NotIn u (.ref a)) Q E s := by
  obtain ⟨xs, k, b, e, rfl, nk, gk, l⟩ := g
  cases (show u = Value.ref b from ry)
  obtain ⟨hd, ys, rel, dd, _⟩ := dn_of I.hok e
  refine wpAny_notIn_heap (knd := nestedKind X.prog X.w) (room1 hu) ⟨NK.is I.hok _ _ _ nk rfl, gk.2⟩ hd dd ?_
  have q := (valN_rel rel k).isSome_eq
  rw [Option.isSome_map] at q
  rw [← q, ← l]
  exact h _ (I.tok _)
theorem n_get1 {Q : Value → Shared → Prop} (hu : A.units + 20 < cLine) (I : Inv X pins σ H s) (g : NGet H a y o) (ry : RelV y u) (h : ∀ w' s', Inv X pins σ H s' → RelV (o.getD .non) w' → Q w' s') :
    wpAny (model X.prog X.w) A (call (.builtin "dict.get") [.ref a, u]) Q E s := by
  obtain ⟨xs, k, b, e, rfl, nk, gk, l⟩ := g
  cases (show u = Value.ref b from ry)
  obtain ⟨hd, ys, rel, dd, _⟩ := dn_of I.hok e
  refine call_meetsIn PySem.F.slot_dict_get dd.typeIs PySem.F.entry_dict_get (PySem.F.args_dict_get_2 _ _) (meetsH_dict_get (nestedKind X.prog X.w) a b hd) ⟨room1 hu, k, ys, ⟨NK.is I.hok _ _ _ nk rfl, gk.2⟩, dd, h _ _ (I.tok _) ?_⟩
  rw [l]
  exact (valN_rel rel k).getD rfl
theorem n_get2 {d : V} {Q : Value → Shared → Prop} (hu : A.units + 20 < cLine) (I : Inv X pins σ H s) (g : NGet H a y o) (ry : RelV y u) (rd : RelV d r) (h : ∀ w' s', Inv X pins σ H s' → RelV (o.getD d) w' → Q w' s') :
    wpAny (model X.prog X.w) A (call (.builtin "dict.get") [.ref a, u, r]) Q E s := by
  obtain ⟨xs, k, b, e, rfl, nk, gk, l⟩ := g
  cases (show u = Value.ref b from ry)
  obtain ⟨hd, ys, rel, dd, _⟩ := dn_of I.hok e
  refine call_meetsIn PySem.F.slot_dict_get dd.typeIs PySem.F.entry_dict_get (PySem.F.args_dict_get_3 _ _ _) (meetsH_dict_get_default (nestedKind X.prog X.w) a b hd r) ⟨room1 hu, k, ys, ⟨NK.is I.hok _ _ _ nk rfl, gk.2⟩, dd, h _ _ (I.tok _) ?_⟩
  rw [l]
  exact (valN_rel rel k).getD rd
theorem n_setItem {H' : Hp} {Q : Unit → Shared → Prop} (hu : A.units + 20 < cLine) (I : Inv X pins σ H s) (g : NPut H a y v H') (ry : RelV y u) (rv : RelV v r) (h : ∀ s', Inv X pins σ H' s' → Q () s') :
    wpAny (model X.prog X.w) A (setItem (.ref a) u r) Q E s := by
  obtain ⟨xs, k, b, e, rfl, nk, gk, l, rfl⟩ := g
  cases (show u = Value.ref b from ry)
  obtain ⟨hd, ys, rel, dd, _⟩ := dn_of I.hok e
  have hz : ys.length ≤ sizeLine := by rw [← Paired.length rel]; omega
  refine wpAny_setItem_heap (hsz := hz) (knd := nestedKind X.prog X.w) (room1 hu) ⟨NK.is I.hok _ _ _ nk rfl, gk.2⟩ dd fun h' dd' hs => h _ ?_
  have rel' := rel.put k b rv
  have hf : ∀ x ∈ storedH ys k b r, flatK x.1 = true := fun x hx => by
    have : (x.1, x.2.1) ∈ (putN xs k b v).map fun x => (x.1, x.2.1) := by rw [rel'.keys]; exact List.mem_map.mpr ⟨x, hx, rfl⟩
    obtain ⟨z, hz, ez⟩ := List.mem_map.mp this
    have := ((e.put v nk gk).keys z hz).2.1
    simp only [Prod.mk.injEq] at ez
    rw [← ez.1]; exact this
  obtain ⟨q, es, ep, hq, _⟩ := id dd'
  exact d_write I (by rw [e.at_]; exact True.intro) hs ⟨q, hq⟩ (dn_ok rel' hd dd' hf)
end
/-! ### rules -/
def tNGet (td ty : TE) : TE := fun σ H Q => td σ H fun x H1 => ty σ H1 fun y H2 => ∃ a v, x = .ref a ∧ NGet H2 a y (some v) ∧ Q v H2
def tNIn (ty td : TE) : TE := fun σ H Q => ty σ H fun y H1 => td σ H1 fun x H2 => ∃ a o, x = .ref a ∧ NGet H2 a y o ∧ Q (.bl o.isSome) H2
def tNNotIn (ty td : TE) : TE := fun σ H Q => ty σ H fun y H1 => td σ H1 fun x H2 => ∃ a o, x = .ref a ∧ NGet H2 a y o ∧ Q (.bl (!o.isSome)) H2
def sNPut (td ty tv : TE) : TS := fun D σ H => tv σ H fun v H1 => td σ H1 fun x H2 => ty σ H2 fun y H3 => ∃ a H4, x = .ref a ∧ NPut H3 a y v H4 ∧ D.nx σ H4
def tNNew : TE := fun _ H Q => ∀ p, H p = none → Q (.ref p) (upd H p (DN p []))
section
variable {X : Cx} {o i e value : Expr} {pos pos' tpos : Pos} {td ty tv : TE}
theorem pe_nget (hu : X.A.units + 20 < cLine) (ho : PE X o td) (hi : PE X i ty) (hs : NoSl i) : PE X (.Subscript o i pos) (tNGet td ty) := by
  refine ⟨fun pins s σ H Q I h => ?_⟩
  refine subD_of PySem.F.slot_dict_getitem.lookup hs (thn (ho.run pins s σ H _ I h) fun u s1 ⟨x, H1, I1, rx, q1⟩ => thn (hi.run pins s1 σ H1 _ I1 q1) fun iv s2 ⟨y, H2, I2, ry, a, v, ex, g, q2⟩ => ?_)
  subst ex
  obtain rfl : u = Value.ref a := rx
  exact ⟨dn_type I2.hok g.choose_spec.choose_spec.choose_spec.1, n_getItem hu I2 g ry fun w' s3 I3 rw' => ⟨v, H2, I3, rw', q2⟩⟩
theorem pc_nin (hu : X.A.units + 20 < cLine) (hi : PE X i ty) (ho : PE X o td) : PC X .In i o (tNIn ty td) := by
  refine ⟨fun pins s σ H Q I h => ?_⟩
  refine thn (hi.run pins s σ H _ I h) fun iv s1 ⟨y, H1, I1, ry, q1⟩ => thn (ho.run pins s1 σ H1 _ I1 q1) fun u s2 ⟨x, H2, I2, rx, a, ov, ex, g, q2⟩ => ?_
  subst ex
  obtain rfl : u = Value.ref a := rx
  exact n_in hu I2 g ry fun s3 I3 => ⟨.bl ov.isSome, H2, I3, rfl, q2⟩
theorem pc_nnotin (hu : X.A.units + 20 < cLine) (hi : PE X i ty) (ho : PE X o td) : PC X .NotIn i o (tNNotIn ty td) := by
  refine ⟨fun pins s σ H Q I h => ?_⟩
  refine thn (hi.run pins s σ H _ I h) fun iv s1 ⟨y, H1, I1, ry, q1⟩ => thn (ho.run pins s1 σ H1 _ I1 q1) fun u s2 ⟨x, H2, I2, rx, a, ov, ex, g, q2⟩ => ?_
  subst ex
  obtain rfl : u = Value.ref a := rx
  exact n_notIn hu I2 g ry fun s3 I3 => ⟨.bl (!ov.isSome), H2, I3, rfl, q2⟩
theorem ps_nput (hu : X.A.units + 20 < cLine) (ho : PE X o td) (hi : PE X i ty) (hv : PE X value tv) (hs : swapsWith value (some (.Subscript o i pos')) pos.line X.env = pure false) :
    PS X (.Assign [.Subscript o i pos'] value pos) (sNPut td ty tv) := by
  refine ⟨fun pins s σ H D I h => ?_⟩
  refine wpAny_Assign_Subscript (thn (hv.run pins s σ H _ I h) fun r s1 ⟨v, H1, I1, rv, q1⟩ => thn (ho.run pins s1 σ H1 _ I1 q1) fun u s2 ⟨x, H2, I2, rx, q2⟩ => thn (hi.run pins s2 σ H2 _ I2 q2) fun iv s3 ⟨y, H3, I3, ry, a, H4, ex, g, q3⟩ => ?_) hs
  subst ex
  obtain rfl : u = Value.ref a := rx
  exact n_setItem hu I3 g ry rv fun s4 I4 => ⟨σ, H4, I4, q3⟩
theorem pe_nnew : PE X (.Dict [] [] pos) tNNew := ⟨fun pins s σ H Q I h =>
  wpAny_Dict_empty ⟨.ref s.heap.objs.size, _, I.laid (a := s.heap.objs.size) (o := DN s.heap.objs.size []) (t' := s.toks) (fun _ _ q => Heap.get?_push_of_some _ q) (Nat.le_refl _)
    (dn_ok (P := X.prog) (w0 := X.w) .nil (beq_eq_false_iff_ne.mpr (Ne.symm (Nat.ne_of_lt I.big))) (Heap.DictOfH.new s.heap) (fun _ m => nomatch m)), rfl, h _ (I.hok.fresh (Nat.le_refl _))⟩⟩
end
end PV

set_option Elab.async false
set_option linter.all false
set_option maxRecDepth 100000
set_option maxHeartbeats 1000000
namespace PV
open PySem PySem.Spec PyProof.Rows L2

/-- the tables of code objects that are followed, and the name of what is in them -/
class TN where
  nm : Addr → Option Str
variable [TN]
abbrev D := PyData
def NT : HO → Prop
  | .tbl _ => False
  | _ => True
/-- the table at P: each code object that it tells is known and bears the name q -/
def TabS (H : Hp) (P : Addr) (q : Str) : Prop := ∃ ps : Array Value, H P = some (.tbl ps) ∧ TriplesOk ps.toList ∧
  ∀ (pos : Pos) (cv : Value), codeAmong pos ps.toList = some cv → ∃ (c : Addr) (oc : Obj) (vs : Array Value) (t : Tok), cv = .ref c ∧ H c = some (.frz oc (.own c)) ∧ oc.data = .fields vs ∧ vs[1]? = some (.str q t)
def TabI (H : Hp) : Prop := ∀ P q, TN.nm P = some q → TabS H P q
theorem TabI.ext {H H' : Hp} (t : TabI H) (e : ∀ a o, H a = some o → ¬ Mut (some o) → H' a = some o) : TabI H' := fun P q h => by
  obtain ⟨ps, h1, h2, h3⟩ := t P q h
  refine ⟨ps, e _ _ h1 id, h2, fun pos cv hc => ?_⟩
  obtain ⟨c, oc, vs, t, e1, e2, e3⟩ := h3 pos cv hc
  exact ⟨c, oc, vs, t, e1, e _ _ e2 id, e3⟩
/-- all that was there stays, but for the tables -/
structure Same (H H' : Hp) : Prop where
  at_ : ∀ a o, H a = some o → NT o → H' a = some o
  dom : ∀ a, H' a = none → H a = none
  tab : TabI H → TabI H'
theorem Same.of0 {H H' : Hp} (e : ∀ a o, H a = some o → H' a = some o) : Same H H' := by
  refine ⟨fun a o h _ => e a o h, fun a n => ?_, fun t => t.ext fun a o h _ => e a o h⟩
  cases q : H a with
  | none => rfl
  | some o => rw [e a o q] at n; cases n

/-- keys of dicts as data; a dict of tuple keys has the pair (none, none) ahead -/
def kD : Key → D
  | .inl i => .int i
  | .inr x => .str x
def IsDct (H : Hp) (a : Addr) (ks : List D) (vs : List V) : Prop :=
  (∃ kvs : List (Key × V), H a = some (.dK kvs) ∧ ks = kvs.map (fun p => kD p.1) ∧ vs = kvs.map (·.2)) ∨
  (∃ kvs : List (List Key × V), H a = some (.dT kvs) ∧ ks = .none :: kvs.map (fun p => .tuple (p.1.map kD)) ∧ vs = .non :: kvs.map (·.2))

/-- a dict that is locked: the pair (True, none) ahead -/
def IsFrz (H : Hp) (a : Addr) (ks : List D) (vs : List V) : Prop :=
  (∃ (o : Obj) (kvs : List (Key × V)), H a = some (.frz o (.dK kvs)) ∧ ks = .bool true :: kvs.map (fun p => kD p.1) ∧ vs = .non :: kvs.map (·.2)) ∨
  (∃ (o : Obj) (kvs : List (List Key × V)), H a = some (.frz o (.dT kvs)) ∧ ks = .bool true :: .none :: kvs.map (fun p => .tuple (p.1.map kD)) ∧ vs = .non :: .non :: kvs.map (·.2))
/-- a dict of nested tuple keys: the pair (the empty tuple, none) ahead -/
def IsNct (H : Hp) (a : Addr) (ks : List D) (vs : List V) : Prop := ∃ xs : NX, IsN H a xs ∧ ks = .tuple [] :: xs.map (fun x => x.1.data) ∧ vs = .non :: xs.map (·.2.2)
/-! ### data at a value; the mutable addresses below it -/
mutual
inductive Rp (K : PySem.W.Frag) (H : Hp) : V → D → List Addr → Prop
  | non : Rp K H .non .none []
  | bl (b : Bool) : Rp K H (.bl b) (.bool b) []
  | int (i : Int) : Rp K H (.int i) (.int i) []
  | str (x : Str) : Rp K H (.str x) (.str x) []
  | lst {a : Addr} {xs : List V} {ds : List D} {fs : List Addr} : H a = some (.lst xs) → xs.length ≤ sizeLine → RpL K H xs ds fs → Rp K H (.ref a) (.list ds) (a :: fs)
  | tup {a : Addr} {xs : List V} {ds : List D} {fs : List Addr} : H a = some (.tup xs) → xs.length ≤ sizeLine → RpL K H xs ds fs → Rp K H (.ref a) (.tuple ds) fs
  | dct {a : Addr} {kvs : List (D × D)} {vs : List V} {fs : List Addr} : IsDct H a (kvs.map (·.1)) vs → RpL K H vs (kvs.map (·.2)) fs → Rp K H (.ref a) (.dict kvs) (a :: fs)
  | dcn {a : Addr} {kvs : List (D × D)} {vs : List V} {fs : List Addr} : IsNct H a (kvs.map (·.1)) vs → RpL K H vs (kvs.map (·.2)) fs → Rp K H (.ref a) (.dict kvs) (a :: fs)
  | dcf {a : Addr} {kvs : List (D × D)} {vs : List V} {fs : List Addr} : IsFrz H a (kvs.map (·.1)) vs → RpL K H vs (kvs.map (·.2)) fs → Rp K H (.ref a) (.dict kvs) fs
inductive RpL (K : PySem.W.Frag) (H : Hp) : List V → List D → List Addr → Prop
  | nil : RpL K H [] [] []
  | cons {v : V} {vs : List V} {d : D} {ds : List D} {f fs : List Addr} : Rp K H v d f → RpL K H vs ds fs → RpL K H (v :: vs) (d :: ds) (f ++ fs)
end

/-- what stays: the frame F and all that does not change by itself -/
structure Keep (F : Addr → Prop) (H H' : Hp) : Prop where
  at_ : ∀ a o, H a = some o → (F a ∨ ¬ Mut (some o)) → NT o → H' a = some o
  dom : ∀ a, F a → H' a = none → H a = none
  tab : TabI H → TabI H'
theorem Keep.refl {F H} : Keep F H H := ⟨fun _ _ h _ _ => h, fun _ _ h => h, id⟩
theorem Keep.trans {F H H1 H2} (h : Keep F H H1) (k : Keep F H1 H2) : Keep F H H2 := ⟨fun a o e c n => k.at_ a o (h.at_ a o e c n) c n, fun a z n => h.dom a z (k.dom a z n), fun t => k.tab (h.tab t)⟩
theorem Keep.of_same {F H H'} (h : Same H H') : Keep F H H' := ⟨fun a o e _ n => h.at_ a o e n, fun a _ n => h.dom a n, h.tab⟩
theorem Keep.mono {F F' : Addr → Prop} {H H'} (h : Keep F' H H') (s : ∀ a, F a → F' a) : Keep F H H' := ⟨fun a o e c n => h.at_ a o e (c.imp (s a) id) n, fun a z n => h.dom a (s a z) n, h.tab⟩
theorem Keep.of0 {F : Addr → Prop} {H H' : Hp} (e : ∀ a o, H a = some o → (F a ∨ ¬ Mut (some o)) → H' a = some o) : Keep F H H' := by
  refine ⟨fun a o h c _ => e a o h c, fun a z n => ?_, fun t => t.ext fun a o h n => e a o h (.inr n)⟩
  cases q : H a with
  | none => rfl
  | some o => rw [e a o q (.inl z)] at n; cases n
theorem same_upd {H : Hp} {p : Addr} {o : HO} (h : H p = none) : Same H (upd H p o) := Same.of0 fun b x e => by
  rw [upd_ne (ne_of_none e h)]; exact e
theorem Same.refl {H : Hp} : Same H H := Same.of0 fun _ _ h => h
theorem same_trans {H H1 H2 : Hp} (h : Same H H1) (k : Same H1 H2) : Same H H2 := ⟨fun a o e n => k.at_ a o (h.at_ a o e n) n, fun a n => h.dom a (k.dom a n), fun t => k.tab (h.tab t)⟩
theorem keep_upd {F : Addr → Prop} {H : Hp} {p : Addr} {o : HO} (m : Mut (H p)) (n : ¬ F p) : Keep F H (upd H p o) := Keep.of0 fun a x e c => by
  by_cases h : a = p
  · subst h
    rcases c with c | c
    · exact absurd c n
    · rw [e] at m; exact absurd m c
  · rw [upd_ne h]; exact e

theorem TabI.unlock {H : Hp} {a : Addr} {o : Obj} {u : HO} (t : TabI H) (h : H a = some (.frz o u)) (m : Mut (some u)) : TabI (upd H a u) := fun P q e => by
  obtain ⟨ps, h1, h2, h3⟩ := t P q e
  refine ⟨ps, by rw [upd_ne (fun z => by rw [z, h] at h1; cases h1)]; exact h1, h2, fun pos cv hc => ?_⟩
  obtain ⟨c, oc, vs, tk, e1, e2, e3⟩ := h3 pos cv hc
  refine ⟨c, oc, vs, tk, e1, ?_, e3⟩
  rw [upd_ne (fun z => by rw [z, h] at e2; cases e2; exact m)]; exact e2
theorem sqT_keep {K : PySem.W.Frag} {F : Addr → Prop} {H H' : Hp} {a : Addr} {xs : List V} (h : SqT K H a xs) (k : Keep F H H') : SqT K H' a xs := by
  rcases h with (h | ⟨o, h⟩) | h
  · exact .inl (.inl (k.at_ _ _ h (.inr id) trivial))
  · exact .inl (.inr ⟨o, k.at_ _ _ h (.inr id) trivial⟩)
  · exact .inr h
theorem sqt {K : PySem.W.Frag} {H : Hp} {a : Addr} {xs : List V} (h : H a = some (.tup xs)) : SqT K H a xs := .inl (.inl h)
theorem isDct_keep {F : Addr → Prop} {H H' : Hp} {a : Addr} {ks : List D} {vs : List V} (h : IsDct H a ks vs) (k : Keep F H H') (hF : F a) : IsDct H' a ks vs := by
  rcases h with ⟨kvs, h, e⟩ | ⟨kvs, h, e⟩
  · exact .inl ⟨kvs, k.at_ _ _ h (.inl hF) trivial, e⟩
  · exact .inr ⟨kvs, k.at_ _ _ h (.inl hF) trivial, e⟩
theorem isFrz_keep {F : Addr → Prop} {H H' : Hp} {a : Addr} {ks : List D} {vs : List V} (h : IsFrz H a ks vs) (k : Keep F H H') : IsFrz H' a ks vs := by
  rcases h with ⟨o, kvs, h, e⟩ | ⟨o, kvs, h, e⟩
  · exact .inl ⟨o, kvs, k.at_ _ _ h (.inr id) trivial, e⟩
  · exact .inr ⟨o, kvs, k.at_ _ _ h (.inr id) trivial, e⟩
theorem isNct_keep {F : Addr → Prop} {H H' : Hp} {a : Addr} {ks : List D} {vs : List V} (h : IsNct H a ks vs) (k : Keep F H H') (hF : F a) : IsNct H' a ks vs := by
  obtain ⟨xs, h, e⟩ := h
  exact ⟨xs, h.move (fun b ys q => k.at_ _ _ q (.inr id) trivial) ((k.at_ _ _ h.at_ (.inl hF) trivial).trans h.at_.symm), e⟩
theorem isNct_mut {H : Hp} {a : Addr} {ks : List D} {vs : List V} (h : IsNct H a ks vs) : Mut (H a) := by
  obtain ⟨xs, h, _⟩ := h
  rw [h.at_]; exact True.intro
theorem isDct_mut {H : Hp} {a : Addr} {ks : List D} {vs : List V} (h : IsDct H a ks vs) : Mut (H a) := by
  rcases h with ⟨kvs, h, e⟩ | ⟨kvs, h, e⟩ <;> rw [h] <;> trivial

mutual
theorem Rp.keep {K : PySem.W.Frag} {F : Addr → Prop} {H H' : Hp} (k : Keep F H H') : ∀ (d : D) (v : V) (fp : List Addr), Rp K H v d fp → (∀ a ∈ fp, F a) → Rp K H' v d fp
  | .none, _, _, h, _ => by cases h; exact .non
  | .bool b, _, _, h, _ => by cases h; exact .bl b
  | .int b, _, _, h, _ => by cases h; exact .int b
  | .str b, _, _, h, _ => by cases h; exact .str b
  | .list ds, _, _, h, hF => by
    cases h with
    | lst h1 h2 h3 => exact .lst (k.at_ _ _ h1 (.inl (hF _ List.mem_cons_self)) trivial) h2 (RpL.keep k ds _ _ h3 fun a ha => hF a (List.mem_cons_of_mem _ ha))
  | .tuple ds, _, _, h, hF => by
    cases h with
    | tup h1 h2 h3 => exact .tup (k.at_ _ _ h1 (.inr id) trivial) h2 (RpL.keep k ds _ _ h3 hF)
  | .dict kvs, _, _, h, hF => by
    cases h with
    | dct h1 h3 => exact .dct (isDct_keep h1 k (hF _ List.mem_cons_self)) (RpL.keepK k kvs _ _ h3 fun a ha => hF a (List.mem_cons_of_mem _ ha))
    | dcn h1 h3 => exact .dcn (isNct_keep h1 k (hF _ List.mem_cons_self)) (RpL.keepK k kvs _ _ h3 fun a ha => hF a (List.mem_cons_of_mem _ ha))
    | dcf h1 h3 => exact .dcf (isFrz_keep h1 k) (RpL.keepK k kvs _ _ h3 hF)
theorem RpL.keep {K : PySem.W.Frag} {F : Addr → Prop} {H H' : Hp} (k : Keep F H H') : ∀ (ds : List D) (vs : List V) (fp : List Addr), RpL K H vs ds fp → (∀ a ∈ fp, F a) → RpL K H' vs ds fp
  | [], _, _, h, _ => by cases h; exact .nil
  | d :: ds, _, _, h, hF => by
    cases h with
    | cons h1 h2 => exact .cons (Rp.keep k d _ _ h1 fun a ha => hF a (List.mem_append_left _ ha)) (RpL.keep k ds _ _ h2 fun a ha => hF a (List.mem_append_right _ ha))
theorem RpL.keepK {K : PySem.W.Frag} {F : Addr → Prop} {H H' : Hp} (k : Keep F H H') : ∀ (kvs : List (D × D)) (vs : List V) (fp : List Addr), RpL K H vs (kvs.map (·.2)) fp → (∀ a ∈ fp, F a) → RpL K H' vs (kvs.map (·.2)) fp
  | [], _, _, h, _ => by cases h; exact .nil
  | (_, d) :: ds, _, _, h, hF => by
    cases h with
    | cons h1 h2 => exact .cons (Rp.keep k d _ _ h1 fun a ha => hF a (List.mem_append_left _ ha)) (RpL.keepK k ds _ _ h2 fun a ha => hF a (List.mem_append_right _ ha))
end

mutual
/-- what is below a value is mutable and there -/
theorem Rp.mut {K : PySem.W.Frag} {H : Hp} : ∀ (d : D) (v : V) (fp : List Addr), Rp K H v d fp → ∀ a ∈ fp, Mut (H a)
  | .none, _, _, h, _ => by cases h; intro m; cases m
  | .bool b, _, _, h, _ => by cases h; intro m; cases m
  | .int b, _, _, h, _ => by cases h; intro m; cases m
  | .str b, _, _, h, _ => by cases h; intro m; cases m
  | .list ds, _, _, h, a => by
    cases h with
    | lst h1 h2 h3 =>
      intro m
      rcases List.mem_cons.mp m with m | m
      · rw [m, h1]; trivial
      · exact RpL.mut ds _ _ h3 a m
  | .tuple ds, _, _, h, a => by
    cases h with
    | tup h1 h2 h3 => exact RpL.mut ds _ _ h3 a
  | .dict kvs, _, _, h, a => by
    cases h with
    | dct h1 h3 =>
      intro m
      rcases List.mem_cons.mp m with m | m
      · rw [m]; exact isDct_mut h1
      · exact RpL.mutK kvs _ _ h3 a m
    | dcn h1 h3 =>
      intro m
      rcases List.mem_cons.mp m with m | m
      · rw [m]; exact isNct_mut h1
      · exact RpL.mutK kvs _ _ h3 a m
    | dcf h1 h3 => exact RpL.mutK kvs _ _ h3 a
theorem RpL.mut {K : PySem.W.Frag} {H : Hp} : ∀ (ds : List D) (vs : List V) (fp : List Addr), RpL K H vs ds fp → ∀ a ∈ fp, Mut (H a)
  | [], _, _, h, _ => by cases h; intro m; cases m
  | d :: ds, _, _, h, a => by
    cases h with
    | cons h1 h2 =>
      intro m
      rcases List.mem_append.mp m with m | m
      · exact Rp.mut d _ _ h1 a m
      · exact RpL.mut ds _ _ h2 a m
theorem RpL.mutK {K : PySem.W.Frag} {H : Hp} : ∀ (kvs : List (D × D)) (vs : List V) (fp : List Addr), RpL K H vs (kvs.map (·.2)) fp → ∀ a ∈ fp, Mut (H a)
  | [], _, _, h, _ => by cases h; intro m; cases m
  | (_, d) :: ds, _, _, h, a => by
    cases h with
    | cons h1 h2 =>
      intro m
      rcases List.mem_append.mp m with m | m
      · exact Rp.mut d _ _ h1 a m
      · exact RpL.mutK ds _ _ h2 a m
end
theorem Rp.dom {K : PySem.W.Frag} {H : Hp} {d : D} {v : V} {fp : List Addr} (h : Rp K H v d fp) {a : Addr} (m : a ∈ fp) : H a ≠ none := fun e => by
  have := Rp.mut d v fp h a m
  rw [e] at this; exact this
theorem RpL.dom {K : PySem.W.Frag} {H : Hp} {d : List D} {v : List V} {fp : List Addr} (h : RpL K H v d fp) {a : Addr} (m : a ∈ fp) : H a ≠ none := fun e => by
  have := RpL.mut d v fp h a m
  rw [e] at this; exact this
theorem Rp.same {K : PySem.W.Frag} {H H' : Hp} {d : D} {v : V} {fp : List Addr} (h : Rp K H v d fp) (s : Same H H') : Rp K H' v d fp := Rp.keep (F := fun _ => True) (Keep.of_same s) d v fp h fun _ _ => trivial
theorem RpL.same {K : PySem.W.Frag} {H H' : Hp} {d : List D} {v : List V} {fp : List Addr} (h : RpL K H v d fp) (s : Same H H') : RpL K H' v d fp := RpL.keep (F := fun _ => True) (Keep.of_same s) d v fp h fun _ _ => trivial
theorem RpL.length {K : PySem.W.Frag} {H : Hp} : ∀ {ds : List D} {vs : List V} {fp : List Addr}, RpL K H vs ds fp → vs.length = ds.length
  | [], _, _, h => by cases h; rfl
  | d :: ds, _, _, h => by
    cases h with
    | cons h1 h2 => simp [RpL.length h2]

/-! ### pure data: no list, no dict below -/
mutual
def pureD : D → Bool
  | .none => true
  | .bool _ => true
  | .int _ => true
  | .str _ => true
  | .list _ => false
  | .dict _ => false
  | .tuple ds => pureL ds
def pureL : List D → Bool
  | [] => true
  | d :: ds => pureD d && pureL ds
end
mutual
theorem Rp.pure {K : PySem.W.Frag} {H : Hp} : ∀ (d : D) (v : V) (fp : List Addr), Rp K H v d fp → pureD d = true → fp = []
  | .none, _, _, h, _ => by cases h; rfl
  | .bool b, _, _, h, _ => by cases h; rfl
  | .int b, _, _, h, _ => by cases h; rfl
  | .str b, _, _, h, _ => by cases h; rfl
  | .list ds, _, _, h, p => by cases p
  | .dict ds, _, _, h, p => by cases p
  | .tuple ds, _, _, h, p => by
    cases h with
    | tup h1 h2 h3 => exact RpL.pure ds _ _ h3 (by simpa [pureD] using p)
theorem RpL.pure {K : PySem.W.Frag} {H : Hp} : ∀ (ds : List D) (vs : List V) (fp : List Addr), RpL K H vs ds fp → pureL ds = true → fp = []
  | [], _, _, h, _ => by cases h; rfl
  | d :: ds, _, _, h, p => by
    cases h with
    | cons h1 h2 =>
      simp only [pureL, Bool.and_eq_true] at p
      rw [Rp.pure d _ _ h1 p.1, RpL.pure ds _ _ h2 p.2]; rfl
end
theorem Rp.of_nil {K : PySem.W.Frag} {H H' : Hp} {F : Addr → Prop} {d : D} {v : V} (h : Rp K H v d []) (k : Keep F H H') : Rp K H' v d [] :=
  Rp.keep k d v [] h fun _ m => by cases m
theorem RpL.get {K : PySem.W.Frag} {H : Hp} : ∀ {ds : List D} {vs : List V} {fp : List Addr}, RpL K H vs ds fp → ∀ {i : Nat} {d : D}, ds[i]? = some d → ∃ v f, vs[i]? = some v ∧ Rp K H v d f ∧ (∀ a ∈ f, a ∈ fp)
  | [], _, _, h, i, d, e => by simp at e
  | d :: ds, _, _, h, 0, d', e => by
    cases h with
    | cons h1 h2 =>
      simp at e; subst e
      exact ⟨_, _, rfl, h1, fun a m => List.mem_append_left _ m⟩
  | d :: ds, _, _, h, i + 1, d', e => by
    cases h with
    | cons h1 h2 =>
      obtain ⟨v, f, e1, r, m⟩ := RpL.get h2 (i := i) (d := d') (by simpa using e)
      exact ⟨v, f, by simpa using e1, r, fun a ha => List.mem_append_right _ (m a ha)⟩
theorem RpL.getV {K : PySem.W.Frag} {H : Hp} {ds : List D} {vs : List V} {fp : List Addr} (h : RpL K H vs ds fp) {i : Nat} {v : V} (e : vs[i]? = some v) : ∃ d f, ds[i]? = some d ∧ Rp K H v d f ∧ (∀ a ∈ f, a ∈ fp) := by
  have hl := h.length
  have hi : i < vs.length := by
    rcases Nat.lt_or_ge i vs.length with h | h
    · exact h
    · rw [List.getElem?_eq_none h] at e; cases e
  have hi' : i < ds.length := by omega
  obtain ⟨v', f, e1, r, m⟩ := h.get (List.getElem?_eq_getElem hi')
  rw [e] at e1
  cases e1
  exact ⟨_, f, List.getElem?_eq_getElem hi', r, m⟩

/-! ### slots -/
inductive Ow where
  | ro | own | pin
  deriving DecidableEq
def Ow.w : Ow → Bool
  | .ro => false
  | .own => true
  | .pin => true
structure Cl where
  d : D
  o : Ow
abbrev Rh := List (Option Cl)

/-- what is read: each known slot holds its data -/
structure RhR (K : PySem.W.Frag) (ρ : Rh) (σ : L2.St) (H : Hp) : Prop where
  tb : TabI H
  len : σ.length = ρ.length
  rp : ∀ (i : Nat) (c : Cl), ρ[i]? = some (some c) → ∃ v fp, σ[i]? = some (some v) ∧ Rp K H v c.d fp
theorem RhR.same {K : PySem.W.Frag} {ρ : Rh} {σ : L2.St} {H H' : Hp} (h : RhR K ρ σ H) (s : Same H H') : RhR K ρ σ H' := ⟨s.tab h.tb, h.len, fun i c e => let ⟨v, fp, e1, r⟩ := h.rp i c e; ⟨v, fp, e1, r.same s⟩⟩

/-- the frame: F stays as it is; so does P, of which no slot knows -/
structure Fm where
  F : Addr → Prop
  P : Addr → Prop
def Fm.all (F : Fm) : Addr → Prop := fun a => F.F a ∨ F.P a
structure Rho (K : PySem.W.Frag) (F : Fm) (L : Nat → Option V) (ρ : Rh) (σ : L2.St) (H : Hp) (f : Nat → List Addr) : Prop where
  tb : TabI H
  len : σ.length = ρ.length
  fok : ∀ a, F.all a → H a ≠ none
  rp : ∀ (i : Nat) (c : Cl), ρ[i]? = some (some c) → ∃ v, σ[i]? = some (some v) ∧ Rp K H v c.d (f i)
  nd : ∀ (i : Nat) (c : Cl), ρ[i]? = some (some c) → c.o.w = true → (f i).Nodup ∧ ∀ a ∈ f i, ¬ F.F a
  pv : ∀ (i : Nat) (c : Cl), ρ[i]? = some (some c) → ∀ a ∈ f i, ¬ F.P a
  dj : ∀ (i j : Nat) (c c' : Cl), i ≠ j → ρ[i]? = some (some c) → c.o.w = true → ρ[j]? = some (some c') → ∀ a ∈ f i, a ∉ f j
  pin : ∀ (i : Nat) (v : V), L i = some v → σ[i]? = some (some v) ∧ ∃ c, ρ[i]? = some (some c) ∧ c.o = .pin
section
variable {K : PySem.W.Frag} {F : Fm} {L : Nat → Option V} {ρ ρ' : Rh} {σ : L2.St} {H H' : Hp} {f : Nat → List Addr}
theorem Rho.rd (R : Rho K F L ρ σ H f) : RhR K ρ σ H := ⟨R.tb, R.len, fun i c e => let ⟨v, e1, r⟩ := R.rp i c e; ⟨v, _, e1, r⟩⟩
theorem Rho.same (R : Rho K F L ρ σ H f) (s : Same H H') : Rho K F L ρ σ H' f := by
  exact ⟨s.tab R.tb, R.len, fun a h e => R.fok a h (s.dom a e), fun i c e => let ⟨v, e1, r⟩ := R.rp i c e; ⟨v, e1, r.same s⟩, R.nd, R.pv, R.dj, R.pin⟩
theorem Rho.domf (R : Rho K F L ρ σ H f) {i : Nat} {c : Cl} (e : ρ[i]? = some (some c)) {a : Addr} (m : a ∈ f i) : H a ≠ none := by
  obtain ⟨v, _, r⟩ := R.rp i c e
  exact r.dom m
structure Fresh (K : PySem.W.Frag) (F : Fm) (ρ : Rh) (f : Nat → List Addr) (v : V) (d : D) (fp : List Addr) (H : Hp) : Prop where
  rp : Rp K H v d fp
  nd : fp.Nodup
  nf : ∀ a ∈ fp, ¬ F.all a
  dj : ∀ (i : Nat) (c : Cl), ρ[i]? = some (some c) → ∀ a ∈ fp, a ∉ f i
/-- new below a value: fresh -/
theorem Rho.fresh (R : Rho K F L ρ σ H f) (s : Same H H') {v : V} {d : D} {fp : List Addr} (r : Rp K H' v d fp) (nd : fp.Nodup) (nw : ∀ a ∈ fp, H a = none) : Fresh K F ρ f v d fp H' :=
  ⟨r, nd, fun a m hF => R.fok a hF (nw a m), fun i c e a m m' => R.domf e m' (nw a m)⟩
/-- a value is held while more runs -/
def Fm.hold (F : Fm) (fp : List Addr) : Fm := ⟨F.F, fun a => F.P a ∨ a ∈ fp⟩
def Fm.also (F : Fm) (S : Addr → Prop) : Fm := ⟨fun a => F.F a ∨ S a, F.P⟩
theorem Fm.all_hold {F : Fm} {fp : List Addr} {a : Addr} (h : F.all a) : (F.hold fp).all a := h.imp id .inl
theorem Fm.mem_hold {F : Fm} {fp : List Addr} {a : Addr} (h : a ∈ fp) : (F.hold fp).all a := .inr (.inr h)
theorem Fm.all_also {F : Fm} {S : Addr → Prop} {a : Addr} (h : F.all a) : (F.also S).all a := h.imp .inl id
theorem Rho.hold {v : V} {d : D} {fp : List Addr} (R : Rho K F L ρ σ H f) (fr : Fresh K F ρ f v d fp H) : Rho K (F.hold fp) L ρ σ H f :=
  ⟨R.tb, R.len, fun a h => h.elim (fun z => R.fok a (.inl z)) fun z => z.elim (fun z => R.fok a (.inr z)) fun m => fr.rp.dom m, R.rp, R.nd,
    fun i c e a m h => h.elim (R.pv i c e a m) fun m' => fr.dj i c e a m' m, R.dj, R.pin⟩
theorem Rho.unhold {fp : List Addr} (R : Rho K (F.hold fp) L ρ σ H f) : Rho K F L ρ σ H f :=
  ⟨R.tb, R.len, fun a h => R.fok a (Fm.all_hold h), R.rp, R.nd, fun i c e a m h => R.pv i c e a m (.inl h), R.dj, R.pin⟩
theorem Rho.unalso {S : Addr → Prop} (R : Rho K (F.also S) L ρ σ H f) : Rho K F L ρ σ H f :=
  ⟨R.tb, R.len, fun a h => R.fok a (Fm.all_also h), R.rp, fun i c e w => ⟨(R.nd i c e w).1, fun a m h => (R.nd i c e w).2 a m (.inl h)⟩, R.pv, R.dj, R.pin⟩
theorem Keep.unhold {fp : List Addr} (k : Keep (F.hold fp).all H H') : Keep F.all H H' := k.mono fun _ => Fm.all_hold
theorem Keep.unalso {S : Addr → Prop} (k : Keep (F.also S).all H H') : Keep F.all H H' := k.mono fun _ => Fm.all_also
/-- a held value behind more -/
theorem Fresh.over {f' : Nat → List Addr} {v : V} {d : D} {fp : List Addr} (fr : Fresh K F ρ f v d fp H) (k : Keep (F.hold fp).all H H') (R : Rho K (F.hold fp) L ρ' σ H' f') : Fresh K F ρ' f' v d fp H' :=
  ⟨Rp.keep k d v fp fr.rp fun a m => Fm.mem_hold m, fr.nd, fr.nf, fun i c e a m m' => R.pv i c e a m' (.inr m)⟩
end

/-! ### expressions without effect: fr tells whether all lists below the value are new -/
def EP (fr : Bool) (X : Cx) (e : Expr) (h : Rh → Option D) : Prop :=
  ∃ t : TE, PE X e t ∧ ∀ (ρ : Rh) (σ : L2.St) (H : Hp) (d : D) (Q : VK), RhR X.K ρ σ H → h ρ = some d →
    (∀ v H' fp, Same H H' → Rp X.K H' v d fp → (fr = true → fp.Nodup ∧ ∀ a ∈ fp, H a = none) → Q v H') → t σ H Q
/-- expressions: the value's lists belong to nobody else -/
def EV (X : Cx) (e : Expr) (g : Rh → Option (D × Rh)) : Prop :=
  ∃ t : TE, PE X e t ∧ ∀ (F : Fm) (L : Nat → Option V) (ρ : Rh) (σ : L2.St) (H : Hp) (f : Nat → List Addr) (d : D) (ρ' : Rh) (Q : VK), Rho X.K F L ρ σ H f → g ρ = some (d, ρ') →
    (∀ v H' f' fp, Rho X.K F L ρ' σ H' f' → Fresh X.K F ρ' f' v d fp H' → Keep F.all H H' → Q v H') → t σ H Q
/-- tests without effect; tests -/
def TP (X : Cx) (e : Expr) (h : Rh → Option Bool) : Prop :=
  ∃ t : TT, PT X e t ∧ ∀ (ρ : Rh) (σ : L2.St) (H : Hp) (b : Bool) (Q : Bool → Hp → Prop), RhR X.K ρ σ H → h ρ = some b → (∀ H', Same H H' → Q b H') → t σ H Q
def TV (X : Cx) (e : Expr) (g : Rh → Option (Bool × Rh)) : Prop :=
  ∃ t : TT, PT X e t ∧ ∀ (F : Fm) (L : Nat → Option V) (ρ : Rh) (σ : L2.St) (H : Hp) (f : Nat → List Addr) (b : Bool) (ρ' : Rh) (Q : Bool → Hp → Prop), Rho X.K F L ρ σ H f → g ρ = some (b, ρ') →
    (∀ H' f', Rho X.K F L ρ' σ H' f' → Keep F.all H H' → Q b H') → t σ H Q
def lift {α : Type} (h : Rh → Option α) : Rh → Option (α × Rh) := fun ρ => (h ρ).map fun d => (d, ρ)
theorem lift_some {α : Type} {h : Rh → Option α} {ρ ρ' : Rh} {a : α} (e : lift h ρ = some (a, ρ')) : h ρ = some a ∧ ρ = ρ' := by
  unfold lift at e
  cases q : h ρ with
  | none => rw [q] at e; cases e
  | some x => rw [q] at e; cases e; exact ⟨rfl, rfl⟩
section
variable {X : Cx} {e : Expr}
theorem EV.of {h : Rh → Option D} (p : EP true X e h) : EV X e (lift h) := by
  obtain ⟨t, pe, hq⟩ := p
  refine ⟨t, pe, fun F L ρ σ H f d ρ' Q R g q => ?_⟩
  obtain ⟨hd, rfl⟩ := lift_some g
  refine hq ρ σ H d Q R.rd hd fun v H' fp s r fr => ?_
  obtain ⟨nd, nw⟩ := fr rfl
  exact q v H' f fp (R.same s) (R.fresh s r nd nw) (Keep.of_same s)
theorem TV.of {h : Rh → Option Bool} (p : TP X e h) : TV X e (lift h) := by
  obtain ⟨t, pe, hq⟩ := p
  refine ⟨t, pe, fun F L ρ σ H f d ρ' Q R g q => ?_⟩
  obtain ⟨hd, rfl⟩ := lift_some g
  exact hq ρ σ H d Q R.rd hd fun H' s => q H' f (R.same s) (Keep.of_same s)
theorem EP.weak {h : Rh → Option D} (p : EP true X e h) : EP false X e h := by
  obtain ⟨t, pe, hq⟩ := p
  exact ⟨t, pe, fun ρ σ H d Q R hd q => hq ρ σ H d Q R hd fun v H' fp s r _ => q v H' fp s r (fun z => nomatch z)⟩
/-- pure data are new in any case -/
def gd (d : D) : Option D := if pureD d = true then some d else none
theorem EP.gd {fr : Bool} {h : Rh → Option D} (p : EP fr X e h) : EP true X e (fun ρ => (h ρ).bind gd) := by
  obtain ⟨t, pe, hq⟩ := p
  refine ⟨t, pe, fun ρ σ H d Q R hd q => ?_⟩
  cases hh : h ρ with
  | none => simp [hh] at hd
  | some d' =>
    simp only [hh] at hd
    simp only [Option.bind_some, PV.gd] at hd
    split at hd
    · rename_i pd
      cases hd
      refine hq ρ σ H d Q R hh fun v H' fp s r _ => q v H' fp s r fun _ => ?_
      rw [Rp.pure d v fp r pd]
      exact ⟨List.nodup_nil, fun a m => nomatch m⟩
    · cases hd
end
end PV

set_option Elab.async false
set_option linter.all false
set_option maxRecDepth 100000
set_option maxHeartbeats 1000000
namespace PV
open PySem PySem.Spec PyProof.Rows L2
variable [TN]

theorem Same.new {H H' : Hp} (s : Same H H') {a : Addr} (h : H' a = none) : H a = none := s.dom a h
/-! ### names, constants -/
def getS (i : Nat) (ρ : Rh) : Option D := match ρ[i]? with
  | some (some c) => some c.d
  | _ => none
theorem getS_some {i : Nat} {ρ : Rh} {d : D} (h : getS i ρ = some d) : ∃ c, ρ[i]? = some (some c) ∧ c.d = d := by
  unfold getS at h
  split at h
  · rename_i c e; cases h; exact ⟨c, e, rfl⟩
  · cases h
section
variable {X : Cx} {pos : Pos}
theorem ep_var {i : Nat} {x : Str} (p : PE X (.Name x pos) (tVar i)) : EP false X (.Name x pos) (getS i) := by
  refine ⟨_, p, fun ρ σ H d Q R h q => ?_⟩
  obtain ⟨c, e, rfl⟩ := getS_some h
  obtain ⟨v, fp, e1, r⟩ := R.rp i c e
  exact ⟨v, e1, q v H fp Same.refl r (fun z => nomatch z)⟩
def cst (d : D) : Rh → Option D := fun _ => some d
theorem ep_k {e : Expr} {v : V} {d : D} (p : PE X e (tC v)) (r : ∀ H, Rp X.K H v d []) : EP true X e (cst d) := by
  refine ⟨_, p, fun ρ σ H d' Q R h q => ?_⟩
  cases h
  exact q v H [] Same.refl (r H) fun _ => ⟨List.nodup_nil, fun a m => nomatch m⟩
theorem ep_int {i : Int} {j : Nat} : EP true X (.Constant (.int i) j pos) (cst (.int i)) := ep_k pe_int fun _ => .int i
theorem ep_bl {b : Bool} {j : Nat} : EP true X (.Constant (.bool b) j pos) (cst (.bool b)) := ep_k pe_bl fun _ => .bl b
theorem ep_non {j : Nat} : EP true X (.Constant .none j pos) (cst .none) := ep_k pe_non fun _ => .non
theorem ep_str {x : Str} {j : Nat} : EP true X (.Constant (.str x) j pos) (cst (.str x)) := ep_k pe_str fun _ => .str x
theorem ep_glob {x : Str} {v : V} {u : Value} {d : D} (hg : Gl X x) (hm : X.mg x = some u) (r : RelV v u) (rd : ∀ H, Rp X.K H v d []) (hd : (x == ("__debug__" : Str)) = false := by decide) : EP true X (.Name x pos) (cst d) := ep_k (pe_glob hg hm r hd) rd

/-! ### operators by values -/
/-- r answers fn; fr: new lists below the answer -/
def R2ok (fr : Bool) (K : PySem.W.Frag) (r : R2) (fn : D → D → Option D) : Prop :=
  ∀ H x y d e z fx fy (Q : VK), Rp K H x d fx → Rp K H y e fy → fn d e = some z → (∀ v H' fp, Same H H' → Rp K H' v z fp → (fr = true → fp.Nodup ∧ ∀ a ∈ fp, H a = none) → Q v H') → r x y H Q
def o2 (fn : D → D → Option D) (h1 h2 : Rh → Option D) : Rh → Option D := fun ρ => match h1 ρ, h2 ρ with
  | some x, some y => fn x y
  | _, _ => none
theorem o2_some {fn : D → D → Option D} {h1 h2 : Rh → Option D} {ρ : Rh} {z : D} (h : o2 fn h1 h2 ρ = some z) : ∃ x y, h1 ρ = some x ∧ h2 ρ = some y ∧ fn x y = some z := by
  unfold o2 at h
  split at h
  · rename_i x y e1 e2; exact ⟨x, y, e1, e2, h⟩
  · cases h
/-- with effects, from the left -/
def v2 (fn : D → D → Option D) (g1 g2 : Rh → Option (D × Rh)) : Rh → Option (D × Rh) := fun ρ => match g1 ρ with
  | some (x, ρ1) => match g2 ρ1 with
    | some (y, ρ2) => (fn x y).map fun z => (z, ρ2)
    | none => none
  | none => none
theorem v2_some {fn : D → D → Option D} {g1 g2 : Rh → Option (D × Rh)} {ρ ρ' : Rh} {z : D} (h : v2 fn g1 g2 ρ = some (z, ρ')) : ∃ x ρ1 y, g1 ρ = some (x, ρ1) ∧ g2 ρ1 = some (y, ρ') ∧ fn x y = some z := by
  unfold v2 at h
  split at h
  · rename_i x ρ1 e1
    split at h
    · rename_i y ρ2 e2
      cases q : fn x y with
      | none => rw [q] at h; cases h
      | some w => rw [q] at h; cases h; exact ⟨x, ρ1, y, e1, e2, q⟩
    · cases h
  · cases h
theorem ep_op2 {e a b : Expr} {fr fa fb : Bool} {r : R2} {fn : D → D → Option D} {h1 h2 : Rh → Option D} (pe : ∀ {ta tb : TE}, PE X a ta → PE X b tb → PE X e (tOp r ta tb)) (hr : R2ok fr X.K r fn) (ha : EP fa X a h1) (hb : EP fb X b h2) : EP fr X e (o2 fn h1 h2) := by
  obtain ⟨ta, pa, qa⟩ := ha
  obtain ⟨tb, pb, qb⟩ := hb
  refine ⟨_, pe pa pb, fun ρ σ H d Q R h q => ?_⟩
  obtain ⟨x, y, e1, e2, e3⟩ := o2_some h
  refine qa ρ σ H x _ R e1 fun v H1 fp s r1 _ => ?_
  refine qb ρ σ H1 y _ (R.same s) e2 fun u H2 fq s2 r2 _ => ?_
  refine hr H2 v u x y d fp fq Q (r1.same s2) r2 e3 fun z H3 fz s3 r3 hz => q z H3 fz (same_trans s (same_trans s2 s3)) r3 fun hfr => ?_
  obtain ⟨nd, nw⟩ := hz hfr
  exact ⟨nd, fun a m => Same.new (same_trans s s2) (nw a m)⟩
end
end PV

set_option Elab.async false
set_option linter.all false
set_option maxRecDepth 100000
set_option maxHeartbeats 1000000
namespace PV
open PySem PySem.Spec PyProof.Rows L2
variable [TN]

section
variable {X : Cx} {pos : Pos}
/-- with effects -/
theorem ev_op2 {e a b : Expr} {r : R2} {fn : D → D → Option D} {g1 g2 : Rh → Option (D × Rh)} (pe : ∀ {ta tb : TE}, PE X a ta → PE X b tb → PE X e (tOp r ta tb)) (hr : R2ok true X.K r fn) (ha : EV X a g1) (hb : EV X b g2) : EV X e (v2 fn g1 g2) := by
  obtain ⟨ta, pa, qa⟩ := ha
  obtain ⟨tb, pb, qb⟩ := hb
  refine ⟨_, pe pa pb, fun F L ρ σ H f d ρ' Q R h q => ?_⟩
  obtain ⟨x, ρ1, y, e1, e2, e3⟩ := v2_some h
  refine qa F L ρ σ H f x ρ1 _ R e1 fun v H1 f1 fp R1 fr1 k1 => ?_
  refine qb (F.hold fp) L ρ1 σ H1 f1 y ρ' _ (R1.hold fr1) e2 fun u H2 f2 fq R2 fr2 k2 => ?_
  have fr1' := fr1.over k2 R2
  refine hr H2 v u x y d fp fq Q fr1'.rp fr2.rp e3 fun z H3 fz s3 r3 hz => ?_
  obtain ⟨nd, nw⟩ := hz rfl
  exact q z H3 f2 fz (R2.unhold.same s3) (R2.unhold.fresh s3 r3 nd nw) (k1.trans (k2.unhold.trans (Keep.of_same s3)))
/-- the second has no effect: the first may be any (read) -/
theorem ep_un {e a : Expr} {fr fa : Bool} {r : V → Hp → VK → Prop} {fn : D → Option D} {h1 : Rh → Option D} (pe : ∀ {ta : TE}, PE X a ta → PE X e (tUn r ta))
    (hr : ∀ H x d z fx (Q : VK), Rp X.K H x d fx → fn d = some z → (∀ v H' fp, Same H H' → Rp X.K H' v z fp → (fr = true → fp.Nodup ∧ ∀ a ∈ fp, H a = none) → Q v H') → r x H Q)
    (ha : EP fa X a h1) : EP fr X e (fun ρ => (h1 ρ).bind fn) := by
  obtain ⟨ta, pa, qa⟩ := ha
  refine ⟨_, pe pa, fun ρ σ H d Q R h q => ?_⟩
  cases e1 : h1 ρ with
  | none => simp [e1] at h
  | some x =>
    simp only [e1, Option.bind_some] at h
    refine qa ρ σ H x _ R e1 fun v H1 fp s r1 _ => ?_
    refine hr H1 v x d fp Q r1 h fun z H2 fz s2 r2 hz => q z H2 fz (same_trans s s2) r2 fun hfr => ?_
    exact ⟨(hz hfr).1, fun a m => Same.new s ((hz hfr).2 a m)⟩

/-! ### argument lists -/
def AP (fr : Bool) (X : Cx) (es : List Expr) (h : Rh → Option (List D)) : Prop :=
  ∃ t : TA, PA X es t ∧ ∀ (ρ : Rh) (σ : L2.St) (H : Hp) (ds : List D) (Q : List V → Hp → Prop), RhR X.K ρ σ H → h ρ = some ds →
    (∀ vs H' fp, Same H H' → RpL X.K H' vs ds fp → (fr = true → fp.Nodup ∧ ∀ a ∈ fp, H a = none) → Q vs H') → t σ H Q
structure FreshL (K : PySem.W.Frag) (F : Fm) (ρ : Rh) (f : Nat → List Addr) (v : List V) (d : List D) (fp : List Addr) (H : Hp) : Prop where
  rp : RpL K H v d fp
  nd : fp.Nodup
  nf : ∀ a ∈ fp, ¬ F.all a
  dj : ∀ (i : Nat) (c : Cl), ρ[i]? = some (some c) → ∀ a ∈ fp, a ∉ f i
def AV (X : Cx) (es : List Expr) (g : Rh → Option (List D × Rh)) : Prop :=
  ∃ t : TA, PA X es t ∧ ∀ (F : Fm) (L : Nat → Option V) (ρ : Rh) (σ : L2.St) (H : Hp) (f : Nat → List Addr) (ds : List D) (ρ' : Rh) (Q : List V → Hp → Prop), Rho X.K F L ρ σ H f → g ρ = some (ds, ρ') →
    (∀ vs H' f' fp, Rho X.K F L ρ' σ H' f' → FreshL X.K F ρ' f' vs ds fp H' → Keep F.all H H' → Q vs H') → t σ H Q
def aNil : Rh → Option (List D) := fun _ => some []
def aCons (h : Rh → Option D) (hs : Rh → Option (List D)) : Rh → Option (List D) := fun ρ => match h ρ, hs ρ with
  | some d, some ds => some (d :: ds)
  | _, _ => none
def bNil : Rh → Option (List D × Rh) := fun ρ => some ([], ρ)
def bCons (g : Rh → Option (D × Rh)) (gs : Rh → Option (List D × Rh)) : Rh → Option (List D × Rh) := fun ρ => match g ρ with
  | some (d, ρ1) => match gs ρ1 with
    | some (ds, ρ2) => some (d :: ds, ρ2)
    | none => none
  | none => none
theorem ap_nil {fr : Bool} : AP fr X [] aNil := ⟨_, pa_nil, fun ρ σ H ds Q R h q => by
  cases h
  exact q [] H [] Same.refl .nil fun _ => ⟨List.nodup_nil, fun a m => nomatch m⟩⟩
theorem ap_cons {fr : Bool} {e : Expr} {es : List Expr} {h : Rh → Option D} {hs : Rh → Option (List D)} (ha : EP fr X e h) (has : AP fr X es hs) (hst : starEach (e :: es) X.env = (false, eval e X.env) :: starEach es X.env := by rfl) : AP fr X (e :: es) (aCons h hs) := by
  obtain ⟨ta, pa, qa⟩ := ha
  obtain ⟨tb, pb, qb⟩ := has
  refine ⟨_, pa_cons pa pb hst, fun ρ σ H ds Q R hh q => ?_⟩
  unfold aCons at hh
  split at hh
  · rename_i d ds' e1 e2
    cases hh
    refine qa ρ σ H d _ R e1 fun v H1 fp s r1 n1 => ?_
    refine qb ρ σ H1 ds' _ (R.same s) e2 fun vs H2 fq s2 r2 n2 => ?_
    refine q (v :: vs) H2 (fp ++ fq) (same_trans s s2) (.cons (r1.same s2) r2) fun hfr => ?_
    obtain ⟨nd1, nw1⟩ := n1 hfr
    obtain ⟨nd2, nw2⟩ := n2 hfr
    refine ⟨List.nodup_append.mpr ⟨nd1, nd2, fun a m b m' e => ?_⟩, fun a m => ?_⟩
    · subst e; exact r1.dom m (nw2 a m')
    · rcases List.mem_append.mp m with m | m
      · exact nw1 a m
      · exact Same.new s (nw2 a m)
  · cases hh
theorem av_nil : AV X [] bNil := ⟨_, pa_nil, fun F L ρ σ H f ds ρ' Q R h q => by
  cases h
  exact q [] H f [] R ⟨.nil, List.nodup_nil, fun a m => (nomatch m), fun _ _ _ a m => (nomatch m)⟩ Keep.refl⟩
theorem av_cons {e : Expr} {es : List Expr} {g : Rh → Option (D × Rh)} {gs : Rh → Option (List D × Rh)} (ha : EV X e g) (has : AV X es gs) (hst : starEach (e :: es) X.env = (false, eval e X.env) :: starEach es X.env := by rfl) : AV X (e :: es) (bCons g gs) := by
  obtain ⟨ta, pa, qa⟩ := ha
  obtain ⟨tb, pb, qb⟩ := has
  refine ⟨_, pa_cons pa pb hst, fun F L ρ σ H f ds ρ' Q R hh q => ?_⟩
  unfold bCons at hh
  split at hh
  · rename_i d ρ1 e1
    split at hh
    · rename_i ds' ρ2 e2
      cases hh
      refine qa F L ρ σ H f d ρ1 _ R e1 fun v H1 f1 fp R1 fr1 k1 => ?_
      refine qb (F.hold fp) L ρ1 σ H1 f1 ds' ρ' _ (R1.hold fr1) e2 fun vs H2 f2 fq R2 fr2 k2 => ?_
      have fr1' := fr1.over k2 R2
      refine q (v :: vs) H2 f2 (fp ++ fq) R2.unhold ⟨.cons fr1'.rp fr2.rp, List.nodup_append.mpr ⟨fr1.nd, fr2.nd, fun a m b m' e => ?_⟩, fun a m => ?_, fun i c ec a m => ?_⟩ (k1.trans k2.unhold)
      · subst e; exact fr2.nf a m' (Fm.mem_hold m)
      · rcases List.mem_append.mp m with m | m
        · exact fr1.nf a m
        · exact fun z => fr2.nf a m (Fm.all_hold z)
      · rcases List.mem_append.mp m with m | m
        · exact fr1'.dj i c ec a m
        · exact fr2.dj i c ec a m
    · cases hh
  · cases hh
theorem AV.of {es : List Expr} {h : Rh → Option (List D)} (p : AP true X es h) : AV X es (lift h) := by
  obtain ⟨t, pe, hq⟩ := p
  refine ⟨t, pe, fun F L ρ σ H f d ρ' Q R g q => ?_⟩
  obtain ⟨hd, rfl⟩ := lift_some g
  refine hq ρ σ H d Q R.rd hd fun v H' fp s r fr => ?_
  obtain ⟨nd, nw⟩ := fr rfl
  exact q v H' f fp (R.same s) ⟨r, nd, fun a m hF => R.fok a hF (nw a m), fun i c e a m m' => R.domf e m' (nw a m)⟩ (Keep.of_same s)

/-! ### displays -/
def mkT (h : Rh → Option (List D)) : Rh → Option D := fun ρ => match h ρ with
  | some ds => if ds.length ≤ 1000000 then some (.tuple ds) else none
  | none => none
def mkL (h : Rh → Option (List D)) : Rh → Option D := fun ρ => match h ρ with
  | some ds => if ds.length ≤ 1000000 then some (.list ds) else none
  | none => none
theorem mil_line {n : Nat} (h : n ≤ 1000000) : n ≤ sizeLine := Nat.le_trans h (by decide)
theorem ep_tup {fr : Bool} {es : List Expr} {x1 : Nat} {h : Rh → Option (List D)} (ha : AP fr X es h) : EP fr X (.Tuple es x1 pos) (mkT h) := by
  obtain ⟨ta, pa, qa⟩ := ha
  refine ⟨_, pe_tup pa, fun ρ σ H d Q R hh q => ?_⟩
  unfold mkT at hh
  split at hh
  · rename_i ds e1
    split at hh
    · rename_i hl
      cases hh
      refine qa ρ σ H ds _ R e1 fun vs H1 fp s r n => ?_
      have hz : vs.length ≤ sizeLine := by rw [r.length]; exact mil_line hl
      refine ⟨hz, fun p np => ?_⟩
      exact q (.ref p) _ fp (same_trans s (same_upd np)) (.tup upd_same hz (r.same (same_upd np))) n
    · cases hh
  · cases hh
theorem ep_lst {es : List Expr} {h : Rh → Option (List D)} (ha : AP true X es h) : EP true X (.List es pos) (mkL h) := by
  obtain ⟨ta, pa, qa⟩ := ha
  refine ⟨_, pe_lst pa, fun ρ σ H d Q R hh q => ?_⟩
  unfold mkL at hh
  split at hh
  · rename_i ds e1
    split at hh
    · rename_i hl
      cases hh
      refine qa ρ σ H ds _ R e1 fun vs H1 fp s r n => ?_
      have hz : vs.length ≤ sizeLine := by rw [r.length]; exact mil_line hl
      refine ⟨hz, fun p np => ?_⟩
      refine q (.ref p) _ (p :: fp) (same_trans s (same_upd np)) (.lst upd_same hz (r.same (same_upd np))) fun _ => ?_
      obtain ⟨nd, nw⟩ := n rfl
      refine ⟨List.nodup_cons.mpr ⟨fun m => r.dom m np, nd⟩, fun a m => ?_⟩
      rcases List.mem_cons.mp m with m | m
      · rw [m]; exact Same.new s np
      · exact nw a m
    · cases hh
  · cases hh
def nkT (g : Rh → Option (List D × Rh)) : Rh → Option (D × Rh) := fun ρ => match g ρ with
  | some (ds, ρ') => if ds.length ≤ 1000000 then some (.tuple ds, ρ') else none
  | none => none
def nkL (g : Rh → Option (List D × Rh)) : Rh → Option (D × Rh) := fun ρ => match g ρ with
  | some (ds, ρ') => if ds.length ≤ 1000000 then some (.list ds, ρ') else none
  | none => none
theorem ev_tup {es : List Expr} {x1 : Nat} {g : Rh → Option (List D × Rh)} (ha : AV X es g) : EV X (.Tuple es x1 pos) (nkT g) := by
  obtain ⟨ta, pa, qa⟩ := ha
  refine ⟨_, pe_tup pa, fun F L ρ σ H f d ρ' Q R hh q => ?_⟩
  unfold nkT at hh
  split at hh
  · rename_i ds ρ1 e1
    split at hh
    · rename_i hl
      cases hh
      refine qa F L ρ σ H f ds ρ' _ R e1 fun vs H1 f1 fp R1 fr k => ?_
      have hz : vs.length ≤ sizeLine := by rw [fr.rp.length]; exact mil_line hl
      refine ⟨hz, fun p np => ?_⟩
      exact q (.ref p) _ f1 fp (R1.same (same_upd np)) ⟨.tup upd_same hz (fr.rp.same (same_upd np)), fr.nd, fr.nf, fr.dj⟩ (k.trans (Keep.of_same (same_upd np)))
    · cases hh
  · cases hh
theorem ev_lst {es : List Expr} {g : Rh → Option (List D × Rh)} (ha : AV X es g) : EV X (.List es pos) (nkL g) := by
  obtain ⟨ta, pa, qa⟩ := ha
  refine ⟨_, pe_lst pa, fun F L ρ σ H f d ρ' Q R hh q => ?_⟩
  unfold nkL at hh
  split at hh
  · rename_i ds ρ1 e1
    split at hh
    · rename_i hl
      cases hh
      refine qa F L ρ σ H f ds ρ' _ R e1 fun vs H1 f1 fp R1 fr k => ?_
      have hz : vs.length ≤ sizeLine := by rw [fr.rp.length]; exact mil_line hl
      refine ⟨hz, fun p np => ?_⟩
      refine q (.ref p) _ f1 (p :: fp) (R1.same (same_upd np)) ⟨.lst upd_same hz (fr.rp.same (same_upd np)), List.nodup_cons.mpr ⟨fun m => fr.rp.dom m np, fr.nd⟩, fun a m => ?_, fun i c e a m => ?_⟩ (k.trans (Keep.of_same (same_upd np)))
      · rcases List.mem_cons.mp m with m | m
        · rw [m]; exact fun z => R1.fok p z np
        · exact fr.nf a m
      · rcases List.mem_cons.mp m with m | m
        · rw [m]; exact fun z => R1.domf e z np
        · exact fr.dj i c e a m
    · cases hh
  · cases hh

/-! ### tests -/
/-- a bool as a test -/
def asB : D → Option Bool
  | .bool b => some b
  | _ => none
theorem tp_val {e : Expr} {fr : Bool} {h : Rh → Option D} (p : EP fr X e h) (he : ∀ whole, isTrue e X.env whole = (do let v ← whole; standAt e.pos; holding [v] (truthy v)) := by intro _; rfl) : TP X e (fun ρ => (h ρ).bind asB) := by
  obtain ⟨t, pe, hq⟩ := p
  refine ⟨_, pt_val pe he, fun ρ σ H b Q R hh q => ?_⟩
  cases e1 : h ρ with
  | none => simp [e1] at hh
  | some d =>
    simp only [e1, Option.bind_some] at hh
    cases d <;> simp only [asB, reduceCtorEq] at hh
    cases hh
    refine hq ρ σ H _ _ R e1 fun v H' fp s r _ => ?_
    cases r
    exact ⟨_, rfl, q H' s⟩
theorem tv_val {e : Expr} {g : Rh → Option (D × Rh)} (p : EV X e g) (he : ∀ whole, isTrue e X.env whole = (do let v ← whole; standAt e.pos; holding [v] (truthy v)) := by intro _; rfl) :
    TV X e (fun ρ => match g ρ with | some (.bool b, ρ') => some (b, ρ') | _ => none) := by
  obtain ⟨t, pe, hq⟩ := p
  refine ⟨_, pt_val pe he, fun F L ρ σ H f b ρ' Q R hh q => ?_⟩
  simp only at hh
  split at hh
  · rename_i b' ρ1 e1
    cases hh
    refine hq F L ρ σ H f _ ρ' _ R e1 fun v H' f' fp R' fr k => ?_
    have r := fr.rp
    cases r
    exact ⟨_, rfl, q H' f' R' k⟩
  · cases hh
/-- any value by its truth -/
def truD : D → Option Bool
  | .none => some false
  | .bool b => some b
  | .int i => some (i != 0)
  | .list xs => some (!xs.isEmpty)
  | .tuple xs => some (!xs.isEmpty)
  | _ => none
theorem isEmpty_len {α β : Type} {xs : List α} {ys : List β} (h : xs.length = ys.length) : xs.isEmpty = ys.isEmpty := by
  cases xs <;> cases ys <;> first | rfl | simp at h
theorem tp_tru {e : Expr} {fr : Bool} {h : Rh → Option D} (p : EP fr X e h) (he : ∀ whole, isTrue e X.env whole = (do let v ← whole; standAt e.pos; holding [v] (truthy v)) := by intro _; rfl) : TP X e (fun ρ => (h ρ).bind truD) := by
  obtain ⟨t, pe, hq⟩ := p
  refine ⟨_, pt_truth pe he, fun ρ σ H b Q R hh q => ?_⟩
  cases e1 : h ρ with
  | none => simp [e1] at hh
  | some d =>
    simp only [e1, Option.bind_some] at hh
    refine hq ρ σ H _ _ R e1 fun v H' fp s r _ => ?_
    refine ⟨b, ?_, q H' s⟩
    cases r with
    | non => cases hh; rfl
    | bl b => cases hh; rfl
    | int i => cases hh; rfl
    | str x => cases hh
    | lst h1 h2 h3 => cases hh; exact .inl ⟨_, .inl (.inl h1), by rw [isEmpty_len h3.length]⟩
    | tup h1 h2 h3 => cases hh; exact .inr (.inl ⟨_, sqt h1, by rw [isEmpty_len h3.length]⟩)
    | dct h1 h2 => cases hh
    | dcn h1 h2 => cases hh
    | dcf h1 h2 => cases hh
def tnot (h : Rh → Option (Bool × Rh)) : Rh → Option (Bool × Rh) := fun ρ => (h ρ).map fun p => (!p.1, p.2)
def tand (g1 g2 : Rh → Option (Bool × Rh)) : Rh → Option (Bool × Rh) := fun ρ => match g1 ρ with
  | some (true, ρ1) => g2 ρ1
  | o => o
def tor (g1 g2 : Rh → Option (Bool × Rh)) : Rh → Option (Bool × Rh) := fun ρ => match g1 ρ with
  | some (false, ρ1) => g2 ρ1
  | o => o
theorem tv_not {a : Expr} {g : Rh → Option (Bool × Rh)} (p : TV X a g) : TV X (.UnaryOp .Not a pos) (tnot g) := by
  obtain ⟨t, pe, hq⟩ := p
  refine ⟨_, pt_not pe, fun F L ρ σ H f b ρ' Q R hh q => ?_⟩
  unfold tnot at hh
  cases e1 : g ρ with
  | none => simp [e1] at hh
  | some d =>
    obtain ⟨b1, ρ1⟩ := d
    simp only [e1, Option.map_some, Option.some.injEq, Prod.mk.injEq] at hh
    obtain ⟨rfl, rfl⟩ := hh
    exact hq F L ρ σ H f b1 ρ1 _ R e1 q
/-- and, or as tests: each form for any whole -/
def WV (X : Cx) (e : Expr) (g : Rh → Option (Bool × Rh)) : Prop :=
  ∃ t : TT, PW X e t ∧ ∀ (F : Fm) (L : Nat → Option V) (ρ : Rh) (σ : L2.St) (H : Hp) (f : Nat → List Addr) (b : Bool) (ρ' : Rh) (Q : Bool → Hp → Prop), Rho X.K F L ρ σ H f → g ρ = some (b, ρ') →
    (∀ H' f', Rho X.K F L ρ' σ H' f' → Keep F.all H H' → Q b H') → t σ H Q
theorem WV.tv {e : Expr} {g : Rh → Option (Bool × Rh)} (p : WV X e g) : TV X e g := let ⟨t, pe, hq⟩ := p; ⟨t, pe.pt, hq⟩
theorem wv_and1 {a : Expr} {g : Rh → Option (Bool × Rh)} (p : TV X a g) : WV X (.BoolOp .And [a] pos) g := let ⟨t, pe, hq⟩ := p; ⟨t, pw_and1 pe, hq⟩
theorem wv_or1 {a : Expr} {g : Rh → Option (Bool × Rh)} (p : TV X a g) : WV X (.BoolOp .Or [a] pos) g := let ⟨t, pe, hq⟩ := p; ⟨t, pw_or1 pe, hq⟩
theorem wv_and {a b : Expr} {rest : List Expr} {g1 g2 : Rh → Option (Bool × Rh)} (p : TV X a g1) (p2 : WV X (.BoolOp .And (b :: rest) pos) g2) : WV X (.BoolOp .And (a :: b :: rest) pos) (tand g1 g2) := by
  obtain ⟨t, pe, hq⟩ := p
  obtain ⟨t2, pe2, hq2⟩ := p2
  refine ⟨_, pw_and pe pe2, fun F L ρ σ H f b ρ' Q R hh q => ?_⟩
  unfold tand at hh
  split at hh
  · rename_i ρ1 e1
    exact hq F L ρ σ H f true ρ1 _ R e1 fun H' f' R' k => hq2 F L ρ1 σ H' f' b ρ' _ R' hh fun H2 f2 R2 k2 => q H2 f2 R2 (k.trans k2)
  · rename_i h1
    cases b with
    | true => exact absurd hh (h1 _)
    | false => exact hq F L ρ σ H f false ρ' _ R hh q
theorem wv_or {a b : Expr} {rest : List Expr} {g1 g2 : Rh → Option (Bool × Rh)} (p : TV X a g1) (p2 : WV X (.BoolOp .Or (b :: rest) pos) g2) : WV X (.BoolOp .Or (a :: b :: rest) pos) (tor g1 g2) := by
  obtain ⟨t, pe, hq⟩ := p
  obtain ⟨t2, pe2, hq2⟩ := p2
  refine ⟨_, pw_or pe pe2, fun F L ρ σ H f b ρ' Q R hh q => ?_⟩
  unfold tor at hh
  split at hh
  · rename_i ρ1 e1
    exact hq F L ρ σ H f false ρ1 _ R e1 fun H' f' R' k => hq2 F L ρ1 σ H' f' b ρ' _ R' hh fun H2 f2 R2 k2 => q H2 f2 R2 (k.trans k2)
  · rename_i h1
    cases b with
    | false => exact absurd hh (h1 _)
    | true => exact hq F L ρ σ H f true ρ' _ R hh q

/-! ### tests without effect -/
def pnot (h : Rh → Option Bool) : Rh → Option Bool := fun ρ => (h ρ).map fun b => !b
def pand (g1 g2 : Rh → Option Bool) : Rh → Option Bool := fun ρ => match g1 ρ with
  | some true => g2 ρ
  | o => o
def por (g1 g2 : Rh → Option Bool) : Rh → Option Bool := fun ρ => match g1 ρ with
  | some false => g2 ρ
  | o => o
theorem tp_not {a : Expr} {g : Rh → Option Bool} (p : TP X a g) : TP X (.UnaryOp .Not a pos) (pnot g) := by
  obtain ⟨t, pe, hq⟩ := p
  refine ⟨_, pt_not pe, fun ρ σ H b Q R hh q => ?_⟩
  unfold pnot at hh
  cases e1 : g ρ with
  | none => simp [e1] at hh
  | some d =>
    simp only [e1, Option.map_some, Option.some.injEq] at hh
    obtain rfl := hh
    exact hq ρ σ H d _ R e1 q
def WP (X : Cx) (e : Expr) (h : Rh → Option Bool) : Prop :=
  ∃ t : TT, PW X e t ∧ ∀ (ρ : Rh) (σ : L2.St) (H : Hp) (b : Bool) (Q : Bool → Hp → Prop), RhR X.K ρ σ H → h ρ = some b → (∀ H', Same H H' → Q b H') → t σ H Q
theorem WP.tp {e : Expr} {g : Rh → Option Bool} (p : WP X e g) : TP X e g := let ⟨t, pe, hq⟩ := p; ⟨t, pe.pt, hq⟩
theorem wp_and1 {a : Expr} {g : Rh → Option Bool} (p : TP X a g) : WP X (.BoolOp .And [a] pos) g := let ⟨t, pe, hq⟩ := p; ⟨t, pw_and1 pe, hq⟩
theorem wp_or1 {a : Expr} {g : Rh → Option Bool} (p : TP X a g) : WP X (.BoolOp .Or [a] pos) g := let ⟨t, pe, hq⟩ := p; ⟨t, pw_or1 pe, hq⟩
theorem wp_and {a b : Expr} {rest : List Expr} {g1 g2 : Rh → Option Bool} (p : TP X a g1) (p2 : WP X (.BoolOp .And (b :: rest) pos) g2) : WP X (.BoolOp .And (a :: b :: rest) pos) (pand g1 g2) := by
  obtain ⟨t, pe, hq⟩ := p
  obtain ⟨t2, pe2, hq2⟩ := p2
  refine ⟨_, pw_and pe pe2, fun ρ σ H b Q R hh q => ?_⟩
  unfold pand at hh
  split at hh
  · rename_i e1
    exact hq ρ σ H true _ R e1 fun H' s => hq2 ρ σ H' b _ (R.same s) hh fun H2 s2 => q H2 (same_trans s s2)
  · rename_i h1
    cases b with
    | true => exact absurd hh h1
    | false => exact hq ρ σ H false _ R hh q
theorem wp_or {a b : Expr} {rest : List Expr} {g1 g2 : Rh → Option Bool} (p : TP X a g1) (p2 : WP X (.BoolOp .Or (b :: rest) pos) g2) : WP X (.BoolOp .Or (a :: b :: rest) pos) (por g1 g2) := by
  obtain ⟨t, pe, hq⟩ := p
  obtain ⟨t2, pe2, hq2⟩ := p2
  refine ⟨_, pw_or pe pe2, fun ρ σ H b Q R hh q => ?_⟩
  unfold por at hh
  split at hh
  · rename_i e1
    exact hq ρ σ H false _ R e1 fun H' s => hq2 ρ σ H' b _ (R.same s) hh fun H2 s2 => q H2 (same_trans s s2)
  · rename_i h1
    cases b with
    | false => exact absurd hh h1
    | true => exact hq ρ σ H true _ R hh q

/-! ### and, or, not as values; a if t else b -/
def eand (h1 h2 : Rh → Option D) : Rh → Option D := fun ρ => match h1 ρ with
  | some (.bool true) => h2 ρ
  | some (.bool false) => some (.bool false)
  | _ => none
def eor (h1 h2 : Rh → Option D) : Rh → Option D := fun ρ => match h1 ρ with
  | some (.bool false) => h2 ρ
  | some (.bool true) => some (.bool true)
  | _ => none
def enot (h1 : Rh → Option D) : Rh → Option D := fun ρ => match h1 ρ with
  | some (.bool b) => some (.bool !b)
  | _ => none
theorem ep_one {a : Expr} {op : BoolOp} {fr : Bool} {h : Rh → Option D} (p : EP fr X a h) : EP fr X (.BoolOp op [a] pos) h := let ⟨t, pe, hq⟩ := p; ⟨t, pe_one pe, hq⟩
theorem ep_and {a b : Expr} {rest : List Expr} {f1 f2 : Bool} {h1 h2 : Rh → Option D} (p : EP f1 X a h1) (p2 : EP f2 X (.BoolOp .And (b :: rest) pos) h2) : EP f2 X (.BoolOp .And (a :: b :: rest) pos) (eand h1 h2) := by
  obtain ⟨t, pe, hq⟩ := p
  obtain ⟨t2, pe2, hq2⟩ := p2
  refine ⟨_, pe_and pe pe2, fun ρ σ H d Q R hh q => ?_⟩
  unfold eand at hh
  split at hh
  · rename_i e1
    refine hq ρ σ H _ _ R e1 fun v H' fp s r _ => ?_
    cases r
    exact ⟨true, rfl, hq2 ρ σ H' d _ (R.same s) hh fun v2 H2 fp2 s2 r2 n2 => q v2 H2 fp2 (same_trans s s2) r2 fun z => ⟨(n2 z).1, fun a m => Same.new s ((n2 z).2 a m)⟩⟩
  · rename_i e1
    cases hh
    refine hq ρ σ H _ _ R e1 fun v H' fp s r _ => ?_
    cases r
    exact ⟨false, rfl, q _ H' [] s (.bl _) fun _ => ⟨List.nodup_nil, fun a m => (nomatch m)⟩⟩
  · cases hh
theorem ep_or {a b : Expr} {rest : List Expr} {f1 f2 : Bool} {h1 h2 : Rh → Option D} (p : EP f1 X a h1) (p2 : EP f2 X (.BoolOp .Or (b :: rest) pos) h2) : EP f2 X (.BoolOp .Or (a :: b :: rest) pos) (eor h1 h2) := by
  obtain ⟨t, pe, hq⟩ := p
  obtain ⟨t2, pe2, hq2⟩ := p2
  refine ⟨_, pe_or pe pe2, fun ρ σ H d Q R hh q => ?_⟩
  unfold eor at hh
  split at hh
  · rename_i e1
    refine hq ρ σ H _ _ R e1 fun v H' fp s r _ => ?_
    cases r
    exact ⟨false, rfl, hq2 ρ σ H' d _ (R.same s) hh fun v2 H2 fp2 s2 r2 n2 => q v2 H2 fp2 (same_trans s s2) r2 fun z => ⟨(n2 z).1, fun a m => Same.new s ((n2 z).2 a m)⟩⟩
  · rename_i e1
    cases hh
    refine hq ρ σ H _ _ R e1 fun v H' fp s r _ => ?_
    cases r
    exact ⟨true, rfl, q _ H' [] s (.bl _) fun _ => ⟨List.nodup_nil, fun a m => (nomatch m)⟩⟩
  · cases hh
theorem ep_not {a : Expr} {f1 : Bool} {h1 : Rh → Option D} (p : EP f1 X a h1) : EP true X (.UnaryOp .Not a pos) (enot h1) := by
  obtain ⟨t, pe, hq⟩ := p
  refine ⟨_, pe_not pe, fun ρ σ H d Q R hh q => ?_⟩
  unfold enot at hh
  split at hh
  · rename_i b e1
    cases hh
    refine hq ρ σ H _ _ R e1 fun v H' fp s r _ => ?_
    cases r
    exact ⟨b, rfl, q _ H' [] s (.bl _) fun _ => ⟨List.nodup_nil, fun a m => (nomatch m)⟩⟩
  · cases hh
def eif (t : Rh → Option Bool) (h1 h2 : Rh → Option D) : Rh → Option D := fun ρ => match t ρ with
  | some true => h1 ρ
  | some false => h2 ρ
  | none => none
theorem ep_if {c a b : Expr} {fr : Bool} {g : Rh → Option Bool} {h1 h2 : Rh → Option D} (pc : TP X c g) (pa : EP fr X a h1) (pb : EP fr X b h2) : EP fr X (.IfExp c a b pos) (eif g h1 h2) := by
  obtain ⟨t, pe, hq⟩ := pc
  obtain ⟨t1, pe1, hq1⟩ := pa
  obtain ⟨t2, pe2, hq2⟩ := pb
  refine ⟨_, pe_ifExp pe pe1 pe2, fun ρ σ H d Q R hh q => ?_⟩
  unfold eif at hh
  split at hh
  · rename_i e1
    refine hq ρ σ H true _ R e1 fun H' s => ?_
    rw [if_pos rfl]
    exact hq1 ρ σ H' d _ (R.same s) hh fun v2 H2 fp2 s2 r2 n2 => q v2 H2 fp2 (same_trans s s2) r2 fun z => ⟨(n2 z).1, fun a m => Same.new s ((n2 z).2 a m)⟩
  · rename_i e1
    refine hq ρ σ H false _ R e1 fun H' s => ?_
    rw [if_neg Bool.false_ne_true]
    exact hq2 ρ σ H' d _ (R.same s) hh fun v2 H2 fp2 s2 r2 n2 => q v2 H2 fp2 (same_trans s s2) r2 fun z => ⟨(n2 z).1, fun a m => Same.new s ((n2 z).2 a m)⟩
  · cases hh
def vif (t : Rh → Option (Bool × Rh)) (h1 h2 : Rh → Option (D × Rh)) : Rh → Option (D × Rh) := fun ρ => match t ρ with
  | some (true, ρ1) => h1 ρ1
  | some (false, ρ1) => h2 ρ1
  | none => none
theorem ev_if {c a b : Expr} {g : Rh → Option (Bool × Rh)} {h1 h2 : Rh → Option (D × Rh)} (pc : TV X c g) (pa : EV X a h1) (pb : EV X b h2) : EV X (.IfExp c a b pos) (vif g h1 h2) := by
  obtain ⟨t, pe, hq⟩ := pc
  obtain ⟨t1, pe1, hq1⟩ := pa
  obtain ⟨t2, pe2, hq2⟩ := pb
  refine ⟨_, pe_ifExp pe pe1 pe2, fun F L ρ σ H f d ρ' Q R hh q => ?_⟩
  unfold vif at hh
  split at hh
  · rename_i ρ1 e1
    refine hq F L ρ σ H f true ρ1 _ R e1 fun H' f' R' k => ?_
    rw [if_pos rfl]
    exact hq1 F L ρ1 σ H' f' d ρ' _ R' hh fun v2 H2 f2 fp2 R2 n2 k2 => q v2 H2 f2 fp2 R2 n2 (k.trans k2)
  · rename_i ρ1 e1
    refine hq F L ρ σ H f false ρ1 _ R e1 fun H' f' R' k => ?_
    rw [if_neg Bool.false_ne_true]
    exact hq2 F L ρ1 σ H' f' d ρ' _ R' hh fun v2 H2 f2 fp2 R2 n2 k2 => q v2 H2 f2 fp2 R2 n2 (k.trans k2)
  · cases hh
end
end PV

set_option Elab.async false
set_option linter.all false
set_option maxRecDepth 100000
set_option maxHeartbeats 1000000
namespace PV
open PySem PySem.Spec PyProof.Rows L2
variable [TN]

/-! ### slots stored -/
def setS (i : Nat) (c : Cl) (ρ : Rh) : Option Rh := match ρ[i]? with
  | some none => some (ρ.set i (some c))
  | some (some ⟨_, .ro⟩) => some (ρ.set i (some c))
  | some (some ⟨_, .own⟩) => some (ρ.set i (some c))
  | _ => none
theorem setS_some {i : Nat} {c : Cl} {ρ ρ' : Rh} (h : setS i c ρ = some ρ') : ρ' = ρ.set i (some c) ∧ i < ρ.length ∧ ∀ c0, ρ[i]? = some (some c0) → c0.o ≠ .pin := by
  unfold setS at h
  split at h
  · rename_i e
    cases h
    exact ⟨rfl, (List.getElem?_eq_some_iff.mp e).1, fun c0 e0 => by rw [e] at e0; cases e0⟩
  · rename_i e
    cases h
    exact ⟨rfl, (List.getElem?_eq_some_iff.mp e).1, fun c0 e0 z => by rw [e] at e0; cases e0; cases z⟩
  · rename_i e
    cases h
    exact ⟨rfl, (List.getElem?_eq_some_iff.mp e).1, fun c0 e0 z => by rw [e] at e0; cases e0; cases z⟩
  · cases h
section
variable {K : PySem.W.Frag} {F : Fm} {L : Nat → Option V} {ρ ρ' : Rh} {σ : L2.St} {H H' : Hp} {f : Nat → List Addr}
theorem get_set_ne {α : Type} {l : List α} {i j : Nat} {a : α} (h : j ≠ i) : (l.set i a)[j]? = l[j]? := List.getElem?_set_ne (Ne.symm h)
theorem get_set_eq {α : Type} {l : List α} {i : Nat} {a : α} (h : i < l.length) : (l.set i a)[i]? = some a := by simp [h]
/-- a slot takes a value -/
theorem Rho.put {v : V} {d : D} {fp : List Addr} {o : Ow} {i : Nat} (R : Rho K F L ρ σ H f) (r : Rp K H v d fp) (hP : ∀ a ∈ fp, ¬ F.P a) (ho : o = .own → fp.Nodup ∧ (∀ a ∈ fp, ¬ F.F a) ∧ ∀ j c, j ≠ i → ρ[j]? = some (some c) → ∀ a ∈ fp, a ∉ f j) (hp : o ≠ .pin)
    (hd : ∀ j c, j ≠ i → ρ[j]? = some (some c) → c.o.w = true → ∀ a ∈ f j, a ∉ fp) (e : setS i ⟨d, o⟩ ρ = some ρ') : Rho K F L ρ' (σ.set i (some v)) H (fun j => if j = i then fp else f j) := by
  obtain ⟨rfl, hi, npin⟩ := setS_some e
  have hi' : i < σ.length := by rw [R.len]; exact hi
  have gi : ∀ c, (ρ.set i (some ⟨d, o⟩))[i]? = some (some c) → c = ⟨d, o⟩ := fun c h => by
    rw [get_set_eq hi] at h; cases h; rfl
  have gj : ∀ j c, j ≠ i → (ρ.set i (some ⟨d, o⟩))[j]? = some (some c) → ρ[j]? = some (some c) := fun j c hj h => by
    rw [get_set_ne hj] at h; exact h
  refine ⟨R.tb, by rw [List.length_set, List.length_set]; exact R.len, R.fok, fun j c h => ?_, fun j c h w => ?_, fun j c h => ?_, fun j k c c' hjk h w h' => ?_, fun j u h => ?_⟩
  · by_cases hj : j = i
    · subst hj
      cases gi c h
      exact ⟨v, get_set_eq hi', by rw [if_pos rfl]; exact r⟩
    · obtain ⟨u, e1, r1⟩ := R.rp j c (gj j c hj h)
      exact ⟨u, by rw [get_set_ne hj]; exact e1, by rw [if_neg hj]; exact r1⟩
  · by_cases hj : j = i
    · subst hj
      cases gi c h
      rw [if_pos rfl]
      cases o with
      | ro => cases w
      | own => exact ⟨(ho rfl).1, (ho rfl).2.1⟩
      | pin => exact absurd rfl hp
    · rw [if_neg hj]; exact R.nd j c (gj j c hj h) w
  · by_cases hj : j = i
    · rw [if_pos hj]; exact hP
    · rw [if_neg hj]; exact R.pv j c (gj j c hj h)
  · by_cases hj : j = i
    · have hk : k ≠ i := fun z => hjk (hj.trans z.symm)
      rw [if_pos hj, if_neg hk]
      subst hj
      cases gi c h
      cases o with
      | ro => cases w
      | own => exact (ho rfl).2.2 k c' hk (gj k c' hk h')
      | pin => exact absurd rfl hp
    · rw [if_neg hj]
      by_cases hk : k = i
      · rw [if_pos hk]
        exact hd j c hj (gj j c hj h) w
      · rw [if_neg hk]
        exact R.dj j k c c' hjk (gj j c hj h) w (gj k c' hk h')
  · obtain ⟨e1, c, e2, e3⟩ := R.pin j u h
    have hj : j ≠ i := fun z => by subst z; exact npin c e2 e3
    exact ⟨by rw [get_set_ne hj]; exact e1, c, by rw [get_set_ne hj]; exact e2, e3⟩
theorem Rho.setOwn {v : V} {d : D} {fp : List Addr} {i : Nat} (R : Rho K F L ρ σ H f) (fr : Fresh K F ρ f v d fp H) (e : setS i ⟨d, .own⟩ ρ = some ρ') : Rho K F L ρ' (σ.set i (some v)) H (fun j => if j = i then fp else f j) :=
  R.put (o := .own) fr.rp (fun a m z => fr.nf a m (.inr z)) (fun _ => ⟨fr.nd, fun a m z => fr.nf a m (.inl z), fun j c _ h a m => fr.dj j c h a m⟩) (fun z => nomatch z) (fun j c _ h _ a m m' => fr.dj j c h a m' m) e
theorem Rho.setRo {v : V} {d : D} {fp : List Addr} {i : Nat} (R : Rho K F L ρ σ H f) (r : Rp K H v d fp) (hF : ∀ a ∈ fp, F.F a ∧ ¬ F.P a) (e : setS i ⟨d, .ro⟩ ρ = some ρ') : Rho K F L ρ' (σ.set i (some v)) H (fun j => if j = i then fp else f j) :=
  R.put (o := .ro) r (fun a m => (hF a m).2) (fun z => nomatch z) (fun z => nomatch z) (fun j c _ h w a m m' => (R.nd j c h w).2 a m (hF a m').1) e
/-- a slot is forgotten -/
theorem Rho.drop (R : Rho K F L ρ σ H f) {i : Nat} (h : ∀ c, ρ[i]? = some (some c) → c.o ≠ .pin) : Rho K F L (ρ.set i none) σ H f := by
  have gj : ∀ j c, (ρ.set i none)[j]? = some (some c) → ρ[j]? = some (some c) ∧ j ≠ i := fun j c h => by
    by_cases hj : j = i
    · subst hj
      by_cases hi : j < ρ.length
      · rw [get_set_eq hi] at h; cases h
      · rw [List.getElem?_eq_none (by rw [List.length_set]; omega)] at h; cases h
    · rw [get_set_ne hj] at h; exact ⟨h, hj⟩
  refine ⟨R.tb, by rw [List.length_set]; exact R.len, R.fok, fun j c h => R.rp j c (gj j c h).1, fun j c h => R.nd j c (gj j c h).1, fun j c h => R.pv j c (gj j c h).1, fun j k c c' hjk h w h' => R.dj j k c c' hjk (gj j c h).1 w (gj k c' h').1, fun j u e => ?_⟩
  obtain ⟨e1, c, e2, e3⟩ := R.pin j u e
  have hj : j ≠ i := fun z => by subst z; exact h c e2 e3
  exact ⟨e1, c, by rw [get_set_ne hj]; exact e2, e3⟩
/-- the object in a slot changes in place -/
theorem Rho.mutate {i : Nat} {c : Cl} {d' : D} {v : V} {fp' : List Addr} (R : Rho K F L ρ σ H f) (e : ρ[i]? = some (some c)) (w : c.o.w = true) (hv : σ[i]? = some (some v)) (r' : Rp K H' v d' fp') (nd : fp'.Nodup)
    (hn : ∀ a ∈ fp', a ∈ f i ∨ (¬ F.all a ∧ ∀ j cj, j ≠ i → ρ[j]? = some (some cj) → a ∉ f j)) (k : Keep (fun b => b ∉ f i) H H') :
    Rho K F L (ρ.set i (some ⟨d', c.o⟩)) σ H' (fun j => if j = i then fp' else f j) ∧ Keep F.all H H' := by
  have hi : i < ρ.length := (List.getElem?_eq_some_iff.mp e).1
  have nF : ∀ a, F.all a → a ∉ f i := fun a h m => h.elim (fun z => (R.nd i c e w).2 a m z) (fun z => R.pv i c e a m z)
  have kF : Keep F.all H H' := k.mono nF
  have gi : ∀ c2, (ρ.set i (some ⟨d', c.o⟩))[i]? = some (some c2) → c2 = ⟨d', c.o⟩ := fun c2 h => by
    rw [get_set_eq hi] at h; cases h; rfl
  have gj : ∀ j c2, j ≠ i → (ρ.set i (some ⟨d', c.o⟩))[j]? = some (some c2) → ρ[j]? = some (some c2) := fun j c2 hj h => by
    rw [get_set_ne hj] at h; exact h
  refine ⟨⟨k.tab R.tb, by rw [List.length_set]; exact R.len, fun a h z => R.fok a h (kF.dom a h z), fun j c2 h => ?_, fun j c2 h w2 => ?_, fun j c2 h a m => ?_, fun j l c2 c3 hjl h w2 h' a m => ?_, fun j u h => ?_⟩, kF⟩
  · by_cases hj : j = i
    · subst hj
      cases gi c2 h
      exact ⟨v, hv, by rw [if_pos rfl]; exact r'⟩
    · obtain ⟨u, e1, r1⟩ := R.rp j c2 (gj j c2 hj h)
      exact ⟨u, e1, by rw [if_neg hj]; exact Rp.keep k _ _ _ r1 fun a m m' => R.dj i j c c2 (Ne.symm hj) e w (gj j c2 hj h) a m' m⟩
  · by_cases hj : j = i
    · rw [if_pos hj]
      refine ⟨nd, fun a m z => ?_⟩
      rcases hn a m with q | q
      · exact (R.nd i c e w).2 a q z
      · exact q.1 (.inl z)
    · rw [if_neg hj]; exact R.nd j c2 (gj j c2 hj h) w2
  · by_cases hj : j = i
    · rw [if_pos hj] at m
      rcases hn a m with q | q
      · exact R.pv i c e a q
      · exact fun z => q.1 (.inr z)
    · rw [if_neg hj] at m; exact R.pv j c2 (gj j c2 hj h) a m
  · by_cases hj : j = i
    · have hl : l ≠ i := fun z => hjl (hj.trans z.symm)
      rw [if_pos hj] at m
      rw [if_neg hl]
      rcases hn a m with q | q
      · exact R.dj i l c c3 (Ne.symm hl) e w (gj l c3 hl h') a q
      · exact q.2 l c3 hl (gj l c3 hl h')
    · rw [if_neg hj] at m
      by_cases hl : l = i
      · rw [if_pos hl]
        intro m'
        rcases hn a m' with q | q
        · exact R.dj j i c2 c hj (gj j c2 hj h) w2 e a m q
        · exact q.2 j c2 hj (gj j c2 hj h) m
      · rw [if_neg hl]; exact R.dj j l c2 c3 hjl (gj j c2 hj h) w2 (gj l c3 hl h') a m
  · obtain ⟨e1, c2, e2, e3⟩ := R.pin j u h
    refine ⟨e1, ?_⟩
    by_cases hj : j = i
    · subst hj
      rw [e] at e2; cases e2
      exact ⟨_, get_set_eq hi, e3⟩
    · exact ⟨c2, by rw [get_set_ne hj]; exact e2, e3⟩
theorem keep_ne {a : Addr} {o : HO} (m : Mut (H a)) : Keep (fun b => b ≠ a) H (upd H a o) := keep_upd m fun z => z rfl
end

/-! ### targets -/
inductive Pat where
  | nm (i : Nat)
  | tp (ps : List Pat)
  /-- xs[e] -/
  | ix (i : Nat) (h : Rh → Option D)
  /-- xs[e][e'] -/
  | ix2 (i : Nat) (h h' : Rh → Option D)
def wr (i : Nat) (ρ : Rh) : Option (D × Ow) := match ρ[i]? with
  | some (some ⟨d, .own⟩) => some (d, .own)
  | some (some ⟨d, .pin⟩) => some (d, .pin)
  | _ => none
theorem wr_some {i : Nat} {ρ : Rh} {d : D} {o : Ow} (h : wr i ρ = some (d, o)) : ρ[i]? = some (some ⟨d, o⟩) ∧ o.w = true := by
  unfold wr at h
  split at h
  · rename_i e; cases h; exact ⟨e, rfl⟩
  · rename_i e; cases h; exact ⟨e, rfl⟩
  · cases h
def ixSet (ds : List D) (k : D) (d : D) : Option (List D) := match k with
  | .int k => match ixN ds.length k with
    | some j => some (ds.set j d)
    | none => none
  | _ => none
def ixGetL (ds : List D) (k : D) : Option D := match k with
  | .int k => atI ds k
  | _ => none
mutual
def patS (o : Ow) : Pat → D → Rh → Option Rh
  | .nm i, d, ρ => setS i ⟨d, o⟩ ρ
  | .tp ps, d, ρ => match d with
    | .tuple ds => patsS o ps ds ρ
    | _ => none
  | .ix i h, d, ρ => match o, wr i ρ, h ρ with
    | .own, some (.list ds, o'), some k => match ixSet ds k d with
      | some ds' => some (ρ.set i (some ⟨.list ds', o'⟩))
      | none => none
    | _, _, _ => none
  | .ix2 i h h', d, ρ => match o, wr i ρ, h ρ, h' ρ with
    | .own, some (.list ds, o'), some k, some k' => match ixGetL ds k with
      | some (.list es) => match ixSet es k' d with
        | some es' => match ixSet ds k (.list es') with
          | some ds' => some (ρ.set i (some ⟨.list ds', o'⟩))
          | none => none
        | none => none
      | _ => none
    | _, _, _, _ => none
def patsS (o : Ow) : List Pat → List D → Rh → Option Rh
  | [], [], ρ => some ρ
  | p :: ps, d :: ds, ρ => match patS o p d ρ with
    | some ρ1 => patsS o ps ds ρ1
    | none => none
  | _, _, _ => none
end
def PatOk (X : Cx) (tg : Expr) (p : Pat) : Prop := ∃ g : TG, PG X tg g ∧
  (∀ (F : Fm) (L : Nat → Option V) (ρ : Rh) (σ : L2.St) (H : Hp) (f : Nat → List Addr) (v : V) (d : D) (fp : List Addr) (ρ' : Rh) (Q : L2.St → Hp → Prop), Rho X.K F L ρ σ H f → Fresh X.K F ρ f v d fp H → patS .own p d ρ = some ρ' →
    (∀ σ' H' f', Rho X.K F L ρ' σ' H' f' → Keep F.all H H' → Q σ' H') → g v σ H Q) ∧
  (∀ (F : Fm) (L : Nat → Option V) (ρ : Rh) (σ : L2.St) (H : Hp) (f : Nat → List Addr) (v : V) (d : D) (fp : List Addr) (ρ' : Rh) (Q : L2.St → Hp → Prop), Rho X.K F L ρ σ H f → Rp X.K H v d fp → (∀ a ∈ fp, F.F a ∧ ¬ F.P a) → patS .ro p d ρ = some ρ' →
    (∀ σ' f', Rho X.K F L ρ' σ' H f' → Q σ' H) → g v σ H Q)
def PatsOk (X : Cx) (tgs : List Expr) (ps : List Pat) : Prop := ∃ g : TGs, PGs X tgs g ∧
  (∀ (F : Fm) (L : Nat → Option V) (ρ : Rh) (σ : L2.St) (H : Hp) (f : Nat → List Addr) (v : List V) (d : List D) (fp : List Addr) (ρ' : Rh) (Q : L2.St → Hp → Prop), Rho X.K F L ρ σ H f → FreshL X.K F ρ f v d fp H → patsS .own ps d ρ = some ρ' →
    (∀ σ' H' f', Rho X.K F L ρ' σ' H' f' → Keep F.all H H' → Q σ' H') → g v σ H Q) ∧
  (∀ (F : Fm) (L : Nat → Option V) (ρ : Rh) (σ : L2.St) (H : Hp) (f : Nat → List Addr) (v : List V) (d : List D) (fp : List Addr) (ρ' : Rh) (Q : L2.St → Hp → Prop), Rho X.K F L ρ σ H f → RpL X.K H v d fp → (∀ a ∈ fp, F.F a ∧ ¬ F.P a) → patsS .ro ps d ρ = some ρ' →
    (∀ σ' f', Rho X.K F L ρ' σ' H f' → Q σ' H) → g v σ H Q)
section
variable {X : Cx} {pos : Pos}
theorem pat_nm {tg : Expr} {i : Nat} (pg : PG X tg (gName i)) : PatOk X tg (.nm i) := by
  refine ⟨_, pg, fun F L ρ σ H f v d fp ρ' Q R fr e q => ?_, fun F L ρ σ H f v d fp ρ' Q R r hF e q => ?_⟩
  · exact q _ H _ (R.setOwn fr (by simpa [patS] using e)) Keep.refl
  · exact q _ _ (R.setRo r hF (by simpa [patS] using e))
theorem pats_nil : PatsOk X [] [] := by
  refine ⟨_, pgs_nil, fun F L ρ σ H f v d fp ρ' Q R fr e q => ?_, fun F L ρ σ H f v d fp ρ' Q R r hF e q => ?_⟩
  · cases d with
    | nil =>
      simp only [patsS, Option.some.injEq] at e
      subst e
      have := fr.rp
      cases this
      exact ⟨rfl, q σ H f R Keep.refl⟩
    | cons d ds => simp [patsS] at e
  · cases d with
    | nil =>
      simp only [patsS, Option.some.injEq] at e
      subst e
      cases r
      exact ⟨rfl, q σ f R⟩
    | cons d ds => simp [patsS] at e
theorem pats_cons {tg : Expr} {tgs : List Expr} {p : Pat} {ps : List Pat} (h1 : PatOk X tg p) (h2 : PatsOk X tgs ps) (hs : (assignEach (tg :: tgs) X.env).map (·.2) = assign tg X.env :: (assignEach tgs X.env).map (·.2) := by rfl) : PatsOk X (tg :: tgs) (p :: ps) := by
  obtain ⟨g1, p1, qo1, qr1⟩ := h1
  obtain ⟨g2, p2, qo2, qr2⟩ := h2
  refine ⟨_, pgs_cons p1 p2 hs, fun F L ρ σ H f v d fp ρ' Q R fr e q => ?_, fun F L ρ σ H f v d fp ρ' Q R r hF e q => ?_⟩
  · cases d with
    | nil => simp [patsS] at e
    | cons d ds =>
      have r := fr.rp
      cases r with
      | cons r1 r2 =>
        rename_i v1 vs f1 fs
        simp only [patsS] at e
        split at e
        · rename_i ρ1 e1
          obtain ⟨nd1, nd2, nd3⟩ := List.nodup_append.mp fr.nd
          -- the rest is held
          have frs : FreshL X.K F ρ f vs ds fs H := ⟨r2, nd2, fun a m => fr.nf a (List.mem_append_right _ m), fun i c ec a m => fr.dj i c ec a (List.mem_append_right _ m)⟩
          have R' : Rho X.K (F.hold fs) L ρ σ H f := ⟨R.tb, R.len, fun a h => h.elim (fun z => R.fok a (.inl z)) fun z => z.elim (fun z => R.fok a (.inr z)) fun m => r2.dom m, R.rp, R.nd,
            fun i c e a m h => h.elim (R.pv i c e a m) fun m' => frs.dj i c e a m' m, R.dj, R.pin⟩
          have fr1 : Fresh X.K (F.hold fs) ρ f v1 d f1 H := ⟨r1, nd1, fun a m z => z.elim (fun z => fr.nf a (List.mem_append_left _ m) (.inl z)) fun z => z.elim (fun z => fr.nf a (List.mem_append_left _ m) (.inr z)) fun m' => nd3 a m a m' rfl,
            fun i c ec a m => fr.dj i c ec a (List.mem_append_left _ m)⟩
          refine ⟨v1, vs, rfl, qo1 (F.hold fs) L ρ σ H f v1 d f1 ρ1 _ R' fr1 e1 fun σ1 H1 f1' R1 k1 => ?_⟩
          have frs1 : FreshL X.K F ρ1 f1' vs ds fs H1 := ⟨RpL.keep k1 ds vs fs r2 fun a m => Fm.mem_hold m, nd2, frs.nf, fun i c e a m m' => R1.pv i c e a m' (.inr m)⟩
          exact qo2 F L ρ1 σ1 H1 f1' vs ds fs ρ' _ R1.unhold frs1 e fun σ2 H2 f2 R2 k2 => q σ2 H2 f2 R2 (k1.unhold.trans k2)
        · cases e
  · cases d with
    | nil => simp [patsS] at e
    | cons d ds =>
      cases r with
      | cons r1 r2 =>
        rename_i v1 vs f1 fs
        simp only [patsS] at e
        split at e
        · rename_i ρ1 e1
          refine ⟨v1, vs, rfl, qr1 F L ρ σ H f v1 d f1 ρ1 _ R r1 (fun a m => hF a (List.mem_append_left _ m)) e1 fun σ1 f1' R1 => ?_⟩
          exact qr2 F L ρ1 σ1 H f1' vs ds fs ρ' _ R1 r2 (fun a m => hF a (List.mem_append_right _ m)) e q
        · cases e
theorem pat_tp {es : List Expr} {k : Nat} {ps : List Pat} {n : Nat} (hc : X.calm = true) (h : PatsOk X es ps) (hl : ps.length = n) (hn : (assignEach es X.env).length = n := by rfl) (hst : (assignEach es X.env).findIdx? (·.1) = none := by rfl) : PatOk X (.Tuple es k pos) (.tp ps) := by
  obtain ⟨g, pg, qo, qr⟩ := h
  have lens : ∀ (o : Ow) (ps : List Pat) (ds : List D) (ρ ρ' : Rh), patsS o ps ds ρ = some ρ' → ps.length = ds.length := by
    intro o ps
    induction ps with
    | nil => intro ds ρ ρ' e; cases ds with
      | nil => rfl
      | cons d ds => simp [patsS] at e
    | cons p ps ih => intro ds ρ ρ' e; cases ds with
      | nil => simp [patsS] at e
      | cons d ds =>
        simp only [patsS] at e
        split at e
        · simp [ih _ _ _ e]
        · cases e
  refine ⟨_, pg_tup hc pg hn hst, fun F L ρ σ H f v d fp ρ' Q R fr e q => ?_, fun F L ρ σ H f v d fp ρ' Q R r hF e q => ?_⟩
  · simp only [patS] at e
    split at e
    · have r := fr.rp
      cases r with
      | tup h1 h2 h3 => exact ⟨_, _, rfl, sqt h1, by rw [h3.length, ← lens _ _ _ _ _ e]; exact hl, qo F L ρ σ H f _ _ fp ρ' Q R ⟨h3, fr.nd, fr.nf, fr.dj⟩ e q⟩
    · cases e
  · simp only [patS] at e
    split at e
    · cases r with
      | tup h1 h2 h3 => exact ⟨_, _, rfl, sqt h1, by rw [h3.length, ← lens _ _ _ _ _ e]; exact hl, qr F L ρ σ H f _ _ fp ρ' Q R h3 hF e q⟩
    · cases e

theorem RpL.setAt {K : PySem.W.Frag} {H : Hp} {w : V} {d : D} {fp : List Addr} (rw' : Rp K H w d fp) (nf : fp.Nodup) : ∀ {ds : List D} {vs : List V} {fs : List Addr} (j : Nat), RpL K H vs ds fs → fs.Nodup → (∀ a ∈ fp, a ∉ fs) →
    ∃ fs', RpL K H (vs.set j w) (ds.set j d) fs' ∧ fs'.Nodup ∧ ∀ a ∈ fs', a ∈ fs ∨ a ∈ fp
  | [], _, _, j, h, nd, dj => by cases h; exact ⟨[], .nil, List.nodup_nil, fun a m => nomatch m⟩
  | d0 :: ds, _, _, 0, h, nd, dj => by
    cases h with
    | cons h1 h2 =>
      rename_i v1 vs f1 fs
      obtain ⟨nd1, nd2, nd3⟩ := List.nodup_append.mp nd
      refine ⟨fp ++ fs, .cons rw' h2, List.nodup_append.mpr ⟨nf, nd2, fun a m b m' e => ?_⟩, fun a m => ?_⟩
      · subst e; exact dj a m (List.mem_append_right _ m')
      · rcases List.mem_append.mp m with m | m
        · exact .inr m
        · exact .inl (List.mem_append_right _ m)
  | d0 :: ds, _, _, j + 1, h, nd, dj => by
    cases h with
    | cons h1 h2 =>
      rename_i v1 vs f1 fs
      obtain ⟨nd1, nd2, nd3⟩ := List.nodup_append.mp nd
      obtain ⟨fs', r, n', s'⟩ := RpL.setAt rw' nf j h2 nd2 fun a m m' => dj a m (List.mem_append_right _ m')
      refine ⟨f1 ++ fs', .cons h1 r, List.nodup_append.mpr ⟨nd1, n', fun a m b m' e => ?_⟩, fun a m => ?_⟩
      · subst e
        rcases s' a m' with z | z
        · exact nd3 a m a z rfl
        · exact dj a z (List.mem_append_left _ m)
      · rcases List.mem_append.mp m with m | m
        · exact .inl (List.mem_append_left _ m)
        · exact (s' a m).imp (List.mem_append_right _) id
theorem ixSet_some {ds ds' : List D} {k d : D} (h : ixSet ds k d = some ds') : ∃ i j, k = .int i ∧ ixN ds.length i = some j ∧ ds' = ds.set j d := by
  unfold ixSet at h
  split at h
  · split at h
    · rename_i j e; cases h; exact ⟨_, j, rfl, e, rfl⟩
    · cases h
  · cases h
theorem pat_ix {o i : Expr} {x : Nat} {fr : Bool} {h : Rh → Option D} (ho : PE X o (tVar x)) (hi : EP fr X i h) (ha : ∀ v, assign (.Subscript o i pos) X.env v = (do
      let ov ← holding [v] (eval o X.env)
      let iv ← holding [v, ov] (eval i X.env)
      standAt pos
      holding [v, ov, iv] (setItem ov iv v)
      release [v, ov, iv] []) := by intro _; rfl) : PatOk X (.Subscript o i pos) (.ix x h) := by
  obtain ⟨ti, pi, qi⟩ := hi
  refine ⟨_, pg_sub ho pi set_list ha, fun F L ρ σ H f v d fp ρ' Q R fr e q => ?_, fun F L ρ σ H f v d fp ρ' Q R r hF e q => ?_⟩
  · simp only [patS] at e
    split at e
    · rename_i ds o' k e1 e2 e3
      split at e
      · rename_i ds' e4
        cases e
        obtain ⟨i0, j, rfl, e5, rfl⟩ := ixSet_some e4
        obtain ⟨ex, wx⟩ := wr_some e2
        obtain ⟨u, eu, ru⟩ := R.rp x _ ex
        obtain ⟨ndx, nfx⟩ := R.nd x _ ex wx
        refine ⟨u, eu, qi ρ σ H _ _ R.rd e3 fun iv H1 fi s1 ri _ => ?_⟩
        have ru1 := ru.same s1
        have R1 := R.same s1
        have frp := fr.rp.same s1
        cases ri
        generalize hfx : f x = fx at *
        cases ru1 with
        | lst h1 h2 h3 =>
          rename_i a xs fs
          obtain ⟨na, ndf⟩ := List.nodup_cons.mp ndx
          have djx : ∀ b ∈ fp, b ∉ a :: fs := fun b m => by rw [← hfx]; exact fr.dj x _ ex b m
          refine ⟨a, xs, i0, j, rfl, rfl, h1, by rw [h3.length]; exact e5, ?_⟩
          obtain ⟨fs', r', n', s'⟩ := RpL.setAt frp fr.nd j h3 ndf fun b m m' => djx b m (List.mem_cons_of_mem _ m')
          have na' : a ∉ fs' := fun m => (s' a m).elim na fun m' => djx a m' List.mem_cons_self
          have kne : Keep (fun b => b ≠ a) H1 (upd H1 a (.lst (xs.set j v))) := keep_ne (by rw [h1]; trivial)
          have := R1.mutate (H' := upd H1 a (.lst (xs.set j v))) (d' := .list (ds.set j d)) (fp' := a :: fs') ex wx eu
            (.lst upd_same (by rw [List.length_set]; exact h2) (RpL.keep kne _ _ _ r' fun b m e => by subst e; exact na' m)) (List.nodup_cons.mpr ⟨na', n'⟩)
            (fun b m => by
              rw [hfx]
              rcases List.mem_cons.mp m with m | m
              · rw [m]; exact .inl List.mem_cons_self
              · rcases s' b m with m | m
                · exact .inl (List.mem_cons_of_mem _ m)
                · exact .inr ⟨fr.nf b m, fun l c hl ec => fr.dj l c ec b m⟩)
            (kne.mono fun b hb e => by subst e; rw [hfx] at hb; exact hb List.mem_cons_self)
          exact q σ _ _ this.1 ((Keep.of_same s1).trans this.2)
      · cases e
    · cases e
  · simp [patS] at e
end
end PV

set_option Elab.async false
set_option linter.all false
set_option maxRecDepth 100000
set_option maxHeartbeats 1000000
namespace PV
open PySem PySem.Spec PyProof.Rows L2
variable [TN]

/-! ### statements -/
inductive Out where
  | nx (ρ : Rh)
  | rt (d : D) (ρ : Rh)
  | bk (ρ : Rh)
  | ct (ρ : Rh)
  | no
def Good (X : Cx) (F : Fm) (L : Nat → Option V) (H : Hp) (o : Out) (D : Ends) : Prop := match o with
  | .nx ρ => ∀ σ' H' f', Rho X.K F L ρ σ' H' f' → Keep F.all H H' → D.nx σ' H'
  | .rt d ρ => ∀ v σ' H' f' fp, Rho X.K F L ρ σ' H' f' → Fresh X.K F ρ f' v d fp H' → Keep F.all H H' → D.rt v H'
  | .bk ρ => ∀ σ' H' f', Rho X.K F L ρ σ' H' f' → Keep F.all H H' → D.bk σ' H'
  | .ct ρ => ∀ σ' H' f', Rho X.K F L ρ σ' H' f' → Keep F.all H H' → D.ct σ' H'
  | .no => False
theorem Good.keep {X : Cx} {F : Fm} {L : Nat → Option V} {H H' : Hp} {o : Out} {D : Ends} (g : Good X F L H o D) (k : Keep F.all H H') : Good X F L H' o D := by
  cases o with
  | nx ρ => exact fun σ' H2 f' R k2 => g σ' H2 f' R (k.trans k2)
  | rt d ρ => exact fun v σ' H2 f' fp R fr k2 => g v σ' H2 f' fp R fr (k.trans k2)
  | bk ρ => exact fun σ' H2 f' R k2 => g σ' H2 f' R (k.trans k2)
  | ct ρ => exact fun σ' H2 f' R k2 => g σ' H2 f' R (k.trans k2)
  | no => exact g
def SS (X : Cx) (st : Stmt) (f : Rh → Out) : Prop := ∃ t : TS, PS X st t ∧
  ∀ (F : Fm) (L : Nat → Option V) (ρ : Rh) (σ : L2.St) (H : Hp) (fo : Nat → List Addr) (D : Ends), Rho X.K F L ρ σ H fo → Good X F L H (f ρ) D → t D σ H
def BS (X : Cx) (st : List Stmt) (f : Rh → Out) : Prop := ∃ t : TS, PSs X st t ∧
  ∀ (F : Fm) (L : Nat → Option V) (ρ : Rh) (σ : L2.St) (H : Hp) (fo : Nat → List Addr) (D : Ends), Rho X.K F L ρ σ H fo → Good X F L H (f ρ) D → t D σ H
def sNil : Rh → Out := .nx
def sSeq (f g : Rh → Out) : Rh → Out := fun ρ => match f ρ with
  | .nx ρ' => g ρ'
  | o => o
section
variable {X : Cx} {pos : Pos}
theorem bs_nil : BS X [] sNil := ⟨_, pss_nil, fun F L ρ σ H fo D R g => g σ H fo R Keep.refl⟩
theorem bs_cons {st : Stmt} {rest : List Stmt} {f g : Rh → Out} (h : SS X st f) (hs : BS X rest g) : BS X (st :: rest) (sSeq f g) := by
  obtain ⟨t, pe, hq⟩ := h
  obtain ⟨t2, pe2, hq2⟩ := hs
  refine ⟨_, pss_cons pe pe2, fun F L ρ σ H fo D R gd => hq F L ρ σ H fo _ R ?_⟩
  unfold sSeq at gd
  cases e : f ρ with
  | nx ρ' =>
    rw [e] at gd
    exact fun σ' H' f' R' k => hq2 F L ρ' σ' H' f' D R' (gd.keep k)
  | rt d ρ' => rw [e] at gd; exact gd
  | bk ρ' => rw [e] at gd; exact gd
  | ct ρ' => rw [e] at gd; exact gd
  | no => rw [e] at gd; exact gd
theorem bs_one {st : Stmt} {f : Rh → Out} (h : SS X st f) : BS X [st] f := let ⟨t, pe, hq⟩ := h; ⟨t, pss_one pe, hq⟩
theorem ss_pass : SS X (.Pass pos) sNil := ⟨_, ps_pass, fun F L ρ σ H fo D R g => g σ H fo R Keep.refl⟩
theorem ss_break : SS X (.Break pos) .bk := ⟨_, ps_break, fun F L ρ σ H fo D R g => g σ H fo R Keep.refl⟩
theorem ss_continue : SS X (.Continue pos) .ct := ⟨_, ps_continue, fun F L ρ σ H fo D R g => g σ H fo R Keep.refl⟩
/-- target = value -/
def sSet (p : Pat) (g : Rh → Option (D × Rh)) : Rh → Out := fun ρ => match g ρ with
  | some (d, ρ1) => match patS .own p d ρ1 with
    | some ρ2 => .nx ρ2
    | none => .no
  | none => .no
theorem ss_asg {st : Stmt} {e tg : Expr} {p : Pat} {g : Rh → Option (D × Rh)} (ps : ∀ {te : TE} {gg : TG}, PE X e te → PG X tg gg → PS X st (tAsg te gg)) (he : EV X e g) (hp : PatOk X tg p) : SS X st (sSet p g) := by
  obtain ⟨t, pe, hq⟩ := he
  obtain ⟨gg, pg, qo, _⟩ := hp
  refine ⟨_, ps pe pg, fun F L ρ σ H fo D R gd => ?_⟩
  unfold sSet at gd
  cases e : g ρ with
  | none => rw [e] at gd; exact gd.elim
  | some dr =>
    obtain ⟨d, ρ1⟩ := dr
    rw [e] at gd
    simp only at gd
    cases e2 : patS .own p d ρ1 with
    | none => rw [e2] at gd; exact gd.elim
    | some ρ2 =>
      rw [e2] at gd
      exact hq F L ρ σ H fo d ρ1 _ R e fun v H1 f1 fp R1 fr k => qo F L ρ1 σ H1 f1 v d fp ρ2 _ R1 fr e2 fun σ2 H2 f2 R2 k2 => gd σ2 H2 f2 R2 (k.trans k2)
/-- a, b = x, y of names -/
def sPar (i j : Nat) (g : Rh → Option (List D × Rh)) : Rh → Out := fun ρ => match g ρ with
  | some ([d, d'], ρ1) => match setS i ⟨d, .own⟩ ρ1 with
    | some ρ2 => match setS j ⟨d', .own⟩ ρ2 with
      | some ρ3 => .nx ρ3
      | none => .no
    | none => .no
  | _ => .no
theorem ss_par {st : Stmt} {es : List Expr} {i j : Nat} {g : Rh → Option (List D × Rh)} (ps : ∀ {ta : TA}, PA X es ta → PS X st (tPar i j ta)) (he : AV X es g) : SS X st (sPar i j g) := by
  obtain ⟨t, pe, hq⟩ := he
  refine ⟨_, ps pe, fun F L ρ σ H fo D R gd => ?_⟩
  unfold sPar at gd
  split at gd
  · rename_i d d' ρ1 e
    split at gd
    · rename_i ρ2 e2
      split at gd
      · rename_i ρ3 e3
        refine hq F L ρ σ H fo _ ρ1 _ R e fun vs H1 f1 fp R1 fr k => ?_
        have r := fr.rp
        cases r with
        | cons r1 r =>
          cases r with
          | cons r2 r =>
            cases r
            rename_i v1 w1 v2 w2
            have nd := fr.nd
            have nf := fr.nf
            have dj := fr.dj
            rw [List.append_nil] at nd nf dj
            obtain ⟨nd1, nd2, nd3⟩ := List.nodup_append.mp nd
            refine ⟨v1, v2, rfl, ?_⟩
            have fr1 : Fresh X.K F ρ1 f1 v1 d w1 H1 := ⟨r1, nd1, fun a m => nf a (List.mem_append_left _ m), fun l c ec a m => dj l c ec a (List.mem_append_left _ m)⟩
            have R2 := R1.setOwn fr1 e2
            have fr2 : Fresh X.K F ρ2 (fun l => if l = i then w1 else f1 l) v2 d' w2 H1 := ⟨r2, nd2, fun a m => nf a (List.mem_append_right _ m), fun l c ec a m m' => by
              by_cases hl : l = i
              · rw [if_pos hl] at m'; exact nd3 a m' a m rfl
              · rw [if_neg hl] at m'
                obtain ⟨rfl, _, _⟩ := setS_some e2
                rw [get_set_ne hl] at ec
                exact dj l c ec a (List.mem_append_right _ m) m'⟩
            exact gd _ H1 _ (R2.setOwn fr2 e3) k
      · exact gd.elim
    · exact gd.elim
  · exact gd.elim
/-- an expression alone -/
def sDrop (g : Rh → Option (D × Rh)) : Rh → Out := fun ρ => match g ρ with
  | some (_, ρ1) => .nx ρ1
  | none => .no
theorem ss_expr {e : Expr} {g : Rh → Option (D × Rh)} (he : EV X e g) (hs : swapsWith e none pos.line X.env = pure false := by rfl) : SS X (.Expr e pos) (sDrop g) := by
  obtain ⟨t, pe, hq⟩ := he
  refine ⟨_, ps_expr pe hs, fun F L ρ σ H fo D R gd => ?_⟩
  unfold sDrop at gd
  split at gd
  · rename_i d ρ1 e
    exact hq F L ρ σ H fo _ ρ1 _ R e fun v H1 f1 fp R1 fr k => gd σ H1 f1 R1 k
  · exact gd.elim
def sRet (g : Rh → Option (D × Rh)) : Rh → Out := fun ρ => match g ρ with
  | some (d, ρ1) => .rt d ρ1
  | none => .no
theorem ss_ret {e : Expr} {g : Rh → Option (D × Rh)} (he : EV X e g) : SS X (.Return (some e) pos) (sRet g) := by
  obtain ⟨t, pe, hq⟩ := he
  refine ⟨_, ps_ret pe, fun F L ρ σ H fo D R gd => ?_⟩
  unfold sRet at gd
  split at gd
  · rename_i d ρ1 e
    exact hq F L ρ σ H fo _ ρ1 _ R e fun v H1 f1 fp R1 fr k => gd v σ H1 f1 fp R1 fr k
  · exact gd.elim
/-- a name given up: its own list goes -/
def mvS (i : Nat) (ρ : Rh) : Option (D × Rh) := match ρ[i]? with
  | some (some ⟨d, o⟩) => if pureD d = true then some (d, ρ) else match o with
    | .own => some (d, ρ.set i none)
    | _ => none
  | _ => none
theorem ev_mv {e : Expr} {i : Nat} (p : PE X e (tVar i)) : EV X e (mvS i) := by
  refine ⟨_, p, fun F L ρ σ H f d ρ' Q R h q => ?_⟩
  unfold mvS at h
  split at h
  · rename_i d0 o0 e0
    obtain ⟨v, ev, r⟩ := R.rp i _ e0
    split at h
    · rename_i hp
      cases h
      have hf := Rp.pure d v _ r hp
      simp only at r
      rw [hf] at r
      exact ⟨v, ev, q v H f [] R ⟨r, List.nodup_nil, fun a m => (nomatch m), fun _ _ _ a m => (nomatch m)⟩ Keep.refl⟩
    · split at h
      · cases h
        obtain ⟨nd, nf⟩ := R.nd i _ e0 rfl
        refine ⟨v, ev, q v H f (f i) (R.drop fun c e => by rw [e0] at e; cases e; exact fun z => nomatch z) ⟨r, nd, fun a m z => z.elim (nf a m) (R.pv i _ e0 a m), fun j c ec a m => ?_⟩ Keep.refl⟩
        by_cases hj : j = i
        · subst hj
          have hi : j < ρ.length := (List.getElem?_eq_some_iff.mp e0).1
          rw [get_set_eq hi] at ec; cases ec
        · rw [get_set_ne hj] at ec
          exact R.dj i j _ c (Ne.symm hj) e0 rfl ec a m
      · cases h
  · cases h
def sIf (t : Rh → Option (Bool × Rh)) (f g : Rh → Out) : Rh → Out := fun ρ => match t ρ with
  | some (true, ρ1) => f ρ1
  | some (false, ρ1) => g ρ1
  | none => .no
theorem ss_if {c : Expr} {a b : List Stmt} {t : Rh → Option (Bool × Rh)} {f g : Rh → Out} (hc : TV X c t) (ha : BS X a f) (hb : BS X b g) : SS X (.If c a b pos) (sIf t f g) := by
  obtain ⟨tt, pe, hq⟩ := hc
  obtain ⟨t1, p1, q1⟩ := ha
  obtain ⟨t2, p2, q2⟩ := hb
  refine ⟨_, ps_if pe p1 p2, fun F L ρ σ H fo D R gd => ?_⟩
  unfold sIf at gd
  split at gd
  · rename_i ρ1 e
    exact hq F L ρ σ H fo true ρ1 _ R e fun H1 f1 R1 k => by
      rw [if_pos rfl]; exact q1 F L ρ1 σ H1 f1 D R1 (gd.keep k)
  · rename_i ρ1 e
    exact hq F L ρ σ H fo false ρ1 _ R e fun H1 f1 R1 k => by
      rw [if_neg Bool.false_ne_true]; exact q2 F L ρ1 σ H1 f1 D R1 (gd.keep k)
  · exact gd.elim

/-! ### while -/
def wh (c : Rh → Option (Bool × Rh)) (b : Rh → Out) : Nat → Rh → Option Out
  | 0, _ => none
  | n + 1, ρ => match c ρ with
    | none => some .no
    | some (false, ρ1) => some (.nx ρ1)
    | some (true, ρ1) => match b ρ1 with
      | .nx ρ2 => wh c b n ρ2
      | .ct ρ2 => wh c b n ρ2
      | .bk ρ2 => some (.nx ρ2)
      | .rt d ρ2 => some (.rt d ρ2)
      | .no => some .no
theorem wh_mono {c : Rh → Option (Bool × Rh)} {b : Rh → Out} : ∀ {n m : Nat} {ρ : Rh} {o : Out}, wh c b n ρ = some o → n ≤ m → wh c b m ρ = some o
  | 0, _, _, _, h, _ => by cases h
  | n + 1, 0, _, _, _, h => by omega
  | n + 1, m + 1, ρ, o, h, hm => by
    unfold wh at h ⊢
    split at h
    · exact h
    · exact h
    · split at h
      · exact wh_mono h (by omega)
      · exact wh_mono h (by omega)
      · exact h
      · exact h
      · exact h
/-- turns that are counted at most -/
def fuel : Nat := 1000000
def sWhile (c : Rh → Option (Bool × Rh)) (b : Rh → Out) : Rh → Out := fun ρ => match wh c b fuel ρ with
  | some o => o
  | none => .no
theorem sWhile_of {c : Rh → Option (Bool × Rh)} {b : Rh → Out} {n : Nat} {ρ : Rh} {o : Out} (h : wh c b n ρ = some o) (hn : n ≤ 1000000 := by omega) : sWhile c b ρ = o := by
  unfold sWhile
  rw [wh_mono h (show n ≤ fuel from hn)]
theorem ss_while {c : Expr} {body : List Stmt} {t : Rh → Option (Bool × Rh)} {f : Rh → Out} (hp : PassesOwn (model X.prog X.w) X.A X.env X.xe) (hc : TV X c t) (hb : BS X body f) : SS X (.While c body [] pos) (sWhile t f) := by
  obtain ⟨tt, pe, hq⟩ := hc
  obtain ⟨t1, p1, q1⟩ := hb
  refine ⟨_, ps_while hp pe p1, fun F L ρ σ H fo D R gd => ?_⟩
  by_cases hx : ∃ o, wh t f fuel ρ = some o
  · obtain ⟨o, hn⟩ := hx
    have es : sWhile t f ρ = o := by unfold sWhile; rw [hn]
    rw [es] at gd
    generalize fuel = n at hn
    refine ⟨fun m σ' H' => ∃ ρ' f', Rho X.K F L ρ' σ' H' f' ∧ wh t f m ρ' = some o ∧ Keep F.all H H', ⟨n, ρ, fo, R, hn, Keep.refl⟩, ?_⟩
    rintro m σ1 H1 ⟨ρ1, f1, R1, hm, k1⟩
    cases m with
    | zero => cases hm
    | succ m =>
      unfold wh at hm
      split at hm
      · cases hm; exact gd.elim
      · rename_i ρ2 e
        cases hm
        exact hq F L ρ1 σ1 H1 f1 false ρ2 _ R1 e fun H2 f2 R2 k2 => by
          rw [if_neg Bool.false_ne_true]; exact gd σ1 H2 f2 R2 (k1.trans k2)
      · rename_i ρ2 e
        refine hq F L ρ1 σ1 H1 f1 true ρ2 _ R1 e fun H2 f2 R2 k2 => ?_
        rw [if_pos rfl]
        refine ⟨fun σ3 H3 => ∃ ρ3 f3, Rho X.K F L ρ3 σ3 H3 f3 ∧ wh t f m ρ3 = some o ∧ Keep F.all H H3, fun σ3 H3 q => ⟨m, Nat.lt_succ_self m, q⟩, ?_⟩
        refine q1 F L ρ2 σ1 H2 f2 _ R2 ?_
        have k12 := k1.trans k2
        split at hm
        · rename_i ρ3 e3
          rw [e3]
          exact fun σ3 H3 f3 R3 k3 => ⟨ρ3, f3, R3, hm, k12.trans k3⟩
        · rename_i ρ3 e3
          rw [e3]
          exact fun σ3 H3 f3 R3 k3 => ⟨ρ3, f3, R3, hm, k12.trans k3⟩
        · rename_i ρ3 e3
          rw [e3]
          cases hm
          exact fun σ3 H3 f3 R3 k3 => gd σ3 H3 f3 R3 (k12.trans k3)
        · rename_i d ρ3 e3
          rw [e3]
          cases hm
          exact fun v σ3 H3 f3 fp R3 fr k3 => gd v σ3 H3 f3 fp R3 fr (k12.trans k3)
        · cases hm; exact gd.elim
  · have es : sWhile t f ρ = .no := by
      unfold sWhile
      cases q : wh t f fuel ρ with
      | none => rfl
      | some o => exact absurd ⟨o, q⟩ hx
    rw [es] at gd
    exact gd.elim
end
end PV

set_option Elab.async false
set_option linter.all false
set_option maxRecDepth 100000
set_option maxHeartbeats 1000000
namespace PV
open PySem PySem.Spec PyProof.Rows L2
variable [TN]

/-! ### what is walked -/
/-- slots as they are read, the addresses told -/
structure RhF (K : PySem.W.Frag) (ρ : Rh) (σ : L2.St) (H : Hp) (f : Nat → List Addr) : Prop where
  tb : TabI H
  len : σ.length = ρ.length
  rp : ∀ (i : Nat) (c : Cl), ρ[i]? = some (some c) → ∃ v, σ[i]? = some (some v) ∧ Rp K H v c.d (f i)
theorem RhF.rd {K : PySem.W.Frag} {ρ : Rh} {σ : L2.St} {H : Hp} {f : Nat → List Addr} (R : RhF K ρ σ H f) : RhR K ρ σ H := ⟨R.tb, R.len, fun i c e => let ⟨v, e1, r⟩ := R.rp i c e; ⟨v, _, e1, r⟩⟩
theorem RhF.same {K : PySem.W.Frag} {ρ : Rh} {σ : L2.St} {H H' : Hp} {f : Nat → List Addr} (R : RhF K ρ σ H f) (s : Same H H') : RhF K ρ σ H' f := ⟨s.tab R.tb, R.len, fun i c e => let ⟨v, e1, r⟩ := R.rp i c e; ⟨v, e1, r.same s⟩⟩
theorem Rho.rf {K : PySem.W.Frag} {F : Fm} {L : Nat → Option V} {ρ : Rh} {σ : L2.St} {H : Hp} {f : Nat → List Addr} (R : Rho K F L ρ σ H f) : RhF K ρ σ H f := ⟨R.tb, R.len, R.rp⟩
open Classical in
theorem RhR.rf {K : PySem.W.Frag} {ρ : Rh} {σ : L2.St} {H : Hp} (R : RhR K ρ σ H) : ∃ f, RhF K ρ σ H f := by
  refine ⟨fun i => if h : ∃ v fp c, ρ[i]? = some (some c) ∧ σ[i]? = some (some v) ∧ Rp K H v c.d fp then Classical.choose (Classical.choose_spec h) else [], R.tb, R.len, fun i c e => ?_⟩
  obtain ⟨v, fp, e1, r⟩ := R.rp i c e
  have h : ∃ v fp c, ρ[i]? = some (some c) ∧ σ[i]? = some (some v) ∧ Rp K H v c.d fp := ⟨v, fp, c, e, e1, r⟩
  obtain ⟨c', e', e1', r'⟩ := Classical.choose_spec (Classical.choose_spec h)
  rw [e] at e'; cases e'
  exact ⟨_, e1', by rw [dif_pos h]; exact r'⟩
/-- the state of a walk at its start: n items, S what has to stay, fps what is below each item -/
structure WkOk (K : PySem.W.Frag) (H1 : Hp) (J : It) (ds : List D) (S : List Addr) : Prop where
  wk : ∃ (G : Hp → Prop) (Y : Nat → Hp → V → Hp → Prop), Walk J ds.length G Y ∧ G H1 ∧ (∀ H2, Keep (fun a => a ∈ S) H1 H2 → G H2) ∧
    ∀ i H2 x H3, i < ds.length → Keep (fun a => a ∈ S) H1 H2 → Y i H2 x H3 → Same H2 H3 ∧ ∃ d fp, ds[i]? = some d ∧ Rp K H3 x d fp ∧ ∀ a ∈ fp, a ∈ S
  dom : ∀ a ∈ S, H1 a ≠ none
def IP (X : Cx) (tg iter : Expr) (bs : List Nat) (h : Rh → Option (List D)) : Prop := ∃ wi : TI, PI X tg iter wi ∧
  ∀ (ρ : Rh) (σ : L2.St) (H : Hp) (f : Nat → List Addr) (ds : List D) (R : It → Hp → Prop), RhF X.K ρ σ H f → h ρ = some ds →
    (∀ J H1 S, Same H H1 → WkOk X.K H1 J ds S → (∀ a ∈ S, H a = none ∨ ∃ i ∈ bs, ∃ c, ρ[i]? = some (some c) ∧ a ∈ f i) → R J H1) → wi σ H R
def IV (X : Cx) (tg iter : Expr) (bs : List Nat) (g : Rh → Option (List D × Rh)) : Prop := ∃ wi : TI, PI X tg iter wi ∧
  ∀ (F : Fm) (L : Nat → Option V) (ρ : Rh) (σ : L2.St) (H : Hp) (f : Nat → List Addr) (ds : List D) (ρ' : Rh) (R : It → Hp → Prop), Rho X.K F L ρ σ H f → g ρ = some (ds, ρ') →
    (∀ J H1 f1 S, Rho X.K F L ρ' σ H1 f1 → Keep F.all H H1 → WkOk X.K H1 J ds S → (∀ a ∈ S, ¬ F.P a ∧ ((∀ i c, ρ'[i]? = some (some c) → a ∉ f1 i) ∨ ∃ i ∈ bs, ∃ c, ρ'[i]? = some (some c) ∧ a ∈ f1 i)) → R J H1) → wi σ H R
theorem IV.of {X : Cx} {tg iter : Expr} {bs : List Nat} {h : Rh → Option (List D)} (p : IP X tg iter bs h) : IV X tg iter bs (lift h) := by
  obtain ⟨wi, pi, hq⟩ := p
  refine ⟨wi, pi, fun F L ρ σ H f ds ρ' R Ro g q => ?_⟩
  obtain ⟨hd, rfl⟩ := lift_some g
  refine hq ρ σ H f ds R Ro.rf hd fun J H1 S s w hS => q J H1 f S (Ro.same s) (Keep.of_same s) w fun a m => ?_
  rcases hS a m with z | ⟨i, hi, c, e, m'⟩
  · exact ⟨fun hp => Ro.fok a (.inr hp) z, .inl fun i c e m' => Ro.domf e m' z⟩
  · exact ⟨Ro.pv i c e a m', .inr ⟨i, hi, c, e, m'⟩⟩

/-- slots that are walked become readable alone -/
def demS : List Nat → Rh → Option Rh
  | [], ρ => some ρ
  | i :: is, ρ => match ρ[i]? with
    | some (some ⟨_, .ro⟩) => demS is ρ
    | some (some ⟨d, .own⟩) => demS is (ρ.set i (some ⟨d, .ro⟩))
    | _ => none
section
variable {K : PySem.W.Frag} {F : Fm} {L : Nat → Option V} {ρ ρ' : Rh} {σ : L2.St} {H H' : Hp} {f : Nat → List Addr}
/-- one slot becomes readable alone -/
theorem Rho.dem1 (R : Rho K F L ρ σ H f) {i : Nat} {d : D} (e : ρ[i]? = some (some ⟨d, .own⟩)) : Rho K F L (ρ.set i (some ⟨d, .ro⟩)) σ H f := by
  have hi : i < ρ.length := (List.getElem?_eq_some_iff.mp e).1
  have gj : ∀ (j : Nat) (c : Cl), (ρ.set i (some ⟨d, .ro⟩))[j]? = some (some c) → ∃ c' : Cl, ρ[j]? = some (some c') ∧ c'.d = c.d ∧ (c.o.w = true → c'.o.w = true) := fun j c h => by
    by_cases hj : j = i
    · subst hj
      rw [get_set_eq hi] at h; cases h
      exact ⟨_, e, rfl, fun z => rfl⟩
    · rw [get_set_ne hj] at h; exact ⟨c, h, rfl, id⟩
  refine ⟨R.tb, by rw [List.length_set]; exact R.len, R.fok, fun j c h => ?_, fun j c h w => ?_, fun j c h => ?_, fun j k c c' hjk h w h' => ?_, fun j u h => ?_⟩
  · obtain ⟨c', e1, e2, _⟩ := gj j c h
    rw [← e2]; exact R.rp j c' e1
  · obtain ⟨c', e1, e2, e3⟩ := gj j c h
    exact R.nd j c' e1 (e3 w)
  · obtain ⟨c', e1, e2, e3⟩ := gj j c h
    exact R.pv j c' e1
  · obtain ⟨c1, e1, _, e3⟩ := gj j c h
    obtain ⟨c2, e4, _, _⟩ := gj k c' h'
    exact R.dj j k c1 c2 hjk e1 (e3 w) e4
  · obtain ⟨e1, c, e2, e3⟩ := R.pin j u h
    have hj : j ≠ i := fun z => by subst z; rw [e] at e2; cases e2; cases e3
    exact ⟨e1, c, by rw [get_set_ne hj]; exact e2, e3⟩
theorem Rho.dem : ∀ {bs : List Nat} {ρ : Rh}, Rho K F L ρ σ H f → demS bs ρ = some ρ' → Rho K F L ρ' σ H f
  | [], ρ, R, h => by cases h; exact R
  | i :: is, ρ, R, h => by
    unfold demS at h
    split at h
    · exact Rho.dem R h
    · rename_i e; exact Rho.dem (R.dem1 e) h
    · cases h
/-- behind demS: what is below a walked slot belongs to no slot that is written -/
theorem demS_w : ∀ {bs : List Nat} {ρ ρ' : Rh}, demS bs ρ = some ρ' → (∀ (j : Nat) (c : Cl), ρ'[j]? = some (some c) → ∃ c', ρ[j]? = some (some c') ∧ (c.o.w = true → c'.o.w = true ∧ j ∉ bs))
  | [], ρ, ρ', h, j, c, e => by cases h; exact ⟨c, e, fun w => ⟨w, fun m => nomatch m⟩⟩
  | i :: is, ρ, ρ', h, j, c, e => by
    unfold demS at h
    split at h
    · rename_i d e0
      obtain ⟨c', e1, q⟩ := demS_w h j c e
      refine ⟨c', e1, fun w => ⟨(q w).1, fun m => ?_⟩⟩
      rcases List.mem_cons.mp m with m | m
      · subst m
        rw [e0] at e1; cases e1
        have z := (q w).1
        cases z
      · exact (q w).2 m
    · rename_i d e0
      have hi : i < ρ.length := (List.getElem?_eq_some_iff.mp e0).1
      obtain ⟨c', e1, q⟩ := demS_w h j c e
      by_cases hj : j = i
      · subst hj
        rw [get_set_eq hi] at e1; cases e1
        exact ⟨_, e0, fun w => by have z := (q w).1; cases z⟩
      · rw [get_set_ne hj] at e1
        refine ⟨c', e1, fun w => ⟨(q w).1, fun m => ?_⟩⟩
        rcases List.mem_cons.mp m with m | m
        · exact hj m
        · exact (q w).2 m
    · cases h
theorem demS_known : ∀ {bs : List Nat} {ρ ρ' : Rh}, demS bs ρ = some ρ' → ∀ i ∈ bs, ∃ c, ρ[i]? = some (some c)
  | [], _, _, _, i, m => nomatch m
  | b :: bs, ρ, ρ', h, i, m => by
    unfold demS at h
    split at h
    · rename_i d e0
      rcases List.mem_cons.mp m with m | m
      · subst m; exact ⟨_, e0⟩
      · exact demS_known h i m
    · rename_i d e0
      rcases List.mem_cons.mp m with m | m
      · subst m; exact ⟨_, e0⟩
      · obtain ⟨c, e⟩ := demS_known h i m
        by_cases hi : i = b
        · subst hi; exact ⟨_, e0⟩
        · rw [get_set_ne hi] at e; exact ⟨c, e⟩
    · cases h
/-- the frame of a loop -/
theorem Rho.loop {bs : List Nat} {S : List Addr} (R : Rho K F L ρ σ H f) (e : demS bs ρ = some ρ') (dm : ∀ a ∈ S, H a ≠ none) (hS : ∀ a ∈ S, (∀ i c, ρ[i]? = some (some c) → a ∉ f i) ∨ ∃ i ∈ bs, ∃ c, ρ[i]? = some (some c) ∧ a ∈ f i) :
    Rho K (F.also (fun a => a ∈ S)) L ρ' σ H f := by
  have R' := R.dem e
  refine ⟨R'.tb, R'.len, fun a h => h.elim (fun z => z.elim (fun z => R.fok a (.inl z)) (dm a)) fun z => R.fok a (.inr z), R'.rp, fun j c h w => ⟨(R'.nd j c h w).1, fun a m z => ?_⟩, R'.pv, R'.dj, R'.pin⟩
  rcases z with z | z
  · exact (R'.nd j c h w).2 a m z
  · obtain ⟨c', e1, q⟩ := demS_w e j c h
    obtain ⟨w', nb⟩ := q w
    rcases hS a z with z | ⟨i, hi, ci, ei, mi⟩
    · exact z j c' e1 m
    · have hij : j ≠ i := fun z => nb (by rw [z]; exact hi)
      exact R.dj j i c' ci hij e1 w' ei a m mi
end

/-! ### for -/
def forS (p : Pat) (b : Rh → Out) : List D → Rh → Out
  | [], ρ => .nx ρ
  | d :: ds, ρ => match patS .ro p d ρ with
    | none => .no
    | some ρ1 => match b ρ1 with
      | .nx ρ2 => forS p b ds ρ2
      | .ct ρ2 => forS p b ds ρ2
      | .bk ρ2 => .nx ρ2
      | .rt d ρ2 => .rt d ρ2
      | .no => .no
def sFor (bs : List Nat) (p : Pat) (g : Rh → Option (List D × Rh)) (b : Rh → Out) : Rh → Out := fun ρ => match g ρ with
  | none => .no
  | some (ds, ρ1) => match demS bs ρ1 with
    | none => .no
    | some ρ2 => forS p b ds ρ2
section
variable {X : Cx} {pos : Pos}
theorem Good.unalso {F : Fm} {S : Addr → Prop} {L : Nat → Option V} {H : Hp} {o : Out} {D : Ends} (g : Good X F L H o D) : Good X (F.also S) L H o D := by
  cases o with
  | nx ρ => exact fun σ' H2 f' R k2 => g σ' H2 f' R.unalso k2.unalso
  | rt d ρ => exact fun v σ' H2 f' fp R fr k2 => g v σ' H2 f' fp R.unalso ⟨fr.rp, fr.nd, fun a m z => fr.nf a m (Fm.all_also z), fr.dj⟩ k2.unalso
  | bk ρ => exact fun σ' H2 f' R k2 => g σ' H2 f' R.unalso k2.unalso
  | ct ρ => exact fun σ' H2 f' R k2 => g σ' H2 f' R.unalso k2.unalso
  | no => exact g
theorem ss_for {tg iter : Expr} {body : List Stmt} {bs : List Nat} {p : Pat} {g : Rh → Option (List D × Rh)} {b : Rh → Out} (hp : PassesOwn (model X.prog X.w) X.A X.env X.xe) (hc : X.calm = true) (hi : IV X tg iter bs g) (ht : PatOk X tg p) (hb : BS X body b)
    (hs : ∀ x, foldedSetIterable iter X.env x = pure x := by intro _; rfl) : SS X (.For tg iter body [] pos) (sFor bs p g b) := by
  obtain ⟨wi, pi, hiq⟩ := hi
  obtain ⟨gt, pg, _, hgq⟩ := ht
  obtain ⟨tb, pb, hbq⟩ := hb
  refine ⟨_, ps_for hp hc pi pg pb hs, fun F L ρ σ H fo D R gd => ?_⟩
  unfold sFor at gd
  split at gd
  · exact gd.elim
  · rename_i ds ρ1 e1
    split at gd
    · exact gd.elim
    · rename_i ρ2 e2
      refine hiq F L ρ σ H fo ds ρ1 _ R e1 fun J H1 f1 S R1 k1 w hS => ?_
      obtain ⟨⟨G, Y, wk, g0, gk, yk⟩, dm⟩ := w
      have R2 := R1.loop e2 dm fun a m => (hS a m).2
      -- the invariant: what is left to do leads to the same end
      refine for_it wk (fun i σ' H' => ∃ ρ' f', Rho X.K (F.also fun a => a ∈ S) L ρ' σ' H' f' ∧ Keep (F.also fun a => a ∈ S).all H1 H' ∧ Good X F L H (forS p b (ds.drop i) ρ') D) ⟨ρ2, f1, R2, Keep.refl, by rw [List.drop_zero]; exact gd⟩
        (fun i σ' H' hi q => ?_) (fun i x σ' H' H'' hi q y => ?_) (fun σ' H' q => ?_)
      · obtain ⟨ρ', f', R', k', _⟩ := q
        exact gk H' (k'.mono fun a m => .inl (.inr m))
      · obtain ⟨ρ', f', R', k', gd'⟩ := q
        obtain ⟨s, d, fp, ed, rd, hfp⟩ := yk i H' x H'' hi (k'.mono fun a m => .inl (.inr m)) y
        rw [List.drop_eq_getElem_cons hi] at gd'
        have ed' : ds[i] = d := by
          rw [List.getElem?_eq_getElem hi] at ed; exact Option.some.inj ed
        rw [ed'] at gd'
        unfold forS at gd'
        split at gd'
        · exact gd'.elim
        · rename_i ρ3 e3
          refine hgq (F.also fun a => a ∈ S) L ρ' σ' H'' f' x d fp ρ3 _ (R'.same s) rd (fun a m => ⟨.inr (hfp a m), (hS a (hfp a m)).1⟩) e3 fun σ3 f3 R3 => ?_
          refine hbq _ L ρ3 σ3 H'' f3 _ R3 ?_
          have kk : Keep (F.also fun a => a ∈ S).all H1 H'' := k'.trans (Keep.of_same s)
          have kH : Keep F.all H H'' := k1.trans kk.unalso
          split at gd'
          · rename_i ρ4 e4
            rw [e4]
            exact fun σ4 H4 f4 R4 k4 => ⟨ρ4, f4, R4, kk.trans k4, gd'⟩
          · rename_i ρ4 e4
            rw [e4]
            exact fun σ4 H4 f4 R4 k4 => ⟨ρ4, f4, R4, kk.trans k4, gd'⟩
          · rename_i ρ4 e4
            rw [e4]
            exact fun σ4 H4 f4 R4 k4 => gd' σ4 H4 f4 R4.unalso (kH.trans k4.unalso)
          · rename_i d4 ρ4 e4
            rw [e4]
            exact fun v σ4 H4 f4 fp4 R4 fr4 k4 => gd' v σ4 H4 f4 fp4 R4.unalso ⟨fr4.rp, fr4.nd, fun a m z => fr4.nf a m (Fm.all_also z), fr4.dj⟩ (kH.trans k4.unalso)
          · exact gd'.elim
      · obtain ⟨ρ', f', R', k', gd'⟩ := q
        rw [List.drop_length] at gd'
        exact gd' σ' H' f' R'.unalso (k1.trans k'.unalso)
end
end PV

set_option Elab.async false
set_option linter.all false
set_option maxRecDepth 100000
set_option maxHeartbeats 1000000
namespace PV
open PySem PySem.Spec PyProof.Rows L2
variable [TN]

/-! ### readings that are the same in every context -/
def cE (K : PySem.W.Frag) (h : Rh → Option D) : TE := fun σ H Q => ∃ ρ d, RhR K ρ σ H ∧ h ρ = some d ∧ ∀ v H' fp, Same H H' → Rp K H' v d fp → (fp.Nodup ∧ ∀ a ∈ fp, H a = none) → Q v H'
theorem EP.canon {X : Cx} {e : Expr} {h : Rh → Option D} (p : EP true X e h) : PE X e (cE X.K h) := by
  obtain ⟨t, pe, hq⟩ := p
  exact ⟨fun pins s σ H Q I ⟨ρ, d, R, hd, q⟩ => pe.run pins s σ H Q I (hq ρ σ H d Q R hd fun v H' fp s r n => q v H' fp s r (n rfl))⟩
def cV (K : PySem.W.Frag) (g : Rh → Option (D × Rh)) : TE := fun σ H Q => ∃ F L ρ f d ρ', Rho K F L ρ σ H f ∧ g ρ = some (d, ρ') ∧ ∀ v H' f' fp, Rho K F L ρ' σ H' f' → Fresh K F ρ' f' v d fp H' → Keep F.all H H' → Q v H'
theorem EV.canon {X : Cx} {e : Expr} {g : Rh → Option (D × Rh)} (p : EV X e g) : PE X e (cV X.K g) := by
  obtain ⟨t, pe, hq⟩ := p
  exact ⟨fun pins s σ H Q I ⟨F, L, ρ, f, d, ρ', R, hd, q⟩ => pe.run pins s σ H Q I (hq F L ρ σ H f d ρ' Q R hd q)⟩
/-- the tests of a comprehension -/
def TPs (X : Cx) (ifs : List Expr) (h : Rh → Option Bool) : Prop :=
  ∃ t : TT, PTs X ifs t ∧ ∀ (ρ : Rh) (σ : L2.St) (H : Hp) (b : Bool) (Q : Bool → Hp → Prop), RhR X.K ρ σ H → h ρ = some b → (∀ H', Same H H' → Q b H') → t σ H Q
def TVs (X : Cx) (ifs : List Expr) (g : Rh → Option (Bool × Rh)) : Prop :=
  ∃ t : TT, PTs X ifs t ∧ ∀ (F : Fm) (L : Nat → Option V) (ρ : Rh) (σ : L2.St) (H : Hp) (f : Nat → List Addr) (b : Bool) (ρ' : Rh) (Q : Bool → Hp → Prop), Rho X.K F L ρ σ H f → g ρ = some (b, ρ') →
    (∀ H' f', Rho X.K F L ρ' σ H' f' → Keep F.all H H' → Q b H') → t σ H Q
def tAll : Rh → Option Bool := fun _ => some true
theorem tps_nil {X : Cx} : TPs X [] tAll := ⟨_, pts_nil, fun ρ σ H b Q R h q => by cases h; exact q H Same.refl⟩
theorem tps_one {X : Cx} {c : Expr} {h : Rh → Option Bool} (p : TP X c h) : TPs X [c] h := let ⟨t, pe, hq⟩ := p; ⟨t, pts_one pe, hq⟩
theorem tvs_one {X : Cx} {c : Expr} {h : Rh → Option (Bool × Rh)} (p : TV X c h) : TVs X [c] h := let ⟨t, pe, hq⟩ := p; ⟨t, pts_one pe, hq⟩
theorem TVs.of {X : Cx} {cs : List Expr} {h : Rh → Option Bool} (p : TPs X cs h) : TVs X cs (lift h) := by
  obtain ⟨t, pe, hq⟩ := p
  refine ⟨t, pe, fun F L ρ σ H f d ρ' Q R g q => ?_⟩
  obtain ⟨hd, rfl⟩ := lift_some g
  exact hq ρ σ H d Q R.rd hd fun H' s => q H' f (R.same s) (Keep.of_same s)
def cT (K : PySem.W.Frag) (h : Rh → Option Bool) : TT := fun σ H Q => ∃ ρ b, RhR K ρ σ H ∧ h ρ = some b ∧ ∀ H', Same H H' → Q b H'
theorem TPs.canon {X : Cx} {ifs : List Expr} {h : Rh → Option Bool} (p : TPs X ifs h) : PTs X ifs (cT X.K h) := by
  obtain ⟨t, pe, hq⟩ := p
  exact ⟨fun pins s σ H Q I ⟨ρ, b, R, hd, q⟩ => pe.run pins s σ H Q I (hq ρ σ H b Q R hd q)⟩
def cTV (K : PySem.W.Frag) (g : Rh → Option (Bool × Rh)) : TT := fun σ H Q => ∃ F L ρ f b ρ', Rho K F L ρ σ H f ∧ g ρ = some (b, ρ') ∧ ∀ H' f', Rho K F L ρ' σ H' f' → Keep F.all H H' → Q b H'
theorem TVs.canon {X : Cx} {ifs : List Expr} {g : Rh → Option (Bool × Rh)} (p : TVs X ifs g) : PTs X ifs (cTV X.K g) := by
  obtain ⟨t, pe, hq⟩ := p
  exact ⟨fun pins s σ H Q I ⟨F, L, ρ, f, d, ρ', R, hd, q⟩ => pe.run pins s σ H Q I (hq F L ρ σ H f d ρ' Q R hd q)⟩

/-! ### targets of comprehensions -/
mutual
def Pat.slots : Pat → List Nat
  | .nm i => [i]
  | .tp ps => slotsL ps
  | .ix _ _ => []
  | .ix2 _ _ _ => []
def slotsL : List Pat → List Nat
  | [] => []
  | p :: ps => p.slots ++ slotsL ps
end
/-- outside of vs all is as it was -/
def Out1 (vs : List Nat) (σ σ' : L2.St) : Prop := σ'.length = σ.length ∧ ∀ j, j ∉ vs → σ'[j]? = σ[j]?
theorem Out1.trans {vs : List Nat} {a b c : L2.St} (h : Out1 vs a b) (k : Out1 vs b c) : Out1 vs a c := ⟨k.1.trans h.1, fun j hj => (k.2 j hj).trans (h.2 j hj)⟩
/-- both uses of a target: read alone; with effects around -/
def PatC (X : Cx) (tg : Expr) (p : Pat) (vs : List Nat) : Prop := (∃ g : TG, PG X tg g ∧
    ∀ (ρ : Rh) (σ : L2.St) (H : Hp) (v : V) (d : D) (fp : List Addr) (ρ' : Rh) (Q : L2.St → Hp → Prop), RhR X.K ρ σ H → Rp X.K H v d fp → patS .ro p d ρ = some ρ' → (∀ σ', RhR X.K ρ' σ' H → Out1 vs σ σ' → Q σ' H) → g v σ H Q) ∧
  (∃ g : TG, PG X tg g ∧
    ∀ (F : Fm) (L : Nat → Option V) (ρ : Rh) (σ : L2.St) (H : Hp) (f : Nat → List Addr) (v : V) (d : D) (fp : List Addr) (ρ' : Rh) (Q : L2.St → Hp → Prop), Rho X.K F L ρ σ H f → Rp X.K H v d fp → (∀ a ∈ fp, F.F a ∧ ¬ F.P a) → patS .ro p d ρ = some ρ' →
      (∀ σ' f', Rho X.K F L ρ' σ' H f' → Out1 vs σ σ' → Q σ' H) → g v σ H Q)
def PatsC (X : Cx) (tgs : List Expr) (ps : List Pat) (vs : List Nat) : Prop := (∃ g : TGs, PGs X tgs g ∧
    ∀ (ρ : Rh) (σ : L2.St) (H : Hp) (v : List V) (d : List D) (fp : List Addr) (ρ' : Rh) (Q : L2.St → Hp → Prop), RhR X.K ρ σ H → RpL X.K H v d fp → patsS .ro ps d ρ = some ρ' → (∀ σ', RhR X.K ρ' σ' H → Out1 vs σ σ' → Q σ' H) → g v σ H Q) ∧
  (∃ g : TGs, PGs X tgs g ∧
    ∀ (F : Fm) (L : Nat → Option V) (ρ : Rh) (σ : L2.St) (H : Hp) (f : Nat → List Addr) (v : List V) (d : List D) (fp : List Addr) (ρ' : Rh) (Q : L2.St → Hp → Prop), Rho X.K F L ρ σ H f → RpL X.K H v d fp → (∀ a ∈ fp, F.F a ∧ ¬ F.P a) → patsS .ro ps d ρ = some ρ' →
      (∀ σ' f', Rho X.K F L ρ' σ' H f' → Out1 vs σ σ' → Q σ' H) → g v σ H Q)
section
variable {X : Cx} {pos : Pos}
theorem out1_set {vs : List Nat} {σ : L2.St} {i : Nat} {v : Option V} (h : i ∈ vs) : Out1 vs σ (σ.set i v) := ⟨List.length_set .., fun j hj => get_set_ne fun z => hj (by rw [z]; exact h)⟩
theorem patc_nm {tg : Expr} {i : Nat} {vs : List Nat} (pg : PG X tg (gName i)) (hv : i ∈ vs) : PatC X tg (.nm i) vs := by
  refine ⟨⟨_, pg, fun ρ σ H v d fp ρ' Q R r e q => ?_⟩, ⟨_, pg, fun F L ρ σ H f v d fp ρ' Q R r hF e q => ?_⟩⟩
  · obtain ⟨rfl, hi, _⟩ := setS_some (show setS i ⟨d, .ro⟩ ρ = some ρ' by simpa [patS] using e)
    refine q _ ⟨R.tb, by rw [List.length_set, List.length_set]; exact R.len, fun j c h => ?_⟩ (out1_set hv)
    by_cases hj : j = i
    · subst hj
      rw [get_set_eq hi] at h; cases h
      exact ⟨v, fp, get_set_eq (by rw [R.len]; exact hi), r⟩
    · rw [get_set_ne hj] at h ⊢
      exact R.rp j c h
  · exact q _ _ (R.setRo r hF (by simpa [patS] using e)) (out1_set hv)
theorem patsc_nil {vs : List Nat} : PatsC X [] [] vs := by
  refine ⟨⟨_, pgs_nil, fun ρ σ H v d fp ρ' Q R r e q => ?_⟩, ⟨_, pgs_nil, fun F L ρ σ H f v d fp ρ' Q R r hF e q => ?_⟩⟩
  · cases d with
    | nil =>
      simp only [patsS, Option.some.injEq] at e
      subst e
      cases r
      exact ⟨rfl, q σ R ⟨rfl, fun _ _ => rfl⟩⟩
    | cons d ds => simp [patsS] at e
  · cases d with
    | nil =>
      simp only [patsS, Option.some.injEq] at e
      subst e
      cases r
      exact ⟨rfl, q σ f R ⟨rfl, fun _ _ => rfl⟩⟩
    | cons d ds => simp [patsS] at e
theorem patsc_cons {tg : Expr} {tgs : List Expr} {p : Pat} {ps : List Pat} {vs : List Nat} (h1 : PatC X tg p vs) (h2 : PatsC X tgs ps vs) (hs : (assignEach (tg :: tgs) X.env).map (·.2) = assign tg X.env :: (assignEach tgs X.env).map (·.2) := by rfl) : PatsC X (tg :: tgs) (p :: ps) vs := by
  obtain ⟨⟨g1, p1, q1⟩, ⟨g1', p1', q1'⟩⟩ := h1
  obtain ⟨⟨g2, p2, q2⟩, ⟨g2', p2', q2'⟩⟩ := h2
  refine ⟨⟨_, pgs_cons p1 p2 hs, fun ρ σ H v d fp ρ' Q R r e q => ?_⟩, ⟨_, pgs_cons p1' p2' hs, fun F L ρ σ H f v d fp ρ' Q R r hF e q => ?_⟩⟩
  · cases d with
    | nil => simp [patsS] at e
    | cons d ds =>
      cases r with
      | cons r1 r2 =>
        rename_i v1 vs f1 fs
        simp only [patsS] at e
        split at e
        · rename_i ρ1 e1
          exact ⟨v1, vs, rfl, q1 ρ σ H v1 d f1 ρ1 _ R r1 e1 fun σ1 R1 o1 => q2 ρ1 σ1 H vs ds fs ρ' _ R1 r2 e fun σ2 R2 o2 => q σ2 R2 (o1.trans o2)⟩
        · cases e
  · cases d with
    | nil => simp [patsS] at e
    | cons d ds =>
      cases r with
      | cons r1 r2 =>
        rename_i v1 vs f1 fs
        simp only [patsS] at e
        split at e
        · rename_i ρ1 e1
          exact ⟨v1, vs, rfl, q1' F L ρ σ H f v1 d f1 ρ1 _ R r1 (fun a m => hF a (List.mem_append_left _ m)) e1 fun σ1 f1' R1 o1 =>
            q2' F L ρ1 σ1 H f1' vs ds fs ρ' _ R1 r2 (fun a m => hF a (List.mem_append_right _ m)) e fun σ2 f2 R2 o2 => q σ2 f2 R2 (o1.trans o2)⟩
        · cases e
theorem patsS_len (o : Ow) : ∀ (ps : List Pat) (ds : List D) (ρ ρ' : Rh), patsS o ps ds ρ = some ρ' → ps.length = ds.length
  | [], [], _, _, _ => rfl
  | [], _ :: _, _, _, e => by simp [patsS] at e
  | _ :: _, [], _, _, e => by simp [patsS] at e
  | p :: ps, d :: ds, ρ, ρ', e => by
    simp only [patsS] at e
    split at e
    · simp [patsS_len o ps ds _ _ e]
    · cases e
theorem patc_tp {es : List Expr} {k : Nat} {ps : List Pat} {n : Nat} {vs : List Nat} (hc : X.calm = true) (h : PatsC X es ps vs) (hl : ps.length = n) (hn : (assignEach es X.env).length = n := by rfl) (hst : (assignEach es X.env).findIdx? (·.1) = none := by rfl) : PatC X (.Tuple es k pos) (.tp ps) vs := by
  obtain ⟨⟨g, pg, q1⟩, ⟨g', pg', q2⟩⟩ := h
  refine ⟨⟨_, pg_tup hc pg hn hst, fun ρ σ H v d fp ρ' Q R r e q => ?_⟩, ⟨_, pg_tup hc pg' hn hst, fun F L ρ σ H f v d fp ρ' Q R r hF e q => ?_⟩⟩
  · simp only [patS] at e
    split at e
    · cases r with
      | tup h1 h2 h3 => exact ⟨_, _, rfl, sqt h1, by rw [h3.length, ← patsS_len _ _ _ _ _ e]; exact hl, q1 ρ σ H _ _ fp ρ' Q R h3 e q⟩
    · cases e
  · simp only [patS] at e
    split at e
    · cases r with
      | tup h1 h2 h3 => exact ⟨_, _, rfl, sqt h1, by rw [h3.length, ← patsS_len _ _ _ _ _ e]; exact hl, q2 F L ρ σ H f _ _ fp ρ' Q R h3 hF e q⟩
    · cases e
def cP (K : PySem.W.Frag) (p : Pat) (vs : List Nat) : TG := fun v σ H Q => ∃ ρ d fp ρ', RhR K ρ σ H ∧ Rp K H v d fp ∧ patS .ro p d ρ = some ρ' ∧ ∀ σ', RhR K ρ' σ' H → Out1 vs σ σ' → Q σ' H
theorem PatC.canon {tg : Expr} {p : Pat} {vs : List Nat} (h : PatC X tg p vs) : PG X tg (cP X.K p vs) := by
  obtain ⟨⟨g, pg, hq⟩, _⟩ := h
  exact ⟨fun pins s σ H v u Q I r ⟨ρ, d, fp, ρ', R, rd, e, q⟩ => pg.run pins s σ H v u Q I r (hq ρ σ H v d fp ρ' Q R rd e q)⟩
def cPV (K : PySem.W.Frag) (p : Pat) (vs : List Nat) : TG := fun v σ H Q => ∃ F L ρ f d fp ρ', Rho K F L ρ σ H f ∧ Rp K H v d fp ∧ (∀ a ∈ fp, F.F a ∧ ¬ F.P a) ∧ patS .ro p d ρ = some ρ' ∧ ∀ σ' f', Rho K F L ρ' σ' H f' → Out1 vs σ σ' → Q σ' H
theorem PatC.canonV {tg : Expr} {p : Pat} {vs : List Nat} (h : PatC X tg p vs) : PG X tg (cPV X.K p vs) := by
  obtain ⟨_, ⟨g, pg, hq⟩⟩ := h
  exact ⟨fun pins s σ H v u Q I r ⟨F, L, ρ, f, d, fp, ρ', R, rd, hF, e, q⟩ => pg.run pins s σ H v u Q I r (hq F L ρ σ H f v d fp ρ' Q R rd hF e q)⟩
end

/-! ### slots wiped -/
def wipR (ρ : Rh) : List Nat → Rh
  | [] => ρ
  | v :: vs => (wipR ρ vs).set v none
theorem wipR_len (ρ : Rh) : ∀ vs, (wipR ρ vs).length = ρ.length
  | [] => rfl
  | v :: vs => by unfold wipR; rw [List.length_set, wipR_len ρ vs]
theorem wipR_some {ρ : Rh} {i : Nat} {c : Cl} : ∀ {vs : List Nat}, (wipR ρ vs)[i]? = some (some c) → ρ[i]? = some (some c) ∧ i ∉ vs
  | [], h => ⟨h, fun m => nomatch m⟩
  | v :: vs, h => by
    unfold wipR at h
    by_cases hi : i = v
    · subst hi
      by_cases hv : i < (wipR ρ vs).length
      · rw [get_set_eq hv] at h; cases h
      · rw [List.getElem?_eq_none (by simpa using hv)] at h; cases h
    · rw [get_set_ne hi] at h
      obtain ⟨h1, h2⟩ := wipR_some h
      exact ⟨h1, fun m => (List.mem_cons.mp m).elim hi h2⟩
theorem wipe_get (σ : L2.St) (j : Nat) : ∀ vs : List Nat, (wipe σ vs)[j]? = if j ∈ vs ∧ j < σ.length then some none else σ[j]?
  | [] => by rw [if_neg (by simp)]; rfl
  | v :: vs => by
    unfold wipe
    have ih := wipe_get σ j vs
    by_cases hj : j = v
    · subst hj
      by_cases hl : j < σ.length
      · rw [get_set_eq (by rw [wipe_length]; exact hl), if_pos ⟨List.mem_cons_self, hl⟩]
      · rw [List.getElem?_eq_none (by rw [List.length_set, wipe_length]; omega), if_neg (fun z => hl z.2), List.getElem?_eq_none (by omega)]
    · rw [get_set_ne hj, ih]
      by_cases hm : j ∈ vs ∧ j < σ.length
      · rw [if_pos hm, if_pos ⟨List.mem_cons_of_mem _ hm.1, hm.2⟩]
      · rw [if_neg hm, if_neg (fun z => hm ⟨(List.mem_cons.mp z.1).resolve_left hj, z.2⟩)]
theorem wipe_out1 {σ σ' : L2.St} {vs : List Nat} (h : Out1 vs (wipe σ vs) σ') : wipe σ' vs = wipe σ vs := by
  apply List.ext_getElem?
  intro j
  rw [wipe_get, wipe_get, h.1, wipe_length]
  by_cases hm : j ∈ vs ∧ j < σ.length
  · rw [if_pos hm, if_pos hm]
  · rw [if_neg hm, if_neg hm]
    by_cases hj : j ∈ vs
    · have hl : ¬ j < σ.length := fun z => hm ⟨hj, z⟩
      rw [List.getElem?_eq_none (by rw [h.1, wipe_length]; omega), List.getElem?_eq_none (by omega)]
    · rw [h.2 j hj, wipe_get, if_neg hm]
theorem RhR.wip {K : PySem.W.Frag} {ρ : Rh} {σ : L2.St} {H : Hp} (R : RhR K ρ σ H) (vs : List Nat) : RhR K (wipR ρ vs) (wipe σ vs) H := by
  refine ⟨R.tb, by rw [wipe_length, wipR_len]; exact R.len, fun i c h => ?_⟩
  obtain ⟨h1, h2⟩ := wipR_some h
  obtain ⟨v, fp, e1, r⟩ := R.rp i c h1
  exact ⟨v, fp, by rw [wipe_get, if_neg (fun z => h2 z.1)]; exact e1, r⟩
/-- no pinned slot among these -/
def noPin (ρ : Rh) : List Nat → Bool
  | [] => true
  | v :: vs => (match ρ[v]? with
    | some (some ⟨_, .pin⟩) => false
    | _ => true) && noPin ρ vs
theorem noPin_of {ρ : Rh} : ∀ {vs : List Nat}, noPin ρ vs = true → ∀ v ∈ vs, ∀ c, ρ[v]? = some (some c) → c.o ≠ .pin
  | [], _, v, m => nomatch m
  | w :: vs, h, v, m => by
    unfold noPin at h
    rw [Bool.and_eq_true] at h
    intro c e z
    rcases List.mem_cons.mp m with m | m
    · subst m
      obtain ⟨d, o⟩ := c
      cases z
      rw [e] at h
      exact absurd h.1 (by simp)
    · exact noPin_of h.2 v m c e z
theorem Rho.wip {K : PySem.W.Frag} {F : Fm} {L : Nat → Option V} {ρ : Rh} {σ : L2.St} {H : Hp} {f : Nat → List Addr} (R : Rho K F L ρ σ H f) {vs : List Nat} (hp : noPin ρ vs = true) : Rho K F L (wipR ρ vs) (wipe σ vs) H f := by
  have gs : ∀ (i : Nat) (c : Cl), (wipR ρ vs)[i]? = some (some c) → ρ[i]? = some (some c) := fun i c h => (wipR_some h).1
  have ws : ∀ i, i ∉ vs → (wipe σ vs)[i]? = σ[i]? := fun i h => by rw [wipe_get, if_neg (fun z => h z.1)]
  refine ⟨R.tb, by rw [wipe_length, wipR_len]; exact R.len, R.fok, fun i c h => ?_, fun i c h => R.nd i c (gs i c h), fun i c h => R.pv i c (gs i c h), fun i j c c' hij h w h' => R.dj i j c c' hij (gs i c h) w (gs j c' h'), fun i u h => ?_⟩
  · obtain ⟨v, e1, r⟩ := R.rp i c (gs i c h)
    exact ⟨v, by rw [ws i (wipR_some h).2]; exact e1, r⟩
  · obtain ⟨e1, c, e2, e3⟩ := R.pin i u h
    have hi : i ∉ vs := fun m => noPin_of hp i m c e2 e3
    refine ⟨by rw [ws i hi]; exact e1, c, ?_, e3⟩
    have : ∀ vs : List Nat, i ∉ vs → (wipR ρ vs)[i]? = ρ[i]? := fun vs => by
      induction vs with
      | nil => intro _; rfl
      | cons w ws ih =>
        intro hn
        unfold wipR
        rw [get_set_ne (fun z => hn (by rw [z]; exact List.mem_cons_self))]
        exact ih fun m => hn (List.mem_cons_of_mem _ m)
    rw [this vs hi]; exact e2
theorem RpL.append {K : PySem.W.Frag} {H : Hp} : ∀ {ds ds' : List D} {vs vs' : List V} {fs fs' : List Addr}, RpL K H vs ds fs → RpL K H vs' ds' fs' → RpL K H (vs ++ vs') (ds ++ ds') (fs ++ fs')
  | [], _, _, _, _, _, h, h' => by cases h; exact h'
  | d :: ds, ds', _, _, _, _, h, h' => by
    cases h with
    | cons h1 h2 =>
      have := RpL.cons h1 (RpL.append h2 h')
      rw [← List.append_assoc] at this
      exact this
end PV

set_option Elab.async false
set_option linter.all false
set_option maxRecDepth 100000
set_option maxHeartbeats 1000000
namespace PV
open PySem PySem.Spec PyProof.Rows L2
variable [TN]

/-! ### list comprehensions -/
def lcS (step : D → Option (Option D)) : List D → Option (List D)
  | [] => some []
  | d :: ds => match step d with
    | none => none
    | some o => match lcS step ds with
      | none => none
      | some r => some (o.toList ++ r)
def stepE (p : Pat) (t : Rh → Option Bool) (e : Rh → Option D) (ρ : Rh) (d : D) : Option (Option D) := match patS .ro p d ρ with
  | none => none
  | some ρ1 => match t ρ1 with
    | none => none
    | some false => some none
    | some true => match e ρ1 with
      | none => none
      | some x => some (some x)
def eLc (p : Pat) (vs : List Nat) (hi : Rh → Option (List D)) (t : Rh → Option Bool) (e : Rh → Option D) : Rh → Option D := fun ρ => match hi ρ with
  | none => none
  | some ds => if ds.length ≤ 1000000 then (match lcS (stepE p t e (wipR ρ vs)) ds with
    | none => none
    | some r => some (.list r)) else none
theorem mil_lt {n : Nat} (h : n < 1000000) : n < sizeLine := Nat.lt_of_lt_of_le h (by decide)
theorem same_updD {H H1 : Hp} {p : Addr} {o : HO} (s : Same H H1) (n : H p = none) (k : Keep (fun b => b ≠ p) H1 (upd H1 p o)) : Same H (upd H1 p o) := by
  refine ⟨fun b x e w => ?_, fun b z => ?_, fun t => k.tab (s.tab t)⟩
  · rw [upd_ne (fun z => by subst z; rw [n] at e; cases e)]; exact s.at_ b x e w
  · by_cases hb : b = p
    · rw [hb]; exact n
    · rw [upd_ne hb] at z; exact s.dom b z
section
variable {X : Cx}
/-- the reading of a comprehension without effect -/
theorem lc_sound {tg iter elt : Expr} {bs vs : List Nat} {hi : Rh → Option (List D)} {p : Pat} {t : Rh → Option Bool} {e : Rh → Option D} {K : PySem.W.Frag} {wi : TI}
    (hiq : ∀ (ρ : Rh) (σ : L2.St) (H : Hp) (f : Nat → List Addr) (ds : List D) (R : It → Hp → Prop), RhF K ρ σ H f → hi ρ = some ds →
      (∀ J H1 S, Same H H1 → WkOk K H1 J ds S → (∀ a ∈ S, H a = none ∨ ∃ i ∈ bs, ∃ c, ρ[i]? = some (some c) ∧ a ∈ f i) → R J H1) → wi σ H R)
    (ρ : Rh) (σ : L2.St) (H : Hp) (d : D) (Q : VK) (R : RhR K ρ σ H) (h : eLc p vs hi t e ρ = some d)
    (q : ∀ v H' fp, Same H H' → Rp K H' v d fp → (fp.Nodup ∧ ∀ a ∈ fp, H a = none) → Q v H') : tLc wi (cP K p vs) (cT K t) (cE K e) vs σ H Q := by
  unfold eLc at h
  split at h
  · cases h
  · rename_i ds e1
    split at h
    · rename_i hlen
      split at h
      · cases h
      · rename_i outs e2
        cases h
        obtain ⟨f, Rf⟩ := R.rf
        refine hiq ρ σ H f ds _ Rf e1 fun J H1 S s1 w hS => ?_
        obtain ⟨⟨G, Y, wk, g0, gk, yk⟩, dm⟩ := w
        intro D nD
        have nDH : H D = none := Same.new s1 nD
        refine lc_it wk (fun i Hc => ∃ done r acc fs, lcS (stepE p t e (wipR ρ vs)) (ds.drop i) = some r ∧ done ++ r = outs ∧ Hc D = some (.lst acc) ∧ RpL K Hc acc done fs ∧ fs.Nodup ∧ (∀ a ∈ fs, H a = none ∧ a ≠ D) ∧ acc.length ≤ i ∧ Same H1 Hc)
          ⟨[], outs, [], [], by rw [List.drop_zero]; exact e2, rfl, upd_same, .nil, List.nodup_nil, fun a m => (nomatch m), Nat.le_refl _, same_upd nD⟩ (fun i Hc hi' q' => ?_) (fun i x Hc H' hi' q' y => ?_) (fun Hc q' => ?_)
        · obtain ⟨_, _, _, _, _, _, _, _, _, _, _, s⟩ := q'
          exact gk Hc (Keep.of_same s)
        · obtain ⟨done, r, acc, fs, er, eo, hD, rp, nd, nw, la, s⟩ := q'
          obtain ⟨s2, d', fpd, ed, rd, _⟩ := yk i Hc x H' hi' (Keep.of_same s) y
          have ed' : ds[i] = d' := by
            rw [List.getElem?_eq_getElem hi'] at ed; exact Option.some.inj ed
          rw [List.drop_eq_getElem_cons hi', ed'] at er
          unfold lcS at er
          split at er
          · cases er
          · rename_i o es
            split at er
            · cases er
            · rename_i r' er'
              cases er
              unfold stepE at es
              split at es
              · cases es
              · rename_i ρ1 ep
                have sH : Same H H' := same_trans s1 (same_trans s s2)
                refine ⟨wipR ρ vs, d', fpd, ρ1, (R.wip vs).same sH, rd, ep, fun σ1 R1 o1 => ⟨wipe_out1 o1, ?_⟩⟩
                split at es
                · cases es
                · rename_i et
                  cases es
                  refine ⟨ρ1, false, R1, et, fun H3 s3 => ?_⟩
                  refine iteF ?_
                  have s23 := same_trans s2 s3
                  exact ⟨done, r', acc, fs, er', by simpa using eo, s23.at_ _ _ hD trivial, rp.same s23, nd, nw, by omega, same_trans s s23⟩
                · rename_i et
                  split at es
                  · cases es
                  · rename_i xd ee
                    cases es
                    refine ⟨ρ1, true, R1, et, fun H3 s3 => ?_⟩
                    refine iteT ?_
                    refine ⟨ρ1, xd, R1.same s3, ee, fun yv H4 fp s4 ry n => ?_⟩
                    have s24 := same_trans s2 (same_trans s3 s4)
                    have hD4 := s24.at_ _ _ hD trivial
                    refine ⟨acc, hD4, mil_lt (by omega), ?_⟩
                    have kne : Keep (fun b => b ≠ D) H4 (upd H4 D (.lst (acc ++ [yv]))) := keep_ne (by rw [hD4]; trivial)
                    have hfp : ∀ a ∈ fp, H a = none ∧ a ≠ D := fun a m => by
                      have z := n.2 a m
                      have z2 : Hc a = none := Same.new (same_trans s2 s3) z
                      exact ⟨Same.new (same_trans s1 s) z2, fun w => by rw [w, hD] at z2; cases z2⟩
                    refine ⟨done ++ [xd], r', acc ++ [yv], fs ++ (fp ++ []), er', by simpa using eo, upd_same,
                      RpL.append (RpL.keep kne _ _ _ (rp.same s24) fun a m => (nw a m).2) (.cons (Rp.keep kne _ _ _ ry fun a m => (hfp a m).2) .nil), ?_, ?_, by simp; omega, same_updD (same_trans s s24) nD kne⟩
                    · rw [List.append_nil]
                      refine List.nodup_append.mpr ⟨nd, n.1, fun a m b m' z => ?_⟩
                      subst z
                      exact rp.dom m (Same.new (same_trans s2 s3) (n.2 a m'))
                    · rw [List.append_nil]
                      intro a m
                      rcases List.mem_append.mp m with m | m
                      · exact nw a m
                      · exact hfp a m
        · obtain ⟨done, r, acc, fs, er, eo, hD, rp, nd, nw, la, s⟩ := q'
          rw [List.drop_length] at er
          cases er
          rw [List.append_nil] at eo
          subst eo
          refine q (.ref D) Hc (D :: fs) (same_trans s1 s) (.lst hD (mil_line (by omega)) rp) ⟨List.nodup_cons.mpr ⟨fun m => (nw D m).2 rfl, nd⟩, fun a m => ?_⟩
          rcases List.mem_cons.mp m with m | m
          · rw [m]; exact nDH
          · exact (nw a m).1
    · cases h
variable {elt tg iter : Expr} {ifs : List Expr} {scope : Scope} {own : List (Str × Nat)} {pos : Pos}
theorem ep_lc {bs : List Nat} {hi : Rh → Option (List D)} {p : Pat} {t : Rh → Option Bool} {e : Rh → Option D} (hc : X.calm = true) (hN : X.N.Nodup) (hI : IP X tg iter bs hi) (ok : BlkOk X.N X.env.scope scope own)
    (hg : ∀ (s : Shared) (H : Hp) (C : Addr) (cl : List (Str × Addr)) (fp : List Addr), PatC (X.blk s H scope (compEnvC scope cl C X.env) fp) tg p (own.map (·.2)))
    (ht : ∀ (s : Shared) (H : Hp) (C : Addr) (cl : List (Str × Addr)) (fp : List Addr), TPs (X.blk s H scope (compEnvC scope cl C X.env) fp) ifs t)
    (he : ∀ (s : Shared) (H : Hp) (C : Addr) (cl : List (Str × Addr)) (fp : List Addr), EP true (X.blk s H scope (compEnvC scope cl C X.env) fp) elt e) (hs : ∀ x, foldedSetIterable iter X.env x = pure x := by intro _; rfl) :
    EP true X (.ListComp elt [⟨tg, iter, ifs, 0⟩] scope pos) (eLc p (own.map (·.2)) hi t e) := by
  obtain ⟨wi, pi, hiq⟩ := hI
  exact ⟨_, pe_lc (g := cP X.K p (own.map (·.2))) (tt := cT X.K t) (te := cE X.K e) hc hN pi ok (fun s H C cl fp => (hg s H C cl fp).canon) (fun s H C cl fp => (ht s H C cl fp).canon) (fun s H C cl fp => (he s H C cl fp).canon) hs, fun ρ σ H d Q R h q => lc_sound (elt := elt) (tg := tg) (iter := iter) hiq ρ σ H d Q R h fun v H' fp s r n => q v H' fp s r fun _ => n⟩
/-- name = [..] -/
theorem ss_setLc {i : Nat} {y : Str} {py spos : Pos} {bs : List Nat} {hi : Rh → Option (List D)} {p : Pat} {t : Rh → Option Bool} {e : Rh → Option D} (hc : X.calm = true) (hN : X.N.Nodup) (hy : X.N[i]? = some y) (hyl : X.env.scope.names.lookup y = some .local)
    (hsw : swapsWith (.ListComp elt [⟨tg, iter, ifs, 0⟩] scope pos) (some (.Name y py)) spos.line X.env = pure true) (hI : IP X tg iter bs hi) (ok : BlkOk X.N X.env.scope scope own)
    (hg : ∀ (s : Shared) (H : Hp) (C : Addr) (cl : List (Str × Addr)) (fp : List Addr), PatC (X.blk s H scope (compEnvC scope cl C X.env) fp) tg p (own.map (·.2)))
    (ht : ∀ (s : Shared) (H : Hp) (C : Addr) (cl : List (Str × Addr)) (fp : List Addr), TPs (X.blk s H scope (compEnvC scope cl C X.env) fp) ifs t)
    (he : ∀ (s : Shared) (H : Hp) (C : Addr) (cl : List (Str × Addr)) (fp : List Addr), EP true (X.blk s H scope (compEnvC scope cl C X.env) fp) elt e) (hs : ∀ x, foldedSetIterable iter X.env x = pure x := by intro _; rfl) :
    SS X (.Assign [.Name y py] (.ListComp elt [⟨tg, iter, ifs, 0⟩] scope pos) spos) (sSet (.nm i) (lift (eLc p (own.map (·.2)) hi t e))) := by
  obtain ⟨wi, pi, hiq⟩ := hI
  refine ⟨_, ps_setLc (g := cP X.K p (own.map (·.2))) (tt := cT X.K t) (te := cE X.K e) hc hN hy hyl hsw pi ok (fun s H C cl fp => (hg s H C cl fp).canon) (fun s H C cl fp => (ht s H C cl fp).canon) (fun s H C cl fp => (he s H C cl fp).canon) hs, fun F L ρ σ H fo D R gd => ?_⟩
  unfold sSet lift at gd
  cases e1 : eLc p (own.map (·.2)) hi t e ρ with
  | none => rw [e1] at gd; exact gd.elim
  | some d =>
    rw [e1] at gd
    simp only [Option.map_some, patS] at gd
    cases e2 : setS i ⟨d, .own⟩ ρ with
    | none => rw [e2] at gd; exact gd.elim
    | some ρ2 =>
      rw [e2] at gd
      refine lc_sound (elt := elt) (tg := tg) (iter := iter) hiq ρ σ H d _ R.rd e1 fun v H' fp s r n => ?_
      have R' := R.same s
      exact gd _ H' _ (R'.setOwn (R.fresh s r n.1 n.2) e2) (Keep.of_same s)
end

/-! ### with effects -/
def lcV (p : Pat) (t : Rh → Option (Bool × Rh)) (e : Rh → Option (D × Rh)) (vs : List Nat) : List D → Rh → Option (List D × Rh)
  | [], ρ => some ([], ρ)
  | d :: ds, ρ => match patS .ro p d ρ with
    | none => none
    | some ρ1 => match t ρ1 with
      | none => none
      | some (false, ρ2) => if noPin ρ2 vs = true then lcV p t e vs ds (wipR ρ2 vs) else none
      | some (true, ρ2) => match e ρ2 with
        | none => none
        | some (x, ρ3) => if noPin ρ3 vs = true then (match lcV p t e vs ds (wipR ρ3 vs) with
          | none => none
          | some (r, ρ4) => some (x :: r, ρ4)) else none
def vLc (bs : List Nat) (p : Pat) (vs : List Nat) (gi : Rh → Option (List D × Rh)) (t : Rh → Option (Bool × Rh)) (e : Rh → Option (D × Rh)) : Rh → Option (D × Rh) := fun ρ => match gi ρ with
  | none => none
  | some (ds, ρ1) => if ds.length ≤ 1000000 ∧ noPin ρ1 vs = true then (match demS bs ρ1 with
    | none => none
    | some ρ2 => match lcV p t e vs ds (wipR ρ2 vs) with
      | none => none
      | some (r, ρ3) => some (.list r, ρ3)) else none
/-- the slots wiped are unknown -/
theorem wipR_unk {ρ : Rh} {vs : List Nat} {i : Nat} (m : i ∈ vs) (c : Cl) : (wipR ρ vs)[i]? ≠ some (some c) := fun h => (wipR_some h).2 m
section
variable {K : PySem.W.Frag} {F : Fm} {L : Nat → Option V} {ρ ρ' : Rh} {σ : L2.St} {H H' : Hp} {f : Nat → List Addr}
/-- something of which no slot knows changes -/
theorem Rho.aside {p : Addr} {o : HO} (R : Rho K F L ρ σ H f) (m : Mut (H p)) (h : ∀ i c, ρ[i]? = some (some c) → p ∉ f i) : Rho K F L ρ σ (upd H p o) f := by
  refine ⟨(keep_ne (o := o) m).tab R.tb, R.len, fun a ha z => ?_, fun i c e => ?_, R.nd, R.pv, R.dj, R.pin⟩
  · by_cases hp : a = p
    · subst hp; rw [upd_same] at z; cases z
    · rw [upd_ne hp] at z; exact R.fok a ha z
  · obtain ⟨v, e1, r⟩ := R.rp i c e
    exact ⟨v, e1, Rp.keep (keep_ne m) _ _ _ r fun a ma z => h i c e (by rw [← z]; exact ma)⟩
/-- slots may move where none of the wiped is known -/
theorem Rho.swap {σ' : L2.St} {vs : List Nat} (R : Rho K F L ρ σ H f) (hl : σ'.length = σ.length) (hk : ∀ i, i ∉ vs → σ'[i]? = σ[i]?) (hn : ∀ i ∈ vs, ∀ c, ρ[i]? ≠ some (some c)) : Rho K F L ρ σ' H f := by
  refine ⟨R.tb, hl.trans R.len, R.fok, fun i c e => ?_, R.nd, R.pv, R.dj, fun i u e => ?_⟩
  · have hi : i ∉ vs := fun m => hn i m c e
    rw [hk i hi]; exact R.rp i c e
  · obtain ⟨e1, c, e2, e3⟩ := R.pin i u e
    have hi : i ∉ vs := fun m => hn i m c e2
    exact ⟨by rw [hk i hi]; exact e1, c, e2, e3⟩
theorem Rho.hold2 {fp : List Addr} (R : Rho K F L ρ σ H f) (dm : ∀ a ∈ fp, H a ≠ none) (h : ∀ i c, ρ[i]? = some (some c) → ∀ a ∈ fp, a ∉ f i) : Rho K (F.hold fp) L ρ σ H f :=
  ⟨R.tb, R.len, fun a ha => ha.elim (fun z => R.fok a (.inl z)) fun z => z.elim (fun z => R.fok a (.inr z)) (dm a), R.rp, R.nd, fun i c e a m z => z.elim (R.pv i c e a m) fun m' => h i c e a m' m, R.dj, R.pin⟩
theorem lcV_unk {p : Pat} {t : Rh → Option (Bool × Rh)} {e : Rh → Option (D × Rh)} {vs : List Nat} : ∀ {ds : List D} {ρ ρ' : Rh} {r : List D}, lcV p t e vs ds ρ = some (r, ρ') → (∀ i ∈ vs, ∀ c, ρ[i]? ≠ some (some c)) → ∀ i ∈ vs, ∀ c, ρ'[i]? ≠ some (some c)
  | [], ρ, ρ', r, h, hn => by cases h; exact hn
  | d :: ds, ρ, ρ', r, h, hn => by
    unfold lcV at h
    split at h
    · cases h
    · split at h
      · cases h
      · split at h
        · exact lcV_unk h fun i m c => wipR_unk m c
        · cases h
      · split at h
        · cases h
        · split at h
          · split at h
            · cases h
            · rename_i e4
              cases h
              exact lcV_unk e4 fun i m c => wipR_unk m c
          · cases h
end
theorem lcv_sound {bs vs : List Nat} {gi : Rh → Option (List D × Rh)} {p : Pat} {t : Rh → Option (Bool × Rh)} {e : Rh → Option (D × Rh)} {K : PySem.W.Frag} {wi : TI}
    (hiq : ∀ (F : Fm) (L : Nat → Option V) (ρ : Rh) (σ : L2.St) (H : Hp) (f : Nat → List Addr) (ds : List D) (ρ' : Rh) (R : It → Hp → Prop), Rho K F L ρ σ H f → gi ρ = some (ds, ρ') →
      (∀ J H1 f1 S, Rho K F L ρ' σ H1 f1 → Keep F.all H H1 → WkOk K H1 J ds S → (∀ a ∈ S, ¬ F.P a ∧ ((∀ i c, ρ'[i]? = some (some c) → a ∉ f1 i) ∨ ∃ i ∈ bs, ∃ c, ρ'[i]? = some (some c) ∧ a ∈ f1 i)) → R J H1) → wi σ H R)
    (F : Fm) (L : Nat → Option V) (ρ : Rh) (σ : L2.St) (H : Hp) (f : Nat → List Addr) (d : D) (ρ' : Rh) (Q : VK) (R : Rho K F L ρ σ H f) (h : vLc bs p vs gi t e ρ = some (d, ρ'))
    (q : ∀ v H' f' fp, Rho K F L ρ' σ H' f' → Fresh K F ρ' f' v d fp H' → Keep F.all H H' → Q v H') : tLc wi (cPV K p vs) (cTV K t) (cV K e) vs σ H Q := by
  unfold vLc at h
  split at h
  · cases h
  · rename_i ds ρ1 e1
    split at h
    · rename_i hlen
      split at h
      · cases h
      · rename_i ρ2 e2
        split at h
        · cases h
        · rename_i outs ρ3 e3
          cases h
          refine hiq F L ρ σ H f ds ρ1 _ R e1 fun J H1 f1 S R1 k1 w hS => ?_
          obtain ⟨⟨G, Y, wk, g0, gk, yk⟩, dm⟩ := w
          have R2 := R1.loop e2 dm fun a m => (hS a m).2
          have np2 : noPin ρ2 vs = true := by
            have : ∀ vs : List Nat, noPin ρ1 vs = true → noPin ρ2 vs = true := fun vs => by
              induction vs with
              | nil => intro _; rfl
              | cons v vs ih =>
                intro h
                unfold noPin at h ⊢
                rw [Bool.and_eq_true] at h ⊢
                refine ⟨?_, ih h.2⟩
                split
                · rename_i d' ed
                  -- a slot pinned behind demS was so before
                  have : ∀ {bs : List Nat} {ρ ρ' : Rh} {d : D}, demS bs ρ = some ρ' → ρ'[v]? = some (some ⟨d, .pin⟩) → ρ[v]? = some (some ⟨d, .pin⟩) := by
                    intro bs
                    induction bs with
                    | nil => intro ρ ρ' d h e; cases h; exact e
                    | cons b bs ihb =>
                      intro ρ ρ' d h e
                      unfold demS at h
                      split at h
                      · exact ihb h e
                      · rename_i d0 e0
                        have := ihb h e
                        by_cases hb : v = b
                        · subst hb
                          rw [get_set_eq (List.getElem?_eq_some_iff.mp e0).1] at this
                          cases this
                        · rw [get_set_ne hb] at this; exact this
                      · cases h
                  have z := this e2 ed
                  rw [z] at h
                  exact absurd h.1 (by simp)
                · rfl
            exact this vs hlen.2
          have R3 := R2.wip np2
          intro D nD
          have ndD : ∀ i c, (wipR ρ2 vs)[i]? = some (some c) → D ∉ f1 i := fun i c ec m => R3.domf ec m nD
          refine lc_it wk (fun i Hc => ∃ ρc fc done r acc fs, lcV p t e vs (ds.drop i) ρc = some (r, ρ') ∧ done ++ r = outs ∧ (∀ j ∈ vs, ∀ c, ρc[j]? ≠ some (some c)) ∧ Rho K ((F.also fun a => a ∈ S).hold (D :: fs)) L ρc (wipe σ vs) Hc fc ∧
              Hc D = some (.lst acc) ∧ RpL K Hc acc done fs ∧ (D :: fs).Nodup ∧ (∀ a ∈ D :: fs, ¬ (F.also fun a => a ∈ S).all a) ∧ acc.length ≤ i ∧ Keep (F.also fun a => a ∈ S).all H1 Hc)
            ⟨wipR ρ2 vs, f1, [], outs, [], [], by rw [List.drop_zero]; exact e3, rfl, fun j m c => wipR_unk m c, (R3.same (same_upd nD)).hold2 (fun a m => by
                rcases List.mem_cons.mp m with m | m
                · rw [m, upd_same]; exact fun z => nomatch z
                · cases m) (fun i c ec a m => by
                rcases List.mem_cons.mp m with m | m
                · rw [m]; exact ndD i c ec
                · cases m), upd_same, .nil, List.nodup_cons.mpr ⟨fun m => (nomatch m), List.nodup_nil⟩, (fun a m => by
                rcases List.mem_cons.mp m with m | m
                · rw [m]; exact fun z => R2.fok D z nD
                · cases m), Nat.le_refl _, Keep.of_same (same_upd nD)⟩ (fun i Hc hi' q' => ?_) (fun i x Hc H' hi' q' y => ?_) (fun Hc q' => ?_)
          · obtain ⟨_, _, _, _, _, _, _, _, _, _, _, _, _, _, _, k⟩ := q'
            exact gk Hc (k.mono fun a m => .inl (.inr m))
          · obtain ⟨ρc, fc, done, r, acc, fs, er, eo, unk, Rc, hD, rp, nd, nf, la, k⟩ := q'
            obtain ⟨s2, d', fpd, ed, rd, hfpd⟩ := yk i Hc x H' hi' (k.mono fun a m => .inl (.inr m)) y
            have ed' : ds[i] = d' := by
              rw [List.getElem?_eq_getElem hi'] at ed; exact Option.some.inj ed
            rw [List.drop_eq_getElem_cons hi', ed'] at er
            unfold lcV at er
            split at er
            · cases er
            · rename_i ρ4 ep
              refine ⟨_, L, ρc, fc, d', fpd, ρ4, Rc.same s2, rd, fun a m => ⟨.inr (hfpd a m), fun z => ?_⟩, ep, fun σ4 f4 R4 o4 => ⟨wipe_out1 o4, ?_⟩⟩
              · rcases z with z | z
                · exact (hS a (hfpd a m)).1 z
                · exact nf a z (.inl (.inr (hfpd a m)))
              · have hwip : wipe σ4 vs = wipe σ vs := wipe_out1 o4
                split at er
                · cases er
                · rename_i ρ5 et
                  split at er
                  · rename_i np5
                    refine ⟨_, L, ρ4, f4, false, ρ5, R4, et, fun H5 f5 R5 k5 => ?_⟩
                    refine iteF ?_
                    have kk : Keep ((F.also fun a => a ∈ S).hold (D :: fs)).all Hc H5 := (Keep.of_same s2).trans k5
                    have R6 := R5.wip np5
                    rw [hwip] at R6
                    exact ⟨wipR ρ5 vs, f5, done, r, acc, fs, er, eo, fun j m c => wipR_unk m c, R6, kk.at_ _ _ hD (.inl (Fm.mem_hold List.mem_cons_self)) trivial, RpL.keep kk _ _ _ rp fun a m => Fm.mem_hold (List.mem_cons_of_mem _ m), nd, nf, by omega, k.trans kk.unhold⟩
                  · cases er
                · rename_i ρ5 et
                  split at er
                  · cases er
                  · rename_i xd ρ6 ee
                    split at er
                    · rename_i np6
                      split at er
                      · cases er
                      · rename_i r' ρ7 er'
                        cases er
                        refine ⟨_, L, ρ4, f4, true, ρ5, R4, et, fun H5 f5 R5 k5 => ?_⟩
                        refine iteT ?_
                        refine ⟨_, L, ρ5, f5, xd, ρ6, R5, ee, fun yv H6 f6 fp R6 fr k6 => ?_⟩
                        have kk : Keep ((F.also fun a => a ∈ S).hold (D :: fs)).all Hc H6 := (Keep.of_same s2).trans (k5.trans k6)
                        have hD6 := kk.at_ _ _ hD (.inl (Fm.mem_hold List.mem_cons_self)) trivial
                        have rp6 := RpL.keep kk _ _ _ rp fun a m => Fm.mem_hold (List.mem_cons_of_mem _ m)
                        refine ⟨acc, hD6, mil_lt (by have := hlen.1; omega), ?_⟩
                        have mu : Mut (H6 D) := by rw [hD6]; trivial
                        have kne : Keep (fun b => b ≠ D) H6 (upd H6 D (.lst (acc ++ [yv]))) := keep_ne mu
                        have hfp : ∀ a ∈ fp, ¬ (F.also fun a => a ∈ S).all a ∧ a ∉ D :: fs := fun a m => ⟨fun z => fr.nf a m (Fm.all_hold z), fun m' => fr.nf a m (Fm.mem_hold m')⟩
                        have nDfs : D ∉ fs := (List.nodup_cons.mp nd).1
                        have R7 := R6.wip np6
                        rw [hwip] at R7
                        -- the new list is held
                        have R8 : Rho K ((F.also fun a => a ∈ S).hold (D :: (fs ++ fp))) L (wipR ρ6 vs) (wipe σ vs) H6 f6 := R7.unhold.hold2
                          (fun a m => by
                            rcases List.mem_cons.mp m with m | m
                            · rw [m, hD6]; exact fun z => nomatch z
                            · rcases List.mem_append.mp m with m | m
                              · exact rp6.dom m
                              · exact fr.rp.dom m)
                          (fun i c ec a m m' => by
                            rcases List.mem_cons.mp m with m | m
                            · exact R7.pv i c ec a m' (.inr (by rw [m]; exact List.mem_cons_self))
                            · rcases List.mem_append.mp m with m | m
                              · exact R7.pv i c ec a m' (.inr (List.mem_cons_of_mem _ m))
                              · exact fr.dj i c (wipR_some ec).1 a m m')
                        refine ⟨wipR ρ6 vs, f6, done ++ [xd], r', acc ++ [yv], fs ++ fp, er', by simpa using eo, fun j m c => wipR_unk m c, R8.aside mu fun i c ec m => R8.pv i c ec D m (.inr List.mem_cons_self), upd_same, ?_, ?_, ?_, by simp; omega, ?_⟩
                        · have := RpL.append (RpL.keep kne _ _ _ rp6 fun a m z => nDfs (by rw [← z]; exact m)) (.cons (Rp.keep kne _ _ _ fr.rp fun a m z => (hfp a m).2 (by rw [z]; exact List.mem_cons_self)) .nil)
                          rw [List.append_nil] at this
                          exact this
                        · refine List.nodup_cons.mpr ⟨fun m => ?_, List.nodup_append.mpr ⟨(List.nodup_cons.mp nd).2, fr.nd, fun a m b m' z => ?_⟩⟩
                          · rcases List.mem_append.mp m with m | m
                            · exact nDfs m
                            · exact (hfp D m).2 List.mem_cons_self
                          · subst z; exact (hfp a m').2 (List.mem_cons_of_mem _ m)
                        · intro a m
                          rcases List.mem_cons.mp m with m | m
                          · exact nf a (by rw [m]; exact List.mem_cons_self)
                          · rcases List.mem_append.mp m with m | m
                            · exact nf a (List.mem_cons_of_mem _ m)
                            · exact (hfp a m).1
                        · exact (k.trans kk.unhold).trans (kne.mono fun a ha z => nf D List.mem_cons_self (by rw [← z]; exact ha))
                    · cases er
          · obtain ⟨ρc, fc, done, r, acc, fs, er, eo, unk, Rc, hD, rp, nd, nf, la, k⟩ := q'
            rw [List.drop_length] at er
            cases er
            rw [List.append_nil] at eo
            subst eo
            have Rf : Rho K F L ρ' σ Hc fc := (Rc.unhold.unalso).swap (by rw [wipe_length]) (fun i hi => by rw [wipe_get, if_neg (fun z => hi z.1)]) unk
            refine q (.ref D) Hc fc (D :: fs) Rf ⟨.lst hD (mil_line (by have := hlen.1; omega)) rp, nd, fun a m z => nf a m (Fm.all_also z), fun i c ec a m m' => Rc.pv i c ec a m' (.inr m)⟩ (k1.trans k.unalso)
    · cases h
section
variable {X : Cx} {elt tg iter : Expr} {ifs : List Expr} {scope : Scope} {own : List (Str × Nat)} {pos : Pos}
theorem ev_lc {bs : List Nat} {gi : Rh → Option (List D × Rh)} {p : Pat} {t : Rh → Option (Bool × Rh)} {e : Rh → Option (D × Rh)} (hc : X.calm = true) (hN : X.N.Nodup) (hI : IV X tg iter bs gi) (ok : BlkOk X.N X.env.scope scope own)
    (hg : ∀ (s : Shared) (H : Hp) (C : Addr) (cl : List (Str × Addr)) (fp : List Addr), PatC (X.blk s H scope (compEnvC scope cl C X.env) fp) tg p (own.map (·.2)))
    (ht : ∀ (s : Shared) (H : Hp) (C : Addr) (cl : List (Str × Addr)) (fp : List Addr), TVs (X.blk s H scope (compEnvC scope cl C X.env) fp) ifs t)
    (he : ∀ (s : Shared) (H : Hp) (C : Addr) (cl : List (Str × Addr)) (fp : List Addr), EV (X.blk s H scope (compEnvC scope cl C X.env) fp) elt e) (hs : ∀ x, foldedSetIterable iter X.env x = pure x := by intro _; rfl) :
    EV X (.ListComp elt [⟨tg, iter, ifs, 0⟩] scope pos) (vLc bs p (own.map (·.2)) gi t e) := by
  obtain ⟨wi, pi, hiq⟩ := hI
  exact ⟨_, pe_lc (g := cPV X.K p (own.map (·.2))) (tt := cTV X.K t) (te := cV X.K e) hc hN pi ok (fun s H C cl fp => (hg s H C cl fp).canonV) (fun s H C cl fp => (ht s H C cl fp).canon) (fun s H C cl fp => (he s H C cl fp).canon) hs, fun F L ρ σ H f d ρ' Q R h q => lcv_sound hiq F L ρ σ H f d ρ' Q R h q⟩
theorem ss_setLcV {i : Nat} {y : Str} {py spos : Pos} {bs : List Nat} {gi : Rh → Option (List D × Rh)} {p : Pat} {t : Rh → Option (Bool × Rh)} {e : Rh → Option (D × Rh)} (hc : X.calm = true) (hN : X.N.Nodup) (hy : X.N[i]? = some y) (hyl : X.env.scope.names.lookup y = some .local)
    (hsw : swapsWith (.ListComp elt [⟨tg, iter, ifs, 0⟩] scope pos) (some (.Name y py)) spos.line X.env = pure true) (hI : IV X tg iter bs gi) (ok : BlkOk X.N X.env.scope scope own)
    (hg : ∀ (s : Shared) (H : Hp) (C : Addr) (cl : List (Str × Addr)) (fp : List Addr), PatC (X.blk s H scope (compEnvC scope cl C X.env) fp) tg p (own.map (·.2)))
    (ht : ∀ (s : Shared) (H : Hp) (C : Addr) (cl : List (Str × Addr)) (fp : List Addr), TVs (X.blk s H scope (compEnvC scope cl C X.env) fp) ifs t)
    (he : ∀ (s : Shared) (H : Hp) (C : Addr) (cl : List (Str × Addr)) (fp : List Addr), EV (X.blk s H scope (compEnvC scope cl C X.env) fp) elt e) (hs : ∀ x, foldedSetIterable iter X.env x = pure x := by intro _; rfl) :
    SS X (.Assign [.Name y py] (.ListComp elt [⟨tg, iter, ifs, 0⟩] scope pos) spos) (sSet (.nm i) (vLc bs p (own.map (·.2)) gi t e)) := by
  obtain ⟨wi, pi, hiq⟩ := hI
  refine ⟨_, ps_setLc (g := cPV X.K p (own.map (·.2))) (tt := cTV X.K t) (te := cV X.K e) hc hN hy hyl hsw pi ok (fun s H C cl fp => (hg s H C cl fp).canonV) (fun s H C cl fp => (ht s H C cl fp).canon) (fun s H C cl fp => (he s H C cl fp).canon) hs, fun F L ρ σ H fo D R gd => ?_⟩
  unfold sSet at gd
  cases e1 : vLc bs p (own.map (·.2)) gi t e ρ with
  | none => rw [e1] at gd; exact gd.elim
  | some dr =>
    obtain ⟨d, ρ1⟩ := dr
    rw [e1] at gd
    simp only [patS] at gd
    cases e2 : setS i ⟨d, .own⟩ ρ1 with
    | none => rw [e2] at gd; exact gd.elim
    | some ρ2 =>
      rw [e2] at gd
      exact lcv_sound hiq F L ρ σ H fo d ρ1 _ R e1 fun v H' f' fp R' fr k => gd _ H' _ (R'.setOwn fr e2) k
end
end PV

set_option Elab.async false
set_option linter.all false
set_option maxRecDepth 100000
set_option maxHeartbeats 1000000
namespace PV
open PySem PySem.Spec PyProof.Rows L2
variable [TN]

/-- a def without defaults, as the head tells it -/
abbrev FnD (K : PySem.W.Frag) (x qual : Str) (st : Stmt) (f : Addr) (fd : FuncData) : Prop := FunD K x qual (defArgs st) (defBody st) (defScope st) [] [] f fd
theorem FnD.walk {P : Program} {w : World} {K : PySem.W.Frag} {mg : Str → Option Value} {base : Heap} {x qual : Str} {st : Stmt} {f : Addr} {fd : FuncData} {N ps : List Str} {k : Nat} {sp : Sp} (F : FnD K x qual st f fd) (S : FnScope N ps (defScope st)) (hl : ∀ vs H Q E, sp vs H Q E → vs.length = ps.length)
    (hb : ∀ (cdv : Value) (A : Around) (outer : List Env) (s : Shared) (H : Hp) (vs : List V) (Q : VK) (E : XK), Room k (A.deeper (envOfC qual (defScope st) s.heap.objs.size f cdv)) → sp vs H Q E →
      ∃ t, PSs (cxOf CX0 P w K mg base N qual (defScope st) f cdv A outer s H E).nox (defBody st) t ∧ t { nx := fun _ H' => Q .non H', rt := Q } (start N vs) H) : FnOk P w K mg base CX0 (k + 1) f fd ps sp :=
  FunD.ok F S hl fun cdv A outer s H vs Q E hr hp => let ⟨t, h, q⟩ := hb cdv A outer s H vs Q E hr hp; ⟨t, h.nox, q⟩
/-! ### defs without effect on their arguments -/
def spP (K : PySem.W.Frag) (n : Nat) (F : List D → Option D) : Sp := fun vs H Q _ => vs.length = n ∧ ∃ ds fs d, RpL K H vs ds fs ∧ F ds = some d ∧ TabI H ∧
  ∀ v H' fp, Same H H' → Rp K H' v d fp → fp.Nodup → (∀ a ∈ fp, H a = none) → Q v H'
def rho0 (n : Nat) (ds : List D) : Rh := ds.map (fun d => some ⟨d, .ro⟩) ++ List.replicate (n - ds.length) none
def runP (n : Nat) (B : Rh → Out) (ds : List D) : Option D := match B (rho0 n ds) with
  | .rt d _ => some d
  | .nx _ => some .none
  | _ => none
theorem RpL.fn {K : PySem.W.Frag} {H : Hp} : ∀ {ds : List D} {vs : List V} {fs : List Addr}, RpL K H vs ds fs → ∃ f : Nat → List Addr, ∀ i d, ds[i]? = some d → ∃ v, vs[i]? = some v ∧ Rp K H v d (f i)
  | [], _, _, _ => ⟨fun _ => [], fun i d e => by simp at e⟩
  | d :: ds, _, _, h => by
    cases h with
    | cons h1 h2 =>
      rename_i v vs f1 fs
      obtain ⟨f, hf⟩ := RpL.fn h2
      refine ⟨fun i => match i with | 0 => f1 | i + 1 => f i, fun i d' e => ?_⟩
      cases i with
      | zero => simp at e; subst e; exact ⟨v, rfl, h1⟩
      | succ i =>
        obtain ⟨u, e1, r⟩ := hf i d' (by simpa using e)
        exact ⟨u, by simpa using e1, r⟩
theorem rho0_get {n : Nat} {ds : List D} {i : Nat} {c : Cl} (h : (rho0 n ds)[i]? = some (some c)) : ∃ d, ds[i]? = some d ∧ c = ⟨d, .ro⟩ := by
  unfold rho0 at h
  by_cases hi : i < ds.length
  · rw [List.getElem?_append_left (by simpa using hi), List.getElem?_map, List.getElem?_eq_getElem hi] at h
    simp only [Option.map_some, Option.some.injEq] at h
    exact ⟨ds[i], List.getElem?_eq_getElem hi, h.symm⟩
  · rw [List.getElem?_append_right (by simpa using hi)] at h
    have := List.mem_of_getElem? h
    rw [List.mem_replicate] at this
    cases this.2
theorem start_get {N : List Str} {vs : List V} {i : Nat} {v : V} (h : vs[i]? = some v) : (start N vs)[i]? = some (some v) := by
  unfold L2.start
  have hi : i < vs.length := (List.getElem?_eq_some_iff.mp h).1
  rw [List.getElem?_append_left (by simpa using hi), List.getElem?_map, h]; rfl
section
variable {P : Program} {w : World} {K : PySem.W.Frag} {mg : Str → Option Value} {base : Heap}
theorem fnP {x qual : Str} {st : Stmt} {f : Addr} {fd : FuncData} {N ps : List Str} {k : Nat} {B : Rh → Out} (F : FnD K x qual st f fd) (S : FnScope N ps (defScope st))
    (hb : ∀ (cdv : Value) (A : Around) (outer : List Env) (s : Shared) (H : Hp) (E : XK), Room k (A.deeper (envOfC qual (defScope st) s.heap.objs.size f cdv)) → BS (cxOf CX0 P w K mg base N qual (defScope st) f cdv A outer s H E).nox (defBody st) B) :
    FnOk P w K mg base CX0 (k + 1) f fd ps (spP K ps.length (runP N.length B)) := by
  refine F.walk S (fun vs H Q E h => h.1) fun cdv A outer s H vs Q E hr h => ?_
  obtain ⟨hl, ds, fs, d, rp, hd, tb, q⟩ := h
  obtain ⟨t, pe, hq⟩ := hb cdv A outer s H E hr
  refine ⟨t, pe, ?_⟩
  obtain ⟨f0, hf0⟩ := rp.fn
  have hlen := rp.length
  have R : Rho K ⟨fun a => H a ≠ none, fun _ => False⟩ (fun _ => none) (rho0 N.length ds) (start N vs) H f0 := by
    refine ⟨tb, ?_, fun a h => h.elim id fun z => z.elim, fun i c e => ?_, fun i c e wr => ?_, fun i c e a m z => z, fun i j c c' hij e wr => ?_, fun i v z => nomatch z⟩
    · unfold rho0 L2.start; simp [hlen]
    · obtain ⟨d', e1, rfl⟩ := rho0_get e
      obtain ⟨v, e2, r⟩ := hf0 i d' e1
      exact ⟨v, start_get e2, r⟩
    · obtain ⟨d', e1, rfl⟩ := rho0_get e; cases wr
    · obtain ⟨d', e1, rfl⟩ := rho0_get e; cases wr
  refine hq _ _ _ _ H f0 _ R ?_
  have sm : ∀ H', Keep (Fm.all ⟨fun a => H a ≠ none, fun _ => False⟩) H H' → Same H H' := fun H' k => ⟨fun a o e n => k.at_ a o e (.inl (.inl (fun z => by rw [e] at z; cases z))) n, fun a n => Classical.byContradiction fun z => z (k.dom a (.inl z) n), k.tab⟩
  unfold runP at hd
  split at hd
  · rename_i d' ρ' e
    cases hd
    rw [e]
    exact fun v σ' H' f' fp R' fr k => q v H' fp (sm H' k) fr.rp fr.nd fun a m => Classical.byContradiction fun z => fr.nf a m (.inl z)
  · rename_i ρ' e
    cases hd
    rw [e]
    exact fun σ' H' f' R' k => q .non H' [] (sm H' k) .non List.nodup_nil fun a m => nomatch m
  · cases hd
/-- nothing promised -/
theorem fn_zero {f : Addr} {fd : FuncData} {ps : List Str} {k : Nat} : FnOk P w K mg base CX0 k f fd ps (spP K ps.length fun _ => none) :=
  ⟨fun vs H Q E h => h.1, fun A outer s H args us vs Q E hr he hb hv h => by obtain ⟨_, ds, fs, d, _, e, _⟩ := h; cases e⟩
theorem fnP_imp {f : Addr} {fd : FuncData} {ps : List Str} {k n : Nat} {F F' : List D → Option D} (h : FnOk P w K mg base CX0 k f fd ps (spP K n F)) (hf : ∀ ds d, F' ds = some d → F ds = some d) : FnOk P w K mg base CX0 k f fd ps (spP K n F') :=
  h.imp fun vs H Q E ⟨hl, ds, fs, d, rp, e, q⟩ => ⟨hl, ds, fs, d, rp, hf ds d e, q⟩

/-! ### defs that change one argument -/
def spM (K : PySem.W.Frag) (n m : Nat) (F : List D → Option (D × D)) : Sp := fun vs H Q _ => vs.length = n ∧ ∃ ds, ∃ f : Nat → List Addr, ∃ r d' vm, ds.length = n ∧ vs[m]? = some vm ∧ (∀ i d, ds[i]? = some d → ∃ v, vs[i]? = some v ∧ Rp K H v d (f i)) ∧ (f m).Nodup ∧
  (∀ j d, j ≠ m → ds[j]? = some d → ∀ a ∈ f m, a ∉ f j) ∧ F ds = some (r, d') ∧ TabI H ∧
  ∀ v H' fm fp, Keep (fun a => H a ≠ none ∧ a ∉ f m) H H' → Rp K H' vm d' fm → fm.Nodup → (∀ a ∈ fm, a ∈ f m ∨ H a = none) → Rp K H' v r fp → fp.Nodup → (∀ a ∈ fp, (a ∈ f m ∨ H a = none) ∧ a ∉ fm) → Q v H'
def rhoM (n m : Nat) (ds : List D) : Rh := (ds.mapIdx fun i d => some (⟨d, if i = m then .pin else .ro⟩ : Cl)) ++ List.replicate (n - ds.length) none
def runM (n m : Nat) (B : Rh → Out) (ds : List D) : Option (D × D) := match B (rhoM n m ds) with
  | .rt d ρ => match ρ[m]? with
    | some (some c) => some (d, c.d)
    | _ => none
  | .nx ρ => match ρ[m]? with
    | some (some c) => some (.none, c.d)
    | _ => none
  | _ => none
theorem rhoM_get {n m : Nat} {ds : List D} {i : Nat} {c : Cl} (h : (rhoM n m ds)[i]? = some (some c)) : ∃ d, ds[i]? = some d ∧ c = ⟨d, if i = m then .pin else .ro⟩ := by
  unfold rhoM at h
  by_cases hi : i < ds.length
  · rw [List.getElem?_append_left (by simpa using hi), List.getElem?_mapIdx, List.getElem?_eq_getElem hi] at h
    simp only [Option.map_some, Option.some.injEq] at h
    exact ⟨ds[i], List.getElem?_eq_getElem hi, h.symm⟩
  · rw [List.getElem?_append_right (by simpa using hi)] at h
    have := List.mem_of_getElem? h
    rw [List.mem_replicate] at this
    cases this.2
theorem fnM {x qual : Str} {st : Stmt} {f : Addr} {fd : FuncData} {N ps : List Str} {k m : Nat} {B : Rh → Out} (F : FnD K x qual st f fd) (S : FnScope N ps (defScope st)) (hm : m < ps.length)
    (hb : ∀ (cdv : Value) (A : Around) (outer : List Env) (s : Shared) (H : Hp) (E : XK), Room k (A.deeper (envOfC qual (defScope st) s.heap.objs.size f cdv)) → BS (cxOf CX0 P w K mg base N qual (defScope st) f cdv A outer s H E).nox (defBody st) B) :
    FnOk P w K mg base CX0 (k + 1) f fd ps (spM K ps.length m (runM N.length m B)) := by
  refine F.walk S (fun vs H Q E h => h.1) fun cdv A outer s H vs Q E hr h => ?_
  obtain ⟨hl, ds, f0, r, d', vm, hld, hvm, hf0, nd0, dj0, hd, tb, q⟩ := h
  obtain ⟨t, pe, hq⟩ := hb cdv A outer s H E hr
  refine ⟨t, pe, ?_⟩
  have hmd : m < ds.length := by omega
  have gm : (rhoM N.length m ds)[m]? = some (some ⟨ds[m], .pin⟩) := by
    unfold rhoM
    rw [List.getElem?_append_left (by simpa using hmd), List.getElem?_mapIdx, List.getElem?_eq_getElem hmd]
    simp
  have R : Rho K ⟨fun a => H a ≠ none ∧ a ∉ f0 m, fun _ => False⟩ (fun i => if i = m then some vm else none) (rhoM N.length m ds) (start N vs) H f0 := by
    refine ⟨tb, ?_, fun a h => h.elim (fun z => z.1) fun z => z.elim, fun i c e => ?_, fun i c e wr => ?_, fun i c e a m z => z, fun i j c c' hij e wr e' => ?_, fun i v z => ?_⟩
    · unfold rhoM L2.start; simp [hl, hld]
    · obtain ⟨d', e1, rfl⟩ := rhoM_get e
      obtain ⟨v, e2, r⟩ := hf0 i d' e1
      exact ⟨v, start_get e2, r⟩
    · obtain ⟨d', e1, rfl⟩ := rhoM_get e
      by_cases hi : i = m
      · subst hi; exact ⟨nd0, fun a h z => z.2 h⟩
      · simp only [if_neg hi] at wr; cases wr
    · obtain ⟨d', e1, rfl⟩ := rhoM_get e
      obtain ⟨d2, e2, rfl⟩ := rhoM_get e'
      by_cases hi : i = m
      · subst hi; exact dj0 j d2 (Ne.symm hij) e2
      · simp only [if_neg hi] at wr; cases wr
    · by_cases hi : i = m
      · subst hi
        rw [if_pos rfl] at z; cases z
        exact ⟨start_get hvm, _, gm, rfl⟩
      · rw [if_neg hi] at z; cases z
  refine hq _ _ _ _ H f0 _ R ?_
  have kp : ∀ H', Keep (Fm.all ⟨fun a => H a ≠ none ∧ a ∉ f0 m, fun _ => False⟩) H H' → Keep (fun a => H a ≠ none ∧ a ∉ f0 m) H H' := fun H' k => k.mono fun a z => .inl z
  have nw : ∀ a, ¬ (Fm.all ⟨fun a => H a ≠ none ∧ a ∉ f0 m, fun _ => False⟩ a) → a ∈ f0 m ∨ H a = none := fun a z => by
    by_cases h1 : a ∈ f0 m
    · exact .inl h1
    · exact .inr (Classical.byContradiction fun h2 => z (.inl ⟨h2, h1⟩))
  unfold runM at hd
  split at hd
  · rename_i d1 ρ' e
    split at hd
    · rename_i c ec
      cases hd
      rw [e]
      intro v σ' H' f' fp R' fr k
      obtain ⟨e1, c1, e2, e3⟩ := R'.pin m vm (if_pos rfl)
      rw [ec] at e2; cases e2
      obtain ⟨v1, e4, r1⟩ := R'.rp m c ec
      rw [e1] at e4; cases e4
      obtain ⟨nd1, nf1⟩ := R'.nd m c ec (by rw [e3]; rfl)
      exact q v H' (f' m) fp (kp H' k) r1 nd1 (fun a h => nw a fun z => z.elim (nf1 a h) id) fr.rp fr.nd fun a h => ⟨nw a (fr.nf a h), fr.dj m c ec a h⟩
    · cases hd
  · rename_i ρ' e
    split at hd
    · rename_i c ec
      cases hd
      rw [e]
      intro σ' H' f' R' k
      obtain ⟨e1, c1, e2, e3⟩ := R'.pin m vm (if_pos rfl)
      rw [ec] at e2; cases e2
      obtain ⟨v1, e4, r1⟩ := R'.rp m c ec
      rw [e1] at e4; cases e4
      obtain ⟨nd1, nf1⟩ := R'.nd m c ec (by rw [e3]; rfl)
      exact q .non H' (f' m) [] (kp H' k) r1 nd1 (fun a h => nw a fun z => z.elim (nf1 a h) id) .non List.nodup_nil fun a h => nomatch h
    · cases hd
  · cases hd
theorem fn_zeroM {f : Addr} {fd : FuncData} {ps : List Str} {k m : Nat} : FnOk P w K mg base CX0 k f fd ps (spM K ps.length m fun _ => none) :=
  ⟨fun vs H Q E h => h.1, fun A outer s H args us vs Q E hr he hb hv h => by obtain ⟨_, ds, f, r, d', vm, _, _, _, _, _, e, _⟩ := h; cases e⟩
end

/-! ### calls -/
section
variable {X : Cx} {pos p : Pos} {k n : Nat} {f : Addr} {fd : FuncData} {ps : List Str} {x : Str} {e : Expr} {es : List Expr} {F : List D → Option D}
theorem ep_call {fr : Bool} {h : Rh → Option (List D)} (G : FnOk X.prog X.w X.K X.mg X.base CX0 k f fd ps (spP X.K n F)) (hn : n = ps.length) (hr : Room k X.A) (hg : Gl X x) (hm : X.mg x = some (.ref f)) (hk : PySem.W.keepIn X.K (.ref f) = true) (hb : Binds X.K fd ps [])
    (ha : AP fr X (e :: es) h) (hl : (e :: es).length = n := by rfl) (hdb : (x == ("__debug__" : Str)) = false := by decide) (he : starEach (e :: es) X.env = (false, eval e X.env) :: starEach es X.env := by rfl) (hpl : (backTo pos (starEach es X.env)).any (·.1) = false := by rfl)
    (hal : ∀ ρ ds, h ρ = some ds → ds.length = n) : EP true X (.Call (.Name x p) (e :: es) [] pos) (fun ρ => match h ρ with | some ds => F ds | none => none) := by
  obtain ⟨t, pe, hq⟩ := ha
  refine ⟨_, pe_call G hr hg hm hk hb .nil pass0 pe hdb he hpl, fun ρ σ H d Q R hd q => ?_⟩
  simp only at hd
  split at hd
  · rename_i ds e1
    refine hq ρ σ H ds _ R e1 fun vs H1 fs s r _ => ?_
    show spP X.K n F (vs ++ []) H1 Q _
    rw [List.append_nil]
    exact ⟨r.length.trans (hal ρ ds e1), ds, fs, d, r, hd, s.tab R.tb, fun v H' fp s2 rv nd nw => q v H' fp (same_trans s s2) rv fun _ => ⟨nd, fun a m => Same.new s (nw a m)⟩⟩
  · cases hd
theorem ev_call {g : Rh → Option (List D × Rh)} (G : FnOk X.prog X.w X.K X.mg X.base CX0 k f fd ps (spP X.K n F)) (hr : Room k X.A) (hg : Gl X x) (hm : X.mg x = some (.ref f)) (hk : PySem.W.keepIn X.K (.ref f) = true) (hb : Binds X.K fd ps [])
    (ha : AV X (e :: es) g) (hal : ∀ ρ ds ρ', g ρ = some (ds, ρ') → ds.length = n) (hdb : (x == ("__debug__" : Str)) = false := by decide) (he : starEach (e :: es) X.env = (false, eval e X.env) :: starEach es X.env := by rfl) (hpl : (backTo pos (starEach es X.env)).any (·.1) = false := by rfl) :
    EV X (.Call (.Name x p) (e :: es) [] pos) (fun ρ => match g ρ with | some (ds, ρ') => (F ds).map fun d => (d, ρ') | none => none) := by
  obtain ⟨t, pe, hq⟩ := ha
  refine ⟨_, pe_call G hr hg hm hk hb .nil pass0 pe hdb he hpl, fun Fm L ρ σ H fo d ρ' Q R hd q => ?_⟩
  simp only at hd
  split at hd
  · rename_i ds ρ1 e1
    cases e2 : F ds with
    | none => rw [e2] at hd; cases hd
    | some d1 =>
      rw [e2] at hd; cases hd
      refine hq Fm L ρ σ H fo ds ρ' _ R e1 fun vs H1 f1 fs R1 fr k1 => ?_
      show spP X.K n F (vs ++ []) H1 Q _
      rw [List.append_nil]
      exact ⟨fr.rp.length.trans (hal ρ ds ρ' e1), ds, fs, d, fr.rp, e2, R1.tb, fun v H' fp s2 rv nd nw => q v H' f1 fp (R1.same s2) (R1.fresh s2 rv nd nw) (k1.trans (Keep.of_same s2))⟩
  · cases hd

/-! ### calls that change a slot -/
inductive Ag where
  | rd (i : Nat)
  | ev (g : Rh → Option (D × Rh))
def runAg : List Ag → Rh → Option (List (D ⊕ Nat) × Rh)
  | [], ρ => some ([], ρ)
  | .rd i :: as, ρ => match getS i ρ with
    | some _ => match runAg as ρ with
      | some (xs, ρ') => some (.inr i :: xs, ρ')
      | none => none
    | none => none
  | .ev g :: as, ρ => match g ρ with
    | some (d, ρ1) => match runAg as ρ1 with
      | some (xs, ρ') => some (.inl d :: xs, ρ')
      | none => none
    | none => none
def valAg (ρ : Rh) : D ⊕ Nat → Option D
  | .inl d => some d
  | .inr i => getS i ρ
def valAgs (ρ : Rh) : List (D ⊕ Nat) → Option (List D)
  | [] => some []
  | x :: xs => match valAg ρ x, valAgs ρ xs with
    | some d, some ds => some (d :: ds)
    | _, _ => none
inductive AgL (K : PySem.W.Frag) (H : Hp) (σ : L2.St) : List V → List (D ⊕ Nat) → List Addr → Prop
  | nil : AgL K H σ [] [] []
  | inl {v : V} {d : D} {fp fs : List Addr} {vs : List V} {xs : List (D ⊕ Nat)} : Rp K H v d fp → AgL K H σ vs xs fs → AgL K H σ (v :: vs) (.inl d :: xs) (fp ++ fs)
  | inr {v : V} {i : Nat} {fs : List Addr} {vs : List V} {xs : List (D ⊕ Nat)} : σ[i]? = some (some v) → AgL K H σ vs xs fs → AgL K H σ (v :: vs) (.inr i :: xs) fs
def AgOk (X : Cx) (es : List Expr) (as : List Ag) : Prop := ∃ t : TA, PA X es t ∧
  ∀ (F : Fm) (L : Nat → Option V) (ρ : Rh) (σ : L2.St) (H : Hp) (f : Nat → List Addr) (xs : List (D ⊕ Nat)) (ρ' : Rh) (Q : List V → Hp → Prop), Rho X.K F L ρ σ H f → runAg as ρ = some (xs, ρ') →
    (∀ vs H' f' fp, Rho X.K F L ρ' σ H' f' → AgL X.K H' σ vs xs fp → fp.Nodup → (∀ a ∈ fp, ¬ F.all a) → (∀ i c, ρ'[i]? = some (some c) → ∀ a ∈ fp, a ∉ f' i) → Keep F.all H H' → Q vs H') → t σ H Q
theorem ag_nil : AgOk X [] [] := ⟨_, pa_nil, fun F L ρ σ H f xs ρ' Q R h q => by
  cases h
  exact q [] H f [] R .nil List.nodup_nil (fun a m => (nomatch m)) (fun _ _ _ a m => (nomatch m)) Keep.refl⟩
theorem ag_rd {i : Nat} {as : List Ag} (he : PE X e (tVar i)) (hs : AgOk X es as) (hst : starEach (e :: es) X.env = (false, eval e X.env) :: starEach es X.env := by rfl) : AgOk X (e :: es) (.rd i :: as) := by
  obtain ⟨t, pe, hq⟩ := hs
  refine ⟨_, pa_cons he pe hst, fun F L ρ σ H f xs ρ' Q R h q => ?_⟩
  unfold runAg at h
  split at h
  · rename_i d ed
    split at h
    · rename_i ys ρ1 e1
      cases h
      obtain ⟨c, ec, _⟩ := getS_some ed
      obtain ⟨v, ev, _⟩ := R.rp i c ec
      exact ⟨v, ev, hq F L ρ σ H f ys ρ' _ R e1 fun vs H' f' fp R' al nd nf dj k => q (v :: vs) H' f' fp R' (.inr ev al) nd nf dj k⟩
    · cases h
  · cases h
theorem AgL.keep {K : PySem.W.Frag} {H H' : Hp} {σ : L2.St} {F : Addr → Prop} (k : Keep F H H') : ∀ {vs : List V} {xs : List (D ⊕ Nat)} {fp : List Addr}, AgL K H σ vs xs fp → (∀ a ∈ fp, F a) → AgL K H' σ vs xs fp
  | _, _, _, .nil, _ => .nil
  | _, _, _, .inl r s, h => .inl (Rp.keep k _ _ _ r fun a m => h a (List.mem_append_left _ m)) (AgL.keep k s fun a m => h a (List.mem_append_right _ m))
  | _, _, _, .inr e s, h => .inr e (AgL.keep k s h)
theorem AgL.dom {K : PySem.W.Frag} {H : Hp} {σ : L2.St} : ∀ {vs : List V} {xs : List (D ⊕ Nat)} {fp : List Addr}, AgL K H σ vs xs fp → ∀ a ∈ fp, H a ≠ none
  | _, _, _, .nil, _, m => nomatch m
  | _, _, _, .inl r s, a, m => (List.mem_append.mp m).elim r.dom (AgL.dom s a)
  | _, _, _, .inr e s, a, m => AgL.dom s a m
theorem ag_ev {g : Rh → Option (D × Rh)} {as : List Ag} (he : EV X e g) (hs : AgOk X es as) (hst : starEach (e :: es) X.env = (false, eval e X.env) :: starEach es X.env := by rfl) : AgOk X (e :: es) (.ev g :: as) := by
  obtain ⟨te, p1, q1⟩ := he
  obtain ⟨t, pe, hq⟩ := hs
  refine ⟨_, pa_cons p1 pe hst, fun F L ρ σ H f xs ρ' Q R h q => ?_⟩
  unfold runAg at h
  split at h
  · rename_i d ρ1 ed
    split at h
    · rename_i ys ρ2 e2
      cases h
      refine q1 F L ρ σ H f d ρ1 _ R ed fun v H1 f1 fp1 R1 fr1 k1 => ?_
      refine hq (F.hold fp1) L ρ1 σ H1 f1 ys ρ' _ (R1.hold fr1) e2 fun vs H2 f2 fp2 R2 al nd nf dj k2 => ?_
      have fr1' := fr1.over k2 R2
      refine q (v :: vs) H2 f2 (fp1 ++ fp2) R2.unhold (.inl fr1'.rp al) (List.nodup_append.mpr ⟨fr1.nd, nd, fun a m b m' z => ?_⟩) (fun a m z => ?_) (fun i c ec a m => ?_) (k1.trans k2.unhold)
      · subst z; exact nf a m' (Fm.mem_hold m)
      · rcases List.mem_append.mp m with m | m
        · exact fr1.nf a m z
        · exact nf a m (Fm.all_hold z)
      · rcases List.mem_append.mp m with m | m
        · exact fr1'.dj i c ec a m
        · exact dj i c ec a m
    · cases h
  · cases h
def agIx : Ag → Option Nat
  | .rd i => some i
  | .ev _ => none
def xIx : D ⊕ Nat → Option Nat
  | .inr i => some i
  | .inl _ => none
theorem runAg_ix : ∀ {as : List Ag} {ρ ρ' : Rh} {xs : List (D ⊕ Nat)}, runAg as ρ = some (xs, ρ') → xs.map xIx = as.map agIx
  | [], _, _, _, h => by cases h; rfl
  | .rd i :: as, ρ, ρ', xs, h => by
    unfold runAg at h
    split at h
    · split at h
      · rename_i e1
        cases h
        simp [runAg_ix e1, xIx, agIx]
      · cases h
    · cases h
  | .ev g :: as, ρ, ρ', xs, h => by
    unfold runAg at h
    split at h
    · split at h
      · rename_i e1
        cases h
        simp [runAg_ix e1, xIx, agIx]
      · cases h
    · cases h
theorem valAgs_get {ρ : Rh} : ∀ {xs : List (D ⊕ Nat)} {ds : List D}, valAgs ρ xs = some ds → ds.length = xs.length ∧ ∀ (j : Nat) (d : D), ds[j]? = some d → ∃ x : D ⊕ Nat, xs[j]? = some x ∧ valAg ρ x = some d
  | [], ds, h => by cases h; exact ⟨rfl, fun j d e => by simp at e⟩
  | x :: xs, ds, h => by
    unfold valAgs at h
    split at h
    · rename_i d0 ds0 e1 e2
      cases h
      obtain ⟨hl, hg⟩ := valAgs_get e2
      refine ⟨by simp [hl], fun j d e => ?_⟩
      cases j with
      | zero => simp at e; subst e; exact ⟨x, rfl, e1⟩
      | succ j => obtain ⟨y, ey, vy⟩ := hg j d (by simpa using e); exact ⟨y, by simpa using ey, vy⟩
    · cases h
theorem AgL.get {K : PySem.W.Frag} {H : Hp} {σ : L2.St} : ∀ {vs : List V} {xs : List (D ⊕ Nat)} {fp : List Addr}, AgL K H σ vs xs fp → vs.length = xs.length ∧ ∃ g : Nat → List Addr, ∀ (j : Nat) (x : D ⊕ Nat), xs[j]? = some x → ∃ v, vs[j]? = some v ∧ ((∃ d, x = .inl d ∧ Rp K H v d (g j) ∧ ∀ a ∈ g j, a ∈ fp) ∨ ∃ i, x = .inr i ∧ σ[i]? = some (some v))
  | _, _, _, .nil => ⟨rfl, fun _ => [], fun j x e => by simp at e⟩
  | _, _, _, .inl (fp := f1) r s => by
    obtain ⟨hl, g, hg⟩ := AgL.get s
    refine ⟨by simp [hl], fun j => match j with | 0 => f1 | j + 1 => g j, fun j x e => ?_⟩
    cases j with
    | zero => simp at e; subst e; exact ⟨_, rfl, .inl ⟨_, rfl, r, fun a m => List.mem_append_left _ m⟩⟩
    | succ j =>
      obtain ⟨v, ev, h⟩ := hg j x (by simpa using e)
      refine ⟨v, by simpa using ev, h.imp (fun ⟨d, e1, e2, e3⟩ => ⟨d, e1, e2, fun a m => List.mem_append_right _ (e3 a m)⟩) id⟩
  | _, _, _, .inr es s => by
    obtain ⟨hl, g, hg⟩ := AgL.get s
    refine ⟨by simp [hl], fun j => match j with | 0 => [] | j + 1 => g j, fun j x e => ?_⟩
    cases j with
    | zero => simp at e; subst e; exact ⟨_, rfl, .inr ⟨_, rfl, es⟩⟩
    | succ j =>
      obtain ⟨v, ev, h⟩ := hg j x (by simpa using e)
      exact ⟨v, by simpa using ev, h⟩
/-- the argument m is the slot i, which changes -/
def callM (i : Nat) (as : List Ag) (F : List D → Option (D × D)) : Rh → Option (D × Rh) := fun ρ => match runAg as ρ with
  | none => none
  | some (xs, ρ1) => match wr i ρ1 with
    | none => none
    | some (_, o) => match valAgs ρ1 xs with
      | none => none
      | some ds => match F ds with
        | some (r, d') => some (r, ρ1.set i (some ⟨d', o⟩))
        | none => none
open Classical in
theorem ev_callM {m i : Nat} {as : List Ag} {F : List D → Option (D × D)} (G : FnOk X.prog X.w X.K X.mg X.base CX0 k f fd ps (spM X.K n m F)) (hr : Room k X.A) (hg : Gl X x) (hm : X.mg x = some (.ref f)) (hk : PySem.W.keepIn X.K (.ref f) = true) (hb : Binds X.K fd ps [])
    (ha : AgOk X (e :: es) as) (hn : as.length = n) (hi1 : (as.map agIx)[m]? = some (some i)) (hi2 : ∀ j, j < as.length → (as.map agIx)[j]? = some (some i) → j = m) (hdb : (x == ("__debug__" : Str)) = false := by decide)
    (he : starEach (e :: es) X.env = (false, eval e X.env) :: starEach es X.env := by rfl) (hpl : (backTo pos (starEach es X.env)).any (·.1) = false := by rfl) : EV X (.Call (.Name x p) (e :: es) [] pos) (callM i as F) := by
  obtain ⟨t, pe, hq⟩ := ha
  refine ⟨_, pe_call G hr hg hm hk hb .nil pass0 pe hdb he hpl, fun Fm L ρ σ H fo r ρ' Q R hd q => ?_⟩
  unfold callM at hd
  split at hd
  · cases hd
  · rename_i xs ρ1 e1
    split at hd
    · cases hd
    · rename_i di o ew
      split at hd
      · cases hd
      · rename_i ds e2
        split at hd
        · rename_i r' d' e3
          cases hd
          have hix := runAg_ix e1
          obtain ⟨hwr, hw⟩ := wr_some ew
          refine hq Fm L ρ σ H fo xs ρ1 _ R e1 fun vs H1 f1 fp R1 al nd nf dj k1 => ?_
          show spM X.K n m F (vs ++ []) H1 Q _
          rw [List.append_nil]
          obtain ⟨hvl, g, hg'⟩ := al.get
          obtain ⟨hdl, hdg⟩ := valAgs_get e2
          have hxl : xs.length = as.length := by have := congrArg List.length hix; simpa using this
          have xm : xs[m]? = some (.inr i) := by
            have h1 : (xs.map xIx)[m]? = some (some i) := by rw [hix]; exact hi1
            rw [List.getElem?_map] at h1
            cases hx : xs[m]? with
            | none => rw [hx] at h1; cases h1
            | some y =>
              rw [hx] at h1
              cases y with
              | inl d => cases h1
              | inr j => cases h1; rfl
          have xo : ∀ j, xs[j]? = some (.inr i) → j = m := fun j hj => by
            have hjl : j < as.length := by rw [← hxl]; exact (List.getElem?_eq_some_iff.mp hj).1
            refine hi2 j hjl ?_
            rw [← hix, List.getElem?_map, hj]; rfl
          obtain ⟨vm, evm, hvm⟩ := hg' m _ xm
          have svm : σ[i]? = some (some vm) := by
            rcases hvm with ⟨d, z, _⟩ | ⟨i', z, h⟩
            · cases z
            · cases z; exact h
          -- the addresses by argument
          let fa : Nat → List Addr := fun j => match xs[j]? with
            | some (.inr l) => f1 l
            | some (.inl _) => g j
            | none => []
          have fam : fa m = f1 i := by show (match xs[m]? with | some (.inr l) => f1 l | some (.inl _) => g m | none => []) = _; rw [xm]
          have hfa : ∀ j d, ds[j]? = some d → ∃ v, vs[j]? = some v ∧ Rp X.K H1 v d (fa j) := fun j d ej => by
            obtain ⟨y, ey, vy⟩ := hdg j d ej
            obtain ⟨v, ev, hv⟩ := hg' j y ey
            refine ⟨v, ev, ?_⟩
            show Rp X.K H1 v d (match xs[j]? with | some (.inr l) => f1 l | some (.inl _) => g j | none => [])
            rw [ey]
            rcases hv with ⟨d1, rfl, r1, _⟩ | ⟨l, rfl, sl⟩
            · cases vy; exact r1
            · obtain ⟨c, ec, ed⟩ := getS_some (show getS l ρ1 = some d from vy)
              obtain ⟨v2, ev2, r2⟩ := R1.rp l c ec
              rw [sl] at ev2; cases ev2
              rw [← ed]; exact r2
          obtain ⟨ndi, nfi⟩ := R1.nd i _ hwr hw
          refine ⟨by omega, ds, fa, r, d', vm, by omega, evm, hfa, by rw [fam]; exact ndi, fun j d hj ej a ma => ?_, e3, R1.tb, fun v H2 fm fr K2 rm ndm sm rr ndr sr => ?_⟩
          · rw [fam] at ma
            obtain ⟨y, ey, vy⟩ := hdg j d ej
            show a ∉ (match xs[j]? with | some (.inr l) => f1 l | some (.inl _) => g j | none => [])
            rw [ey]
            cases y with
            | inl d1 =>
              obtain ⟨v, ev, hv⟩ := hg' j _ ey
              rcases hv with ⟨d2, _, _, sub⟩ | ⟨l, z, _⟩
              · exact fun ma' => dj i _ hwr a (sub a ma') ma
              · cases z
            | inr l =>
              have hl : l ≠ i := fun z => hj (xo j (by rw [← z]; exact ey))
              obtain ⟨c, ec, ed⟩ := getS_some (show getS l ρ1 = some d from vy)
              exact R1.dj i l _ c (Ne.symm hl) hwr hw ec a ma
          · rw [fam] at K2 sm sr
            have kk : Keep (fun b => b ∉ f1 i) H1 H2 := ⟨fun b ob eb hb n => K2.at_ b ob eb (hb.imp (fun z => ⟨(fun w => by rw [eb] at w; cases w), z⟩) id) n, fun b hb n => Classical.byContradiction fun z => z (K2.dom b ⟨z, hb⟩ n), K2.tab⟩
            obtain ⟨R2, kF⟩ := R1.mutate (d' := d') (fp' := fm) hwr hw svm rm ndm (fun a ma => (sm a ma).imp id fun z => ⟨fun w => R1.fok a w z, fun j cj hj ej ma' => R1.domf ej ma' z⟩) kk
            refine q v H2 _ fr R2 ⟨rr, ndr, fun a ma z => ?_, fun j c ec a ma => ?_⟩ (k1.trans kF)
            · rcases (sr a ma).1 with h1 | h1
              · exact z.elim (nfi a h1) (R1.pv i _ hwr a h1)
              · exact R1.fok a z h1
            · by_cases hj : j = i
              · rw [if_pos hj]; exact (sr a ma).2
              · rw [if_neg hj]
                have ec' : ρ1[j]? = some (some c) := by rw [get_set_ne hj] at ec; exact ec
                rcases (sr a ma).1 with h1 | h1
                · exact R1.dj i j _ c (Ne.symm hj) hwr hw ec' a h1
                · exact fun ma' => R1.domf ec' ma' h1
        · cases hd
end
end PV

set_option Elab.async false
set_option linter.all false
set_option maxRecDepth 100000
set_option maxHeartbeats 1000000
namespace PV
open PySem PySem.Spec PyProof.Rows L2
variable [TN]

theorem no_mem {P : Addr → Prop} : ([] : List Addr).Nodup ∧ ∀ a ∈ ([] : List Addr), P a := ⟨List.nodup_nil, fun a m => nomatch m⟩
/-! ### binary operators -/
def subD : D → D → Option D
  | .int i, .int j => some (.int (i - j))
  | _, _ => none
theorem r2_sub {K : PySem.W.Frag} : R2ok true K (rI0 fun i j => .int (i - j)) subD := by
  intro H x y d e z fx fy Q rx ry h q
  unfold subD at h
  split at h
  · cases h
    cases rx; cases ry
    exact ⟨_, _, rfl, rfl, q _ H [] Same.refl (.int _) fun _ => no_mem⟩
  · cases h
def addI : D → D → Option D
  | .int i, .int j => some (.int (i + j))
  | _, _ => none
theorem r2_addI {K : PySem.W.Frag} : R2ok true K (rI0 fun i j => .int (i + j)) addI := by
  intro H x y d e z fx fy Q rx ry h q
  unfold addI at h
  split at h
  · cases h
    cases rx; cases ry
    exact ⟨_, _, rfl, rfl, q _ H [] Same.refl (.int _) fun _ => no_mem⟩
  · cases h
def addT : D → D → Option D
  | .tuple a, .tuple b => if pureL a = true ∧ pureL b = true ∧ a.length + b.length ≤ 1000000 then some (.tuple (a ++ b)) else none
  | _, _ => none
theorem r2_addT {K : PySem.W.Frag} : R2ok true K (rCatA K) addT := by
  intro H x y d e z fx fy Q rx ry h q
  unfold addT at h
  split at h
  · split at h
    · rename_i a b hc
      obtain ⟨pa, pb, hl⟩ := hc
      cases h
      cases rx with
      | tup h1 z1 r1 =>
        cases ry with
        | tup h2 z2 r2 =>
          rename_i ax xs ay ys
          have ex := RpL.pure _ _ _ r1 pa
          have ey := RpL.pure _ _ _ r2 pb
          subst ex; subst ey
          have l1 := r1.length
          have l2 := r2.length
          have hz : (xs ++ ys).length ≤ sizeLine := by rw [List.length_append, l1, l2]; exact mil_line hl
          have r3 := RpL.append r1 r2
          refine ⟨ax, ay, xs, ys, rfl, rfl, sqt h1, sqt h2, by rw [l1, l2]; exact mil_line hl, fun e => ?_, fun n e => ?_, fun n1 n2 p np => ?_⟩
          · subst e
            cases a with
            | nil => exact q _ H [] Same.refl (.tup h2 z2 r2) fun _ => no_mem
            | cons => cases l1
          · subst e
            cases b with
            | nil =>
              exact q _ H [] Same.refl (by rw [List.append_nil]; exact .tup h1 z1 r1) fun _ => no_mem
            | cons => cases l2
          · exact q _ _ [] (same_upd np) (.tup upd_same hz (r3.same (same_upd np))) fun _ => no_mem
    · cases h
  · cases h
def addL : D → D → Option D
  | .list a, .list b => if pureL a = true ∧ pureL b = true ∧ a.length + b.length ≤ 1000000 then some (.list (a ++ b)) else none
  | _, _ => none
theorem r2_addL {K : PySem.W.Frag} : R2ok true K rCat addL := by
  intro H x y d e z fx fy Q rx ry h q
  unfold addL at h
  split at h
  · split at h
    · rename_i a b hc
      obtain ⟨pa, pb, hl⟩ := hc
      cases h
      cases rx with
      | lst h1 z1 r1 =>
        cases ry with
        | lst h2 z2 r2 =>
          have ex := RpL.pure _ _ _ r1 pa
          have ey := RpL.pure _ _ _ r2 pb
          subst ex; subst ey
          have l1 := r1.length
          have l2 := r2.length
          have r3 := RpL.append r1 r2
          refine ⟨_, _, _, _, rfl, rfl, h1, h2, by rw [l1, l2]; exact mil_line hl, fun p np => ?_⟩
          refine q _ _ [p] (same_upd np) (.lst upd_same (by rw [List.length_append, l1, l2]; exact mil_line hl) (r3.same (same_upd np))) fun _ => ⟨List.nodup_cons.mpr ⟨fun m => (nomatch m), List.nodup_nil⟩, fun a m => ?_⟩
          rcases List.mem_cons.mp m with m | m
          · rw [m]; exact np
          · cases m
    · cases h
  · cases h
theorem abs64 {j : Int} (h : j.natAbs < 18446744073709551616) : -(2 ^ 64) < j ∧ j < 2 ^ 64 := by constructor <;> omega
theorem abs63 {j : Int} (h : j.natAbs ≤ 1000000) : -(2 ^ 63) ≤ j ∧ j < 2 ^ 63 := by constructor <;> omega
def mulI : D → D → Option D
  | .int i, .int j => if i.natAbs < 18446744073709551616 ∨ j.natAbs < 18446744073709551616 then some (.int (i * j)) else none
  | _, _ => none
theorem r2_mulI {K : PySem.W.Frag} : R2ok true K (rI CMul fun i j => .int (i * j)) mulI := by
  intro H x y d e z fx fy Q rx ry h q
  unfold mulI at h
  split at h
  · split at h
    · rename_i hc
      cases h
      cases rx; cases ry
      exact ⟨_, _, rfl, rfl, hc.imp abs64 abs64, q _ H [] Same.refl (.int _) fun _ => no_mem⟩
    · cases h
  · cases h
def fdivI : D → D → Option D
  | .int i, .int j => if 0 < j ∧ j < 1073741824 then some (.int (i / j)) else none
  | _, _ => none
theorem r2_fdivI {K : PySem.W.Frag} : R2ok true K (rI CDiv fun i j => .int (i / j)) fdivI := by
  intro H x y d e z fx fy Q rx ry h q
  unfold fdivI at h
  split at h
  · split at h
    · rename_i hc
      cases h
      cases rx; cases ry
      exact ⟨_, _, rfl, rfl, hc, q _ H [] Same.refl (.int _) fun _ => no_mem⟩
    · cases h
  · cases h
def modI : D → D → Option D
  | .int i, .int j => if 0 < j then some (.int (i % j)) else none
  | _, _ => none
theorem r2_modI {K : PySem.W.Frag} : R2ok true K (rI (fun _ j => 0 < j) fun i j => .int (i % j)) modI := by
  intro H x y d e z fx fy Q rx ry h q
  unfold modI at h
  split at h
  · split at h
    · rename_i hc
      cases h
      cases rx; cases ry
      exact ⟨_, _, rfl, rfl, hc, q _ H [] Same.refl (.int _) fun _ => no_mem⟩
    · cases h
  · cases h
def repL : D → D → Option D
  | .list a, .int k => if pureL a = true ∧ k.natAbs ≤ 1000000 ∧ a.length * k.toNat ≤ 1000000 then some (.list (List.replicate k.toNat a).flatten) else none
  | _, _ => none
theorem RpL.rep {K : PySem.W.Frag} {H : Hp} {ds : List D} {vs : List V} (r : RpL K H vs ds []) : ∀ n : Nat, RpL K H (List.replicate n vs).flatten (List.replicate n ds).flatten []
  | 0 => .nil
  | n + 1 => by
    rw [List.replicate_succ, List.replicate_succ, List.flatten_cons, List.flatten_cons]
    exact RpL.append (fs := []) (fs' := []) r (RpL.rep r n)
theorem len_rep {α : Type} (xs : List α) (n : Nat) : (List.replicate n xs).flatten.length = xs.length * n := by
  simp [Nat.mul_comm]
theorem r2_repL {K : PySem.W.Frag} : R2ok true K rRep repL := by
  intro H x y d e z fx fy Q rx ry h q
  unfold repL at h
  split at h
  · split at h
    · rename_i a k hc
      obtain ⟨pa, h12, hl⟩ := hc
      obtain ⟨h1, h2⟩ := abs63 h12
      cases h
      cases ry
      cases rx with
      | lst ha za r1 =>
        have ex := RpL.pure _ _ _ r1 pa
        subst ex
        have l1 := r1.length
        refine ⟨_, _, _, rfl, rfl, ha, h1, h2, by rw [l1]; exact mil_line hl, fun p np => ?_⟩
        refine q _ _ [p] (same_upd np) (.lst upd_same (by rw [len_rep, l1]; exact mil_line hl) ((r1.rep k.toNat).same (same_upd np))) fun _ => ⟨List.nodup_cons.mpr ⟨fun m => (nomatch m), List.nodup_nil⟩, fun a m => ?_⟩
        rcases List.mem_cons.mp m with m | m
        · rw [m]; exact np
        · cases m
    · cases h
  · cases h
def repT : D → D → Option D
  | .tuple a, .int k => if pureL a = true ∧ a ≠ [] ∧ 2 ≤ k ∧ k ≤ 1000 ∧ a.length ≤ 1000 then some (.tuple (List.replicate k.toNat a).flatten) else none
  | _, _ => none
theorem r2_repT {K : PySem.W.Frag} : R2ok true K (rRepT K) repT := by
  intro H x y d e z fx fy Q rx ry h q
  unfold repT at h
  split at h
  · split at h
    · rename_i a k hc
      obtain ⟨pa, hne, h1, h2, hl⟩ := hc
      cases h
      cases ry
      cases rx with
      | tup ha za r1 =>
        have ex := RpL.pure _ _ _ r1 pa
        subst ex
        have l1 := r1.length
        refine ⟨_, _, _, rfl, rfl, sqt ha, fun z => ?_, h1, h2, by rw [l1]; exact hl, fun p np => ?_⟩
        · subst z
          exact hne (List.length_eq_zero_iff.mp l1.symm)
        · refine q _ _ [] (same_upd np) (.tup upd_same ?_ ((r1.rep k.toNat).same (same_upd np))) fun _ => no_mem
          rw [len_rep, l1]
          have : a.length * k.toNat ≤ 1000 * 1000 := Nat.mul_le_mul hl (by omega)
          exact mil_line (by omega)
    · cases h
  · cases h

/-! ### comparisons -/
def ltI : D → D → Option D
  | .int i, .int j => some (.bool (decide (i < j)))
  | _, _ => none
def leI : D → D → Option D
  | .int i, .int j => some (.bool (decide (i ≤ j)))
  | _, _ => none
def gtI : D → D → Option D
  | .int i, .int j => some (.bool (decide (j < i)))
  | _, _ => none
def geI : D → D → Option D
  | .int i, .int j => some (.bool (decide (j ≤ i)))
  | _, _ => none
theorem r2_cmp {K : PySem.W.Frag} {g : Int → Int → Bool} {fn : D → D → Option D} (h0 : ∀ x y, fn x y = match x, y with | .int i, .int j => some (.bool (g i j)) | _, _ => none) : R2ok true K (rI0 fun i j => .bl (g i j)) fn := by
  intro H x y d e z fx fy Q rx ry h q
  rw [h0] at h
  split at h
  · cases h
    cases rx; cases ry
    exact ⟨_, _, rfl, rfl, q _ H [] Same.refl (.bl _) fun _ => no_mem⟩
  · cases h
theorem r2_ltI {K : PySem.W.Frag} : R2ok true K (rI0 fun i j => .bl (decide (i < j))) ltI := r2_cmp fun x y => by cases x <;> cases y <;> rfl
theorem r2_leI {K : PySem.W.Frag} : R2ok true K (rI0 fun i j => .bl (decide (i ≤ j))) leI := r2_cmp fun x y => by cases x <;> cases y <;> rfl
theorem r2_gtI {K : PySem.W.Frag} : R2ok true K (rI0 fun i j => .bl (decide (j < i))) gtI := r2_cmp fun x y => by cases x <;> cases y <;> rfl
theorem r2_geI {K : PySem.W.Frag} : R2ok true K (rI0 fun i j => .bl (decide (j ≤ i))) geI := r2_cmp fun x y => by cases x <;> cases y <;> rfl
mutual
def noDct : D → Bool
  | .none => true
  | .bool _ => true
  | .int _ => true
  | .str _ => true
  | .list ds => noDctL ds
  | .tuple ds => noDctL ds
  | .dict _ => false
def noDctL : List D → Bool
  | [] => true
  | d :: ds => noDct d && noDctL ds
end
mutual
theorem Rp.dp {K : PySem.W.Frag} {H : Hp} : ∀ (d : D) (v : V) (fp : List Addr), Rp K H v d fp → noDct d = true → Dp K H v d
  | .none, _, _, h, _ => by cases h; exact .non
  | .bool b, _, _, h, _ => by cases h; exact .bl b
  | .int b, _, _, h, _ => by cases h; exact .int b
  | .str b, _, _, h, _ => by cases h; exact .str b
  | .list ds, _, _, h, p => by
    cases h with
    | lst h1 h2 h3 => exact .lst (.inl (.inl h1)) (RpL.dp ds _ _ h3 (by simpa [noDct] using p))
  | .tuple ds, _, _, h, p => by
    cases h with
    | tup h1 h2 h3 => exact .tup (sqt h1) (RpL.dp ds _ _ h3 (by simpa [noDct] using p))
  | .dict _, _, _, h, p => by cases p
theorem RpL.dp {K : PySem.W.Frag} {H : Hp} : ∀ (d : List D) (v : List V) (fp : List Addr), RpL K H v d fp → noDctL d = true → DpAll K H v d
  | [], _, _, h, _ => by cases h; exact .nil
  | d :: ds, _, _, h, p => by
    cases h with
    | cons h1 h2 =>
      simp only [noDctL, Bool.and_eq_true] at p
      exact .cons (Rp.dp d _ _ h1 p.1) (RpL.dp ds _ _ h2 p.2)
end
def okEq (d : D) : Bool := noDct d && SeqAt.shaped d
def eqD (d e : D) : Option D := if okEq d = true ∧ okEq e = true then some (.bool (PyData.eqv d e)) else none
def neD (d e : D) : Option D := if okEq d = true ∧ okEq e = true then some (.bool (!PyData.eqv d e)) else none
theorem r2_eqD {K : PySem.W.Frag} : R2ok true K (rEqD K) eqD := by
  intro H x y d e z fx fy Q rx ry h q
  unfold eqD okEq at h
  split at h
  · rename_i hc
    simp only [Bool.and_eq_true] at hc
    cases h
    exact ⟨d, e, Rp.dp d x fx rx hc.1.1, Rp.dp e y fy ry hc.2.1, hc.1.2, hc.2.2, q _ H [] Same.refl (.bl _) fun _ => no_mem⟩
  · cases h
theorem r2_neD {K : PySem.W.Frag} : R2ok true K (rNeD K) neD := by
  intro H x y d e z fx fy Q rx ry h q
  unfold neD okEq at h
  split at h
  · rename_i hc
    simp only [Bool.and_eq_true] at hc
    cases h
    exact ⟨d, e, Rp.dp d x fx rx hc.1.1, Rp.dp e y fy ry hc.2.1, hc.1.2, hc.2.2, q _ H [] Same.refl (.bl _) fun _ => no_mem⟩
  · cases h
def isNon : D → Bool
  | .none => true
  | _ => false
theorem Rp.non_iff {K : PySem.W.Frag} {H : Hp} {v : V} {d : D} {fp : List Addr} (h : Rp K H v d fp) : decide (v = .non) = isNon d := by
  cases h <;> rfl
def isN (d e : D) : Option D := match e with
  | .none => some (.bool (isNon d))
  | _ => none
def isNotN (d e : D) : Option D := match e with
  | .none => some (.bool (!isNon d))
  | _ => none
theorem r2_isN {K : PySem.W.Frag} : R2ok true K (fun x y H Q => y = .non ∧ Q (.bl (decide (x = .non))) H) isN := by
  intro H x y d e z fx fy Q rx ry h q
  unfold isN at h
  split at h
  · cases h; cases ry
    refine ⟨rfl, ?_⟩
    rw [rx.non_iff]
    exact q _ H [] Same.refl (.bl _) fun _ => no_mem
  · cases h
theorem r2_notN {K : PySem.W.Frag} : R2ok true K (fun x y H Q => y = .non ∧ Q (.bl (!decide (x = .non))) H) isNotN := by
  intro H x y d e z fx fy Q rx ry h q
  unfold isNotN at h
  split at h
  · cases h; cases ry
    refine ⟨rfl, ?_⟩
    rw [rx.non_iff]
    exact q _ H [] Same.refl (.bl _) fun _ => no_mem
  · cases h
def isB (d e : D) : Option D := match d, e with
  | .bool a, .bool b => some (.bool (decide (a = b)))
  | _, _ => none
def isNotB (d e : D) : Option D := match d, e with
  | .bool a, .bool b => some (.bool (!decide (a = b)))
  | _, _ => none
theorem r2_isB {K : PySem.W.Frag} : R2ok true K (fun x y H Q => ∃ a b, x = .bl a ∧ y = .bl b ∧ Q (.bl (decide (a = b))) H) isB := by
  intro H x y d e z fx fy Q rx ry h q
  unfold isB at h
  split at h
  · cases h; cases ry; cases rx
    exact ⟨_, _, rfl, rfl, q _ H [] Same.refl (.bl _) fun _ => no_mem⟩
  · cases h
theorem r2_notB {K : PySem.W.Frag} : R2ok true K (fun x y H Q => ∃ a b, x = .bl a ∧ y = .bl b ∧ Q (.bl (!decide (a = b))) H) isNotB := by
  intro H x y d e z fx fy Q rx ry h q
  unfold isNotB at h
  split at h
  · cases h; cases ry; cases rx
    exact ⟨_, _, rfl, rfl, q _ H [] Same.refl (.bl _) fun _ => no_mem⟩
  · cases h
/-! ### subscripts -/
def ixD : D → D → Option D
  | .list ds, .int k => atI ds k
  | .tuple ds, .int k => atI ds k
  | _, _ => none
theorem ixN_lt {n : Nat} {k : Int} {j : Nat} (h : ixN n k = some j) : j < n := (ixN_seq h).2.1
theorem RpL.at {K : PySem.W.Frag} {H : Hp} {ds : List D} {vs : List V} {fs : List Addr} (r : RpL K H vs ds fs) {k : Int} {d : D} (h : atI ds k = some d) : ∃ v f, atI vs k = some v ∧ Rp K H v d f ∧ ∀ a ∈ f, a ∈ fs := by
  unfold atI at h ⊢
  cases e : ixN ds.length k with
  | none => rw [e] at h; cases h
  | some j =>
    rw [e] at h
    obtain ⟨v, f, e1, r1, m⟩ := r.get (show ds[j]? = some d from h)
    exact ⟨v, f, by rw [r.length, e]; exact e1, r1, m⟩
theorem r2_ix {K : PySem.W.Frag} : R2ok false K (fun x y H Q => rIxL K x y H Q ∨ rIxT K x y H Q) ixD := by
  intro H x y d e z fx fy Q rx ry h q
  unfold ixD at h
  split at h
  · cases ry
    cases rx with
    | lst h1 h2 h3 =>
      obtain ⟨v, f, e1, r1, _⟩ := h3.at h
      exact .inl ⟨_, _, _, v, rfl, rfl, .inl (.inl h1), e1, q v H f Same.refl r1 fun z => nomatch z⟩
  · cases ry
    cases rx with
    | tup h1 h2 h3 =>
      obtain ⟨v, f, e1, r1, _⟩ := h3.at h
      exact .inr ⟨_, _, _, v, rfl, rfl, sqt h1, e1, q v H f Same.refl r1 fun z => nomatch z⟩
  · cases h
section
variable {X : Cx} {pos : Pos} {a b : Expr} {fa fb : Bool} {h1 h2 : Rh → Option D} {g1 g2 : Rh → Option (D × Rh)}
theorem ep_ix (ha : EP fa X a h1) (hb : EP fb X b h2) (hs : PlainIx b) : EP false X (.Subscript a b pos) (o2 ixD h1 h2) := ep_op2 (fun pa pb => pe_ix (ix_list.or ix_tup) pa pb hs) r2_ix ha hb
theorem ep_bin {fr : Bool} {op : Operator} {r : R2} {fn : D → D → Option D} (ho : OpR X (binaryOp op) r) (hr : R2ok fr X.K r fn) (ha : EP fa X a h1) (hb : EP fb X b h2) : EP fr X (.BinOp a op b pos) (o2 fn h1 h2) := ep_op2 (fun pa pb => pe_op ho pa pb) hr ha hb
theorem ev_bin {op : Operator} {r : R2} {fn : D → D → Option D} (ho : OpR X (binaryOp op) r) (hr : R2ok true X.K r fn) (ha : EV X a g1) (hb : EV X b g2) : EV X (.BinOp a op b pos) (v2 fn g1 g2) := ev_op2 (fun pa pb => pe_op ho pa pb) hr ha hb
theorem ep_cmp {fr : Bool} {op : CmpOp} {r : R2} {fn : D → D → Option D} (ho : OpR X (compareOp op) r) (hr : R2ok fr X.K r fn) (ha : EP fa X a h1) (hb : EP fb X b h2) (hm : behindInMarks op b = false) : EP fr X (.Compare a [op] [b] pos) (o2 fn h1 h2) := ep_op2 (fun pa pb => pe_cmpR ho pa pb hm) hr ha hb
theorem ev_cmp {op : CmpOp} {r : R2} {fn : D → D → Option D} (ho : OpR X (compareOp op) r) (hr : R2ok true X.K r fn) (ha : EV X a g1) (hb : EV X b g2) (hm : behindInMarks op b = false) : EV X (.Compare a [op] [b] pos) (v2 fn g1 g2) := ev_op2 (fun pa pb => pe_cmpR ho pa pb hm) hr ha hb
end
/-! ### calls of built-ins by values -/
def RNok (fr : Bool) (K : PySem.W.Frag) (r : List V → Hp → VK → Prop) (fn : List D → Option D) : Prop :=
  ∀ H xs ds z fs (Q : VK), RpL K H xs ds fs → fn ds = some z → (∀ v H' fp, Same H H' → Rp K H' v z fp → (fr = true → fp.Nodup ∧ ∀ a ∈ fp, H a = none) → Q v H') → r xs H Q
def fnE (fn : List D → Option D) (h : Rh → Option (List D)) : Rh → Option D := fun ρ => match h ρ with
  | some ds => fn ds
  | none => none
def fnV (fn : List D → Option D) (g : Rh → Option (List D × Rh)) : Rh → Option (D × Rh) := fun ρ => match g ρ with
  | some (ds, ρ') => (fn ds).map fun d => (d, ρ')
  | none => none
section
variable {X : Cx} {pos : Pos} {e : Expr} {es : List Expr} {r : List V → Hp → VK → Prop} {fn : List D → Option D}
theorem ep_cb {fr fa : Bool} {h : Rh → Option (List D)} (pe : ∀ {t : TA}, PA X es t → PE X e (tCB r t)) (hr : RNok fr X.K r fn) (ha : AP fa X es h) : EP fr X e (fnE fn h) := by
  obtain ⟨t, pa, hq⟩ := ha
  refine ⟨_, pe pa, fun ρ σ H d Q R hd q => ?_⟩
  unfold fnE at hd
  split at hd
  · rename_i ds e1
    refine hq ρ σ H ds _ R e1 fun vs H1 fs s r1 _ => ?_
    exact hr H1 vs ds d fs Q r1 hd fun v H' fp s2 rv n => q v H' fp (same_trans s s2) rv fun z => ⟨(n z).1, fun a m => Same.new s ((n z).2 a m)⟩
  · cases hd
theorem ev_cb {g : Rh → Option (List D × Rh)} (pe : ∀ {t : TA}, PA X es t → PE X e (tCB r t)) (hr : RNok true X.K r fn) (ha : AV X es g) : EV X e (fnV fn g) := by
  obtain ⟨t, pa, hq⟩ := ha
  refine ⟨_, pe pa, fun F L ρ σ H f d ρ' Q R hd q => ?_⟩
  unfold fnV at hd
  split at hd
  · rename_i ds ρ1 e1
    cases e2 : fn ds with
    | none => rw [e2] at hd; cases hd
    | some z =>
      rw [e2] at hd; cases hd
      refine hq F L ρ σ H f ds ρ' _ R e1 fun vs H1 f1 fs R1 fr k1 => ?_
      exact hr H1 vs ds d fs Q fr.rp e2 fun v H' fp s2 rv n => q v H' f1 fp (R1.same s2) (R1.fresh s2 rv (n rfl).1 (n rfl).2) (k1.trans (Keep.of_same s2))
  · cases hd
end
def lenF : List D → Option D
  | [.list ds] => some (.int ds.length)
  | [.tuple ds] => some (.int ds.length)
  | _ => none
theorem rn_len {K : PySem.W.Frag} : RNok true K (fun xs H Q => ∃ p ys, xs = [.ref p] ∧ (SqL K H p ys ∨ SqT K H p ys) ∧ Q (.int ys.length) H) lenF := by
  intro H xs ds z fs Q r h q
  unfold lenF at h
  split at h
  · cases h
    cases r with
    | cons r1 r2 =>
      cases r2
      cases r1 with
      | lst h1 h2 h3 => exact ⟨_, _, rfl, .inl (.inl (.inl h1)), q _ H [] Same.refl (by rw [h3.length]; exact .int _) fun _ => no_mem⟩
  · cases h
    cases r with
    | cons r1 r2 =>
      cases r2
      cases r1 with
      | tup h1 h2 h3 => exact ⟨_, _, rfl, .inr (sqt h1), q _ H [] Same.refl (by rw [h3.length]; exact .int _) fun _ => no_mem⟩
  · cases h
def intF : List D → Option D
  | [.int i] => some (.int i)
  | [.bool b] => some (.int (if b then 1 else 0))
  | _ => none
end PV

set_option Elab.async false
set_option linter.all false
set_option maxRecDepth 100000
set_option maxHeartbeats 2000000
namespace PV
open PySem PySem.Spec PyProof.Rows L2
variable [TN]

/-! ### enumerate of a tuple -/
theorem meets_enumT (q : Addr) (items : Array Value) (n : Nat) (od : Option Addr) (sl : Array (Option Value)) :
    Meets (Builtin.«enumerate.__new__» ⟨[.type "enumerate", .ref q], []⟩) (fun _ R s => s.heap.get? q = some { cls := .type "tuple", dict := od, data := .seq items n, slots := sl } ∧
      R (.ok (.ret (.ref (s.heap.push { cls := .type "tuple_iterator", data := .fields #[.ref q, .int 0 0] }).objs.size)))
        { s with heap := (s.heap.push { cls := .type "tuple_iterator", data := .fields #[.ref q, .int 0 0] }).push { cls := .type "enumerate", data := .fields #[.none, .bool false, .ref s.heap.objs.size, rawInt 0, .none, .none] } }) :=
  .of_wp fun prog w A R s h => by
    obtain ⟨hp, gs, dd, tk, os⟩ := s
    obtain ⟨hT, h⟩ := h
    have hse := sub_enumerate
    have hI : Heap.IsTuple (Shared.heap ⟨hp, gs, dd, tk, os⟩) q items := ⟨_, hT, rfl, n, rfl⟩
    wp_walk using AutoSeq1.wpAny_loadPart' hT
    refine wpAny_stack_any fun stk => wpAny_pure ?_
    split
    · rename_i c _ _ _ _ _
      cases (c == Value.type "enumerate")
      · wp_walk using AutoSeq1.wpAny_loadPart' hT, wpAny_pyIter_tuple hI
        exact ⟨_, rfl, h⟩
      · wp_walk using AutoSeq1.wpAny_loadPart' hT, wpAny_pyIter_tuple hI
        exact ⟨_, rfl, h⟩
    · wp_walk using AutoSeq1.wpAny_loadPart' hT, wpAny_pyIter_tuple hI
      exact ⟨_, rfl, h⟩
theorem call_enumT {prog : Program} {w : World} {A : Around} {E : Value → Shared → Prop} {s : Shared} {q : Addr} {items : Array Value} {Q : Value → Shared → Prop} (hT : IsTup s.heap q items)
    (h : ∀ h', IsEnum h' (s.heap.objs.size + 1) s.heap.objs.size 0 .none → h'.IsTupleIter s.heap.objs.size q 0 → (∀ b o, s.heap.get? b = some o → h'.get? b = some o) → Q (.ref (s.heap.objs.size + 1)) { s with heap := h' }) :
    wpAny (model prog w) A (call (.type "enumerate") [.ref q]) Q E s := by
  obtain ⟨⟨c, od, dt, sl⟩, ht, hc, n, hd⟩ := hT
  replace hc : c = .type "tuple" := hc
  replace hd : dt = .seq items n := hd
  subst hc hd
  refine callType_new F.called_enumerate (by decide) (F.typeCall_enumerate_1 _) (F.newCall_enumerate_1 _) (fun ob => F.args_object_init_2 ob _) F.entry_enumerate_new
    (meets_enumT q items n od sl) ⟨ht, ?_⟩
  have hsz : (s.heap.push { cls := .type "tuple_iterator", data := .fields #[.ref q, .int 0 0] }).objs.size = s.heap.objs.size + 1 := Heap.size_push ..
  show _ ∧ _
  rw [hsz]
  have hE : IsEnum ((s.heap.push { cls := .type "tuple_iterator", data := .fields #[.ref q, .int 0 0] }).push
      { cls := .type "enumerate", data := .fields #[.none, .bool false, .ref s.heap.objs.size, rawInt 0, .none, .none] }) (s.heap.objs.size + 1) s.heap.objs.size 0 .none := by
    have gp := Heap.get?_push_size (s.heap.push { cls := .type "tuple_iterator", data := .fields #[.ref q, .int 0 0] })
      (o := { cls := .type "enumerate", data := .fields #[.none, .bool false, .ref s.heap.objs.size, rawInt 0, .none, .none] }) rfl
    rw [hsz] at gp
    exact gp
  exact ⟨⟨_, hE, rfl⟩, h _ hE ⟨_, Heap.get?_push_of_some _ (Heap.get?_push_size _ rfl), rfl, rfl⟩ fun b o x => Heap.get?_push_of_some _ (Heap.get?_push_of_some _ x)⟩
/-- the tuple at a, item by item, in new pairs with their numbers -/
def IteT (K : PySem.W.Frag) (a : Addr) : It :=
  ⟨fun i H => ∃ (xs : List V) (x : V), SqT K H a xs ∧ xs[i]? = some x,
    fun i H v H' => ∃ T x, v = .ref T ∧ H T = none ∧ H' = upd H T (.tup [.int (i : Nat), x]) ∧ ∀ xs, SqT K H a xs → xs[i]? = some x,
    fun i H => ∃ xs : List V, SqT K H a xs ∧ xs.length = i⟩
theorem turn_enumT {P : Program} {w : World} {K : PySem.W.Frag} {elts : List Expr} {kk : Nat} {tpos : Pos} (a e it : Addr) :
    Turn P w K (.Tuple elts kk tpos) (IteT K a) [e, it] e (fun i h => (∃ old, IsEnum h e it ((i : Nat) : Int) old) ∧ h.IsTupleIter it a i ∧ e ≠ it ∧ a ≠ it ∧ e ≠ a) where
  mem := List.mem_cons_self
  obj := fun i h st b hb => by
    obtain ⟨⟨old, hE⟩, ⟨ob, eb, cb, db⟩, _⟩ := st
    rcases List.mem_cons.mp hb with z | z
    · rw [z]; exact ⟨_, hE, fun v q => nomatch q⟩
    · rcases List.mem_cons.mp z with z | z
      · rw [z]; exact ⟨ob, eb, fun v q => by rw [db] at q; cases q⟩
      · cases z
  keep := fun i h h' st k => by
    obtain ⟨⟨old, hE⟩, hI, n1, n2, n3⟩ := st
    exact ⟨⟨old, k e (by simp) _ hE⟩, hI.at fun o q => k it (by simp) o q, n1, n2, n3⟩
  item := by
    intro X eP eW eK hc i pins s σ H E I hf st hg
    subst eP eW eK
    obtain ⟨⟨old, hE⟩, hI, n1, n2, n3⟩ := st
    obtain ⟨xs, x, hq, hx⟩ := hg
    obtain ⟨its, rv, tp, hz⟩ := I.tuple hq
    have hil : i < its.toArray.size := by
      have := (List.getElem?_eq_some_iff.mp hx).1
      rw [List.size_toArray, ← rv.length]; exact this
    obtain ⟨u, hu, ru⟩ := rv.get hx
    have hel : e < s.heap.objs.size := Heap.lt_size hE
    have hitl : it < s.heap.objs.size := by obtain ⟨_, q, _⟩ := hI; exact Heap.lt_size q
    have hal : a < s.heap.objs.size := tp.lt
    refine wpAny_pyNext_enum_itemD (Draws.tuple (prog := X.prog) (w := X.w) (A := X.A.in1) (show X.A.in1.handled = none from I.ok.hd hc) it a n2 its.toArray) hE ⟨hI, show s.heap.IsTuple a its.toArray from tp⟩ hil n1 (by simp; exact ⟨n1, n3⟩) fun y h' tk py ho st' hT hsz hk => ?_
    have ey : y = u := by
      have hu' : its.toArray[i]? = some u := by simpa using hu
      rw [hu'] at py; exact (Option.some.inj py).symm
    subst ey
    refine ⟨_, rfl, wpAny_letOwnedTupleGo_enum (s := { s with heap := h', toks := tk + 1 }) ho fun h'' hE' sb => ?_⟩
    have hT2 : h''.get? s.heap.objs.size = some { cls := .type "tuple", data := .seq #[.int i tk, y] } := (sb.2 _ (Nat.ne_of_gt hel)).trans hT
    have new : ObjOk X.prog X.w (upd H s.heap.objs.size (.tup [.int (i : Nat), x])) h'' s.heap.objs.size (.tup [.int (i : Nat), x]) :=
      ⟨(by show 2 ≤ sizeLine; decide), [.int i tk, y], .cons ⟨_, rfl⟩ (.cons ru .nil), ⟨_, hT2, rfl, _, rfl⟩⟩
    have I1 : Inv X pins σ (upd H s.heap.objs.size (.tup [.int (i : Nat), x])) { s with heap := h'', toks := tk + 1 } :=
      I.turnedNew (ch := [e, it]) (fun b ob hb q => (sb.2 b (fun z => hb (by simp [z]))).trans (hk b ob (fun z => hb (by simp [z])) (fun z => hb (by simp [z])) q)) hf (Nat.le_refl _) new
    refine ⟨.ref s.heap.objs.size, _, I1, rfl, ⟨_, x, rfl, I.hok.fresh (Nat.le_refl _), rfl, fun ys hy => by rw [I.tuple_inj hy hq]; exact hx⟩, ⟨⟨y, ?_⟩, st'.1.at fun o q => (sb.2 it (Ne.symm n1)).trans q, n1, n2, n3⟩, fun b hb => ?_⟩
    · have e1 : ((i + 1 : Nat) : Int) = (i : Int) + 1 := by omega
      rw [e1]; exact hE'
    · have hlt : b < s.heap.objs.size := by
        rcases List.mem_cons.mp hb with z | z
        · rw [z]; exact hel
        · rcases List.mem_cons.mp z with z | z
          · rw [z]; exact hitl
          · cases z
      rw [upd_ne (Nat.ne_of_lt hlt)]
      exact (hf b hb).1
  done := by
    intro X eP eW eK hc i pins s σ H E I hf st hg
    subst eP eW eK
    obtain ⟨⟨old, hE⟩, hI, n1, n2, n3⟩ := st
    obtain ⟨xs, hq, hx⟩ := hg
    obtain ⟨its, rv, tp, hz⟩ := I.tuple hq
    have hl : i = its.toArray.size := by rw [List.size_toArray, ← rv.length]; exact hx.symm
    obtain ⟨f0, f1, f2, f3, f4, f5⟩ := hf it (by simp)
    subst hl
    exact wpAny_pyNext_enum_endD (Draws.tuple (prog := X.prog) (w := X.w) (A := X.A.in1) (show X.A.in1.handled = none from I.ok.hd hc) it a n2 its.toArray) hE ⟨hI, show s.heap.IsTuple a its.toArray from tp⟩
      fun h' eb => ⟨rfl, I.turned (t' := s.toks) (fun b o hb q => eb b o hb q) f0 f1 f3 f4 f5⟩
  self := fun A i s Q E st h => let ⟨⟨_, hE⟩, _⟩ := st; wpAny_pyIter_enum hE h

def iEnumA (K : PySem.W.Frag) (ta : TA) : TI := fun σ H R => ta σ H fun vs H1 => ∃ a xs, vs = [.ref a] ∧ ((SqL K H1 a xs ∧ R (Ite K a) H1) ∨ (SqT K H1 a xs ∧ R (IteT K a) H1))
section
variable {X : Cx} {tg e : Expr} {ta : TA} {p pos tpos : Pos} {elts : List Expr} {kk : Nat}
theorem pi_enumA (hg : Gl X "enumerate") (hm : X.mg "enumerate" = none) (ha : PA X [e] ta) (hs : starEach [e] X.env = [(false, eval e X.env)] := by rfl) :
    PI X (.Tuple elts kk tpos) (.Call (.Name "enumerate" p) [e] [] pos) (iEnumA X.K ta) := by
  refine ⟨fun pins s σ H R I hh => ?_⟩
  refine Call_ (ld_blt I hg hm boot_enumerate (PyProof.Rows.callWith_type1 (thn (ha.run pos pins s σ H _ I hh) fun us s1 ⟨vs, H1, I1, r1, q1⟩ => ?_) hs rfl))
  obtain ⟨a, xs, ex, q1⟩ := q1
  subst ex
  cases r1 with
  | cons r rr =>
    cases rr
    cases r
    have two : ∀ b ∈ [s1.heap.objs.size + 1, s1.heap.objs.size], FpOk X pins H1 b := fun b hb => by
      have hle : s1.heap.objs.size ≤ b := by
        rcases List.mem_cons.mp hb with z | z
        · rw [z]; exact Nat.le_add_right _ _
        · rcases List.mem_cons.mp z with z | z
          · rw [z]; exact Nat.le_refl _
          · cases z
      exact I1.fpOk hle (I1.hok.fresh hle)
    rcases q1 with ⟨hq, q⟩ | ⟨hq, q⟩
    · obtain ⟨its, rv, pl, hz⟩ := I1.list hq
      exact call_enumerate_list pl.isList fun h' he hit hsz hk => wpAny_pyIter_enum he ⟨s1.heap.objs.size + 1, [s1.heap.objs.size + 1, s1.heap.objs.size], _, _, H1, rfl, I1.kept (t' := s1.toks) hk, turn_enum a _ _, ⟨⟨.none, he⟩, hit, Nat.succ_ne_self _⟩, two, q⟩
    · obtain ⟨its, rv, tp, hz⟩ := I1.tuple hq
      exact call_enumT tp fun h' he hit hk => wpAny_pyIter_enum he ⟨s1.heap.objs.size + 1, [s1.heap.objs.size + 1, s1.heap.objs.size], _, _, H1, rfl, I1.kept (t' := s1.toks) hk, turn_enumT a _ _,
        ⟨⟨.none, he⟩, hit, Nat.succ_ne_self _, Nat.ne_of_lt tp.lt, Nat.ne_of_gt (Nat.lt_succ_of_lt tp.lt)⟩, two, q⟩
/-- a list or a tuple walked -/
def iSeq (K : PySem.W.Frag) (tl : TE) : TI := fun σ H R => tl σ H fun x H1 => ∃ a xs, x = .ref a ∧ ((SqL K H1 a xs ∧ R (Itl K a) H1) ∨ (SqT K H1 a xs ∧ R (Itt K a) H1))
theorem pi_seq {l : Expr} {tl : TE} (hl : PE X l tl) : PI X tg l (iSeq X.K tl) := by
  refine ⟨fun pins s σ H R I hh => ?_⟩
  refine thn (hl.run pins s σ H _ I hh) fun v s1 ⟨x, H1, I1, r1, q1⟩ => ?_
  obtain ⟨a, xs, e, q1⟩ := q1
  subst e
  cases r1
  have one : ∀ b ∈ [s1.heap.objs.size], FpOk X pins H1 b := fun b hb => by
    rw [List.mem_singleton.mp hb]
    exact I1.fpOk (Nat.le_refl _) (I1.hok.fresh (Nat.le_refl _))
  rcases q1 with ⟨hq, q⟩ | ⟨hq, q⟩
  · obtain ⟨its, rv, pl, hz⟩ := I1.list hq
    exact wpAny_pyIter_list pl.isList ⟨s1.heap.objs.size, [s1.heap.objs.size], _, _, H1, rfl, I1.kept (t' := s1.toks) fun b o e => Heap.get?_push_of_some _ e, turn_list a _, ⟨_, Heap.get?_push_size _ rfl, rfl, rfl⟩, one, q⟩
  · obtain ⟨its, rv, tp, hz⟩ := I1.tuple hq
    exact wpAny_pyIter_tuple (show s1.heap.IsTuple a its.toArray from tp) ⟨s1.heap.objs.size, [s1.heap.objs.size], _, _, H1, rfl, I1.kept (t' := s1.toks) fun b o e => Heap.get?_push_of_some _ e, turn_tuple a _, ⟨_, Heap.get?_push_size _ rfl, rfl, rfl⟩, one, q⟩
end
section
variable {K : PySem.W.Frag} {a b : Addr} {xs ys : List V}
theorem walk_enumT : Walk (IteT K a) xs.length (fun H => SqT K H a xs) (YPair (fun i => some (.int (i : Nat))) (fun i => xs[i]?)) := by
  refine ⟨fun i _ hi q => ⟨xs, xs[i], q, by simp [hi]⟩, fun _ q => ⟨xs, q, rfl⟩, fun i H v H' _ q y => ?_⟩
  obtain ⟨T, x, h1, h2, h3, h4⟩ := y
  exact ⟨T, .int (i : Nat), x, h1, h2, h3, rfl, h4 xs q⟩
theorem walk_zipT {n : Nat} (hn : n = min xs.length ys.length) : Walk (RZ.ItzT K a b) n (fun H => SqT K H a xs ∧ SqT K H b ys) (YPair (fun i => xs[i]?) (fun i => ys[i]?)) := by
  subst hn
  refine ⟨fun i _ hi q => ?_, fun _ q => ⟨xs, ys, q.1, q.2, by omega⟩, fun i H v H' _ q y => ?_⟩
  · have h1 : i < xs.length := by omega
    have h2 : i < ys.length := by omega
    exact ⟨xs, ys, xs[i], ys[i], q.1, q.2, by simp [h1], by simp [h2]⟩
  · obtain ⟨T, x, z, h1, h2, h3, h4, h5⟩ := y
    exact ⟨T, x, z, h1, h2, h3, h4 xs q.1, h5 ys q.2⟩
end

/-! ### walks of data -/
theorem keepS_same {S : List Addr} {H H' : Hp} (h : Same H H') : Keep (fun a => a ∈ S) H H' := Keep.of_same h
theorem sqL_keep {K : PySem.W.Frag} {F : Addr → Prop} {H H' : Hp} {a : Addr} {xs : List V} (h : H a = some (.lst xs)) (k : Keep F H H') (hF : F a) : SqL K H' a xs := .inl (.inl (k.at_ _ _ h (.inl hF) trivial))
/-- the items of a list or tuple -/
theorem wk_items {K : PySem.W.Frag} {H1 H2 : Hp} {ds : List D} {vs : List V} {fs S : List Addr} (r : RpL K H1 vs ds fs) (hS : ∀ a ∈ fs, a ∈ S) (k : Keep (fun a => a ∈ S) H1 H2) {i : Nat} {x : V} (e : vs[i]? = some x) : ∃ d fp, ds[i]? = some d ∧ Rp K H2 x d fp ∧ ∀ a ∈ fp, a ∈ S := by
  obtain ⟨d, f, e1, r1, m⟩ := r.getV e
  exact ⟨d, f, e1, Rp.keep k _ _ _ r1 fun a ha => hS a (m a ha), fun a ha => hS a (m a ha)⟩
theorem wkOk_list {K : PySem.W.Frag} {H1 : Hp} {a : Addr} {ds : List D} {vs : List V} {fs : List Addr} (h : H1 a = some (.lst vs)) (r : RpL K H1 vs ds fs) : WkOk K H1 (Itl K a) ds (a :: fs) := by
  refine ⟨⟨_, _, by rw [← r.length]; exact walk_list, .inl (.inl h), fun H2 k => sqL_keep h k List.mem_cons_self, fun i H2 x H3 hi k y => ?_⟩, fun b m => ?_⟩
  · obtain ⟨rfl, e⟩ := y
    exact ⟨Same.refl, wk_items r (fun b m => List.mem_cons_of_mem _ m) k e⟩
  · rcases List.mem_cons.mp m with m | m
    · rw [m, h]; exact fun z => nomatch z
    · exact r.dom m
theorem wkOk_tup {K : PySem.W.Frag} {H1 : Hp} {a : Addr} {ds : List D} {vs : List V} {fs : List Addr} (h : SqT K H1 a vs) (r : RpL K H1 vs ds fs) : WkOk K H1 (Itt K a) ds fs := by
  refine ⟨⟨_, _, by rw [← r.length]; exact walk_tup, h, fun H2 k => sqT_keep h k, fun i H2 x H3 hi k y => ?_⟩, fun b m => r.dom m⟩
  obtain ⟨rfl, e⟩ := y
  exact ⟨Same.refl, wk_items r (fun b m => m) k e⟩
def seqD : D → Option (List D)
  | .list ds => some ds
  | .tuple ds => some ds
  | _ => none
/-- what a value's lists are: new, or below the slots bs -/
def EPb (X : Cx) (e : Expr) (bs : List Nat) (h : Rh → Option D) : Prop :=
  ∃ t : TE, PE X e t ∧ ∀ (ρ : Rh) (σ : L2.St) (H : Hp) (f : Nat → List Addr) (d : D) (Q : VK), RhF X.K ρ σ H f → h ρ = some d →
    (∀ v H' fp, Same H H' → Rp X.K H' v d fp → (∀ a ∈ fp, H a = none ∨ ∃ i ∈ bs, ∃ c, ρ[i]? = some (some c) ∧ a ∈ f i) → Q v H') → t σ H Q
section
variable {X : Cx} {tg e : Expr} {p pos tpos : Pos} {elts : List Expr} {kk : Nat} {bs : List Nat} {h : Rh → Option D}
theorem EPb.of (pe : EP true X e h) : EPb X e [] h := by
  obtain ⟨t, pe, hq⟩ := pe
  exact ⟨t, pe, fun ρ σ H f d Q R hd q => hq ρ σ H d Q R.rd hd fun v H' fp s r n => q v H' fp s r fun a m => .inl ((n rfl).2 a m)⟩
theorem epb_var {i : Nat} (pe : PE X e (tVar i)) : EPb X e [i] (getS i) := by
  refine ⟨_, pe, fun ρ σ H f d Q R hd q => ?_⟩
  obtain ⟨c, ec, rfl⟩ := getS_some hd
  obtain ⟨v, ev, r⟩ := R.rp i c ec
  exact ⟨v, ev, q v H (f i) Same.refl r fun a m => .inr ⟨i, List.mem_singleton.mpr rfl, c, ec, m⟩⟩
theorem ip_seq (he : EPb X e bs h) : IP X tg e bs (fun ρ => (h ρ).bind seqD) := by
  obtain ⟨t, pe, hq⟩ := he
  refine ⟨_, pi_seq pe, fun ρ σ H f ds R Rf hd q => ?_⟩
  cases e1 : h ρ with
  | none => simp [e1] at hd
  | some d =>
    simp only [e1, Option.bind_some] at hd
    refine hq ρ σ H f d _ Rf e1 fun v H1 fp s r hfp => ?_
    cases r with
    | lst h1 h2 h3 => cases hd; exact ⟨_, _, rfl, .inl ⟨.inl (.inl h1), q _ _ _ s (wkOk_list h1 h3) hfp⟩⟩
    | tup h1 h2 h3 => cases hd; exact ⟨_, _, rfl, .inr ⟨sqt h1, q _ _ _ s (wkOk_tup (sqt h1) h3) hfp⟩⟩
    | _ => cases hd
/-- numbered items -/
def enumD (ds : List D) : List D := ds.mapIdx fun i d => .tuple [.int i, d]
theorem enumD_len (ds : List D) : (enumD ds).length = ds.length := by simp [enumD]
theorem pair_rp {K : PySem.W.Frag} {H : Hp} {T : Addr} {x y : V} {d d' : D} {f f' : List Addr} (n : H T = none) (r1 : Rp K H x d f) (r2 : Rp K H y d' f') : Rp K (upd H T (.tup [x, y])) (.ref T) (.tuple [d, d']) (f ++ (f' ++ [])) :=
  .tup upd_same (by show 2 ≤ sizeLine; decide) (.cons (r1.same (same_upd n)) (.cons (r2.same (same_upd n)) .nil))
theorem wkOk_enum {K : PySem.W.Frag} {H1 : Hp} {a : Addr} {ds : List D} {vs : List V} {fs : List Addr} (h : H1 a = some (.lst vs)) (r : RpL K H1 vs ds fs) : WkOk K H1 (Ite K a) (enumD ds) (a :: fs) := by
  refine ⟨⟨_, _, by rw [enumD_len, ← r.length]; exact walk_enum, .inl (.inl h), fun H2 k => sqL_keep h k List.mem_cons_self, fun i H2 x H3 hi k y => ?_⟩, fun b m => ?_⟩
  · obtain ⟨T, x1, x2, rfl, nT, rfl, e1, e2⟩ := y
    cases e1
    obtain ⟨d, fp, ed, rd, m⟩ := wk_items r (fun b m => List.mem_cons_of_mem _ m) k e2
    exact ⟨same_upd nT, .tuple [.int i, d], _, by simp [enumD, ed], pair_rp nT (.int _) rd, fun b hb => by simp at hb; exact m b hb⟩
  · rcases List.mem_cons.mp m with m | m
    · rw [m, h]; exact fun z => nomatch z
    · exact r.dom m
theorem wkOk_enumT {K : PySem.W.Frag} {H1 : Hp} {a : Addr} {ds : List D} {vs : List V} {fs : List Addr} (h : SqT K H1 a vs) (r : RpL K H1 vs ds fs) : WkOk K H1 (IteT K a) (enumD ds) fs := by
  refine ⟨⟨_, _, by rw [enumD_len, ← r.length]; exact walk_enumT, h, fun H2 k => sqT_keep h k, fun i H2 x H3 hi k y => ?_⟩, fun b m => r.dom m⟩
  obtain ⟨T, x1, x2, rfl, nT, rfl, e1, e2⟩ := y
  cases e1
  obtain ⟨d, fp, ed, rd, m⟩ := wk_items r (fun b m => m) k e2
  exact ⟨same_upd nT, .tuple [.int i, d], _, by simp [enumD, ed], pair_rp nT (.int _) rd, fun b hb => by simp at hb; exact m b hb⟩
theorem ip_enum (hg : Gl X "enumerate") (hm : X.mg "enumerate" = none) (he : EPb X e bs h) (hs : starEach [e] X.env = [(false, eval e X.env)] := by rfl) (hst : starEach [e] X.env = (false, eval e X.env) :: starEach [] X.env := by rfl) :
    IP X (.Tuple elts kk tpos) (.Call (.Name "enumerate" p) [e] [] pos) bs (fun ρ => ((h ρ).bind seqD).map enumD) := by
  obtain ⟨t, pe, hq⟩ := he
  refine ⟨_, pi_enumA hg hm (pa_cons pe pa_nil hst) hs, fun ρ σ H f ds R Rf hd q => ?_⟩
  cases e1 : h ρ with
  | none => simp [e1] at hd
  | some d =>
    simp only [e1, Option.bind_some] at hd
    refine hq ρ σ H f d _ Rf e1 fun v H1 fp s r hfp => ?_
    cases r with
    | lst h1 h2 h3 => cases hd; exact ⟨_, _, rfl, .inl ⟨.inl (.inl h1), q _ _ _ s (wkOk_enum h1 h3) hfp⟩⟩
    | tup h1 h2 h3 => cases hd; exact ⟨_, _, rfl, .inr ⟨sqt h1, q _ _ _ s (wkOk_enumT (sqt h1) h3) hfp⟩⟩
    | _ => cases hd
end
/-! ### ranges -/
def rangeD (lo : Int) (n : Nat) : List D := (List.range n).map fun (i : Nat) => .int (lo + i)
theorem rangeD_len (lo : Int) (n : Nat) : (rangeD lo n).length = n := by simp [rangeD]
theorem wkOk_range {K : PySem.W.Frag} {H1 : Hp} {lo : Int} {n : Nat} : WkOk K H1 (Itr lo n) (rangeD lo n) [] := by
  refine ⟨⟨_, _, by rw [rangeD_len]; exact walk_range, trivial, fun _ _ => trivial, fun i H2 x H3 hi k y => ?_⟩, fun b m => nomatch m⟩
  obtain ⟨rfl, rfl⟩ := y
  rw [rangeD_len] at hi
  exact ⟨Same.refl, _, [], by simp [rangeD, hi], .int _, fun a m => nomatch m⟩
theorem abs62 {j : Int} (h : j.natAbs ≤ 1000000) : -(2 ^ 62) ≤ j ∧ j < 2 ^ 62 := by constructor <;> omega
def rng1 : List D → Option (List D)
  | [.int j] => if j.natAbs ≤ 1000000 then some (rangeD 0 j.toNat) else none
  | _ => none
def rng2 : List D → Option (List D)
  | [.int i, .int j] => if i.natAbs ≤ 1000000 ∧ j.natAbs ≤ 1000000 then some (rangeD i (j - i).toNat) else none
  | _ => none
section
variable {X : Cx} {tg a b c : Expr} {p pos : Pos} {fr : Bool} {h : Rh → Option (List D)} {g : Rh → Option (List D × Rh)}
theorem ip_range1 (hg : Gl X "range") (hm : X.mg "range" = none) (ha : AP fr X [a] h) (hs : starEach [a] X.env = [(false, eval a X.env)] := by rfl) : IP X tg (.Call (.Name "range" p) [a] [] pos) [] (fun ρ => (h ρ).bind rng1) := by
  obtain ⟨t, pe, hq⟩ := ha
  refine ⟨_, pi_range1 hg hm pe hs, fun ρ σ H f ds R Rf hd q => ?_⟩
  cases e1 : h ρ with
  | none => simp [e1] at hd
  | some d =>
    simp only [e1, Option.bind_some] at hd
    refine hq ρ σ H d _ Rf.rd e1 fun vs H1 fp s r _ => ?_
    unfold rng1 at hd
    split at hd
    · split at hd
      · rename_i j hc
        cases hd
        cases r with
        | cons r1 r2 =>
          cases r1; cases r2
          exact ⟨j, rfl, (abs62 hc).1, (abs62 hc).2, q _ _ [] s wkOk_range fun a m => nomatch m⟩
      · cases hd
    · cases hd
theorem ip_range2 (hg : Gl X "range") (hm : X.mg "range" = none) (ha : AP fr X [a, b] h) (hs : starEach [a, b] X.env = [(false, eval a X.env), (false, eval b X.env)] := by rfl) (hs2 : starEach [b] X.env = [(false, eval b X.env)] := by rfl) :
    IP X tg (.Call (.Name "range" p) [a, b] [] pos) [] (fun ρ => (h ρ).bind rng2) := by
  obtain ⟨t, pe, hq⟩ := ha
  refine ⟨_, pi_range2 hg hm pe hs hs2, fun ρ σ H f ds R Rf hd q => ?_⟩
  cases e1 : h ρ with
  | none => simp [e1] at hd
  | some d =>
    simp only [e1, Option.bind_some] at hd
    refine hq ρ σ H d _ Rf.rd e1 fun vs H1 fp s r _ => ?_
    unfold rng2 at hd
    split at hd
    · split at hd
      · rename_i i j hc
        cases hd
        cases r with
        | cons r1 r2 =>
          cases r1
          cases r2 with
          | cons r3 r4 =>
            cases r3; cases r4
            exact ⟨i, j, rfl, ⟨(abs62 hc.1).1, (abs62 hc.1).2, (abs62 hc.2).1, (abs62 hc.2).2⟩, q _ _ [] s wkOk_range fun a m => nomatch m⟩
      · cases hd
    · cases hd
def ivf (fn : List D → Option (List D)) (g : Rh → Option (List D × Rh)) : Rh → Option (List D × Rh) := fun ρ => match g ρ with
  | some (ds, ρ') => (fn ds).map fun r => (r, ρ')
  | none => none
theorem iv_range1 (hg : Gl X "range") (hm : X.mg "range" = none) (ha : AV X [a] g) (hs : starEach [a] X.env = [(false, eval a X.env)] := by rfl) : IV X tg (.Call (.Name "range" p) [a] [] pos) [] (ivf rng1 g) := by
  obtain ⟨t, pe, hq⟩ := ha
  refine ⟨_, pi_range1 hg hm pe hs, fun F L ρ σ H f ds ρ' R Ro hd q => ?_⟩
  unfold ivf at hd
  split at hd
  · rename_i xs ρ1 e1
    cases e2 : rng1 xs with
    | none => rw [e2] at hd; cases hd
    | some r =>
      rw [e2] at hd; cases hd
      refine hq F L ρ σ H f xs ρ' _ Ro e1 fun vs H1 f1 fp R1 fr k => ?_
      unfold rng1 at e2
      split at e2
      · split at e2
        · rename_i j hc
          cases e2
          have r := fr.rp
          cases r with
          | cons r1 r2 =>
            cases r1; cases r2
            exact ⟨j, rfl, (abs62 hc).1, (abs62 hc).2, q _ _ f1 [] R1 k wkOk_range fun a m => nomatch m⟩
        · cases e2
      · cases e2
  · cases hd
end
end PV

set_option Elab.async false
set_option linter.all false
set_option maxRecDepth 100000
set_option maxHeartbeats 2000000
namespace PV
open PySem PySem.Spec PyProof.Rows L2
variable [TN]

/-! ### sorted of a list or a tuple of data -/
/-- the items of a list or a tuple, the heap told -/
theorem collectSz {prog : Program} {w : World} {A : Around} {E : Value → Shared → Prop} {s : Shared} {q : Addr} {T : String} {o : Obj} {xs : Array Value} {n : Nat} {Q : List Value → Shared → Prop} (hT : T = "list" ∨ T = "tuple")
    (ho : s.heap.get? q = some o) (hc : o.cls = .type T) (hd : o.data = .seq xs n) (hsz : xs.size ≤ sizeLine)
    (hQ : ∀ h', h'.objs.size = s.heap.objs.size + 1 → (∀ b ob, s.heap.get? b = some ob → h'.get? b = some ob) → Q xs.toList { s with heap := h' }) : wpAny (model prog w) A (collect (.ref q)) Q E s := by
  unfold collect
  refine wpAny_bind (wpAny_runValue (codeAny_builtin F.entry_proto_collect ?_))
  rw [Around.under_plainId F.plain_proto_collect _]
  show wpAny _ A.in1 (newList [] >>= fun nl => again (.builtin "list.__iadd__" ⟨[nl, .ref q], []⟩)) _ _ s
  refine wpAny_bind (wpAny_newObj_type ?_)
  refine wpAny_pure ⟨plainId_quiet F.plain_list_iadd _, codeAny_builtin F.entry_list_iadd ?_⟩
  rw [Around.under_plainId F.plain_list_iadd _]
  show wpAny _ A.in1 (Builtin.List.listExtendWith (.ref s.heap.objs.size) (.ref q) (.ref s.heap.objs.size)) _ _ _
  have g0 : (s.heap.push { cls := .type "list", data := .seq ([] : List Value).toArray }).get? s.heap.objs.size = some { cls := .type "list", data := .seq #[] 0 } := Heap.get?_push_size _ rfl
  have g1 := Heap.get?_update_self (Obj.mapSeq (· ++ xs)) g0 rfl
  have last : wpAny (model prog w) A (match Value.ref s.heap.objs.size with
      | Value.ref a => do
        match (← load a).data with
          | Data.seq ys _ => pure ys.toList
          | _ => unsupported "internal:collect"
      | _ => unsupported "internal:collect") Q E { s with heap := (s.heap.push { cls := .type "list", data := .seq ([] : List Value).toArray }).update s.heap.objs.size (Obj.mapSeq (· ++ xs)) } := by
    show wpAny _ A (load s.heap.objs.size >>= _) _ _ _
    refine wpAny_bind (wpAny_load g1 ?_)
    refine wpAny_pure ?_
    have e0 : ((#[] : Array Value) ++ xs).toList = xs.toList := by simp
    show Q ((#[] : Array Value) ++ xs).toList _
    rw [e0]
    exact hQ _ (by rw [Heap.size_update, size_push']) fun b ob hb => (Heap.get?_update_other _ _ (Nat.ne_of_gt (Heap.lt_size hb))).trans (Heap.get?_push_of_some _ hb)
  refine wpAny_mono (wpAny_extend_seq (hsz := hsz) (A := A) (R := fun r s' => r = .ok (.ret (.ref s.heap.objs.size)) ∧ s' = { s with heap := (s.heap.push { cls := .type "list", data := .seq ([] : List Value).toArray }).update s.heap.objs.size (Obj.mapSeq (· ++ xs)) })
    (s := { s with heap := s.heap.push { cls := .type "list", data := .seq ([] : List Value).toArray } }) _ q _ 0 hT g0 (Heap.get?_push_of_some _ ho) hc hd ⟨rfl, rfl⟩) (fun fin s' hh => ?_) (fun ee s' hh => absurd hh.1 (by simp))
  cases fin with
  | done fl =>
    obtain ⟨e1, rfl⟩ := hh
    cases e1
    exact last
  | again c' => exact ⟨hh.1, codeAny_mono hh.2 fun r s'' hr => by obtain ⟨rfl, rfl⟩ := hr; exact last⟩
open PySem.W in
theorem sortedSeq {prog : Program} {w : World} {A : Around} {E : Value → Shared → Prop} {s : Shared} {β : Type} {vs : List Value} {bs : List β} {enc : β → PyData} {R : Value → β → Prop} {a : Addr} {T : String} {o : Obj} {n : Nat} {rev : Bool} {kw : List (Str × Value)} {Q : Value → Shared → Prop}
    (hT : T = "list" ∨ T = "tuple") (ho : s.heap.get? a = some o) (hc : o.cls = .type T) (hd : o.data = .seq vs.toArray n) (hkw : (kw = [] ∧ rev = false) ∨ kw = [(Str.ofString "reverse", .bool rev)])
    (e : EachIs R vs bs) (er : EachIs (fun v b => ∃ as, Reads s.heap v (enc b) as) vs bs) (hal : AllAlike (bs.map enc)) (hk : Sortable (bs.map enc)) (hL : bs.length ≤ sizeLine) (hu : ∀ b, b ∈ bs → A.units + 2 + (enc b).depth < cLine)
    (h : ∀ out N h' ep, EachIs R out (bs.mergeSort (dataLe rev enc)) → s.heap.objs.size ≤ N → h'.get? N = some (seqObj "list" (List.toArray out) ep) → (∀ b ob, s.heap.get? b = some ob → h'.get? b = some ob) → Q (.ref N) { s with heap := h' }) :
    wpAny (model prog w) A (call (.builtin "sorted") [.ref a] kw) Q E s := by
  have hvl : vs.length ≤ sizeLine := by rw [e.length]; exact hL
  have ha1 : argsOk "sorted" ⟨[.ref a], kw⟩ := by
    rcases hkw with ⟨z, _⟩ | z
    · rw [z]; exact args_sorted1 _
    · rw [z]; exact args_sorted_rev _ _
  have ha2 : ∀ x : Addr, argsOk "list.sort" ⟨[.ref x], kw⟩ := fun x => by
    rcases hkw with ⟨z, _⟩ | z
    · rw [z]; exact args_list_sort _
    · rw [z]; exact args_list_sort_rev _ _
  have hsame : ∀ x : Addr, Builtin.«list.sort» ⟨[.ref x], kw⟩ = Builtin.«list.sort» ⟨[.ref x], [(Str.ofString "reverse", .bool rev)]⟩ := fun x => by
    rcases hkw with ⟨z, z2⟩ | z
    · rw [z, z2]; exact plain_is_rev x
    · rw [z]
  refine call_function_entry_kw kind_sorted plain_sorted entry_sorted ha1 ?_
  unfold Builtin.«sorted»
  refine wpAny_bind (m := checkCount "sorted" 1 1 _) (wpAny_pure ?_)
  refine wpAny_bind (collectSz hT ho hc hd (by rw [List.size_toArray]; exact hvl) (fun h1 z1 k1 => ?_))
  refine wpAny_bind (wpAny_newList ?_ (by simpa using hvl))
  have gN : (h1.push (seqObj "list" vs.toArray 0)).get? h1.objs.size = some (seqObj "list" vs.toArray 0) := Heap.get?_push_size _ rfl
  have k2 : ∀ b ob, s.heap.get? b = some ob → (h1.push (seqObj "list" vs.toArray 0)).get? b = some ob := fun b ob eb => Heap.get?_push_of_some _ (k1 b ob eb)
  have kS : ∀ b ob, s.heap.get? b = some ob → (sortingHeap (h1.push (seqObj "list" vs.toArray 0)) h1.objs.size vs).get? b = some ob := fun b ob eb => sortingHeap_old (Nat.ne_of_lt (Heap.lt_size (k1 b ob eb))) (k2 b ob eb)
  have er' : EachIs (fun v b => ∃ as, Reads (sortingHeap (h1.push (seqObj "list" vs.toArray 0)) h1.objs.size vs) v (enc b) as) vs bs := er.mono fun _ _ ⟨as, r⟩ => ⟨as, PyProof.Rows.Reads.keeps kS r⟩
  have hle : s.heap.objs.size ≤ h1.objs.size := by omega
  show wpAny _ _ _ _ _ { s with heap := h1.push (seqObj "list" vs.toArray 0) }
  refine wpAny_bind (wpAny_holding (wpAny_call_entry_kw slot_list_sort ⟨_, gN, rfl⟩ entry_list_sort ?body (ha2 _)))
  case body =>
    show wpAny (model prog w) A.in1.in1 (Builtin.«list.sort» ⟨[.ref h1.objs.size], kw⟩) _ _ _
    rw [hsame]
    refine list_sort_rev_vals (s := { s with heap := h1.push (seqObj "list" vs.toArray 0) }) gN (SortsAt.data (s := { s with heap := sortingHeap (h1.push (seqObj "list" vs.toArray 0)) h1.objs.size vs }) (each_map (R := fun v d => ∃ as, Reads (sortingHeap (h1.push (seqObj "list" vs.toArray 0)) h1.objs.size vs) v d as) enc er') hal hk (bound_map hu)) hvl ?_
    obtain ⟨ep, hep⟩ := sortedHeap_at (out := (sortVals (dataKind (sortingHeap (h1.push (seqObj "list" vs.toArray 0)) h1.objs.size vs) (bs.map enc)) rev vs vs).toArray) (vs := vs) gN
    exact ⟨_, rfl, wpAny_pure ⟨_, rfl, h _ _ _ ep (sortVals_data rev e er' hal) hle hep fun b ob eb => (sortedHeap_old (Nat.ne_of_lt (Heap.lt_size (k1 b ob eb))) (Heap.lt_size (k2 b ob eb))).trans (k2 b ob eb)⟩⟩

/-! ### sorted, by values -/
def vEnc (p : V × D) : D := p.2
/-- what sorted can sort: alike data without lists, not below None -/
def okSort (ds : List D) : Bool := pureL ds && ds.all (fun d => ds.all fun e => PySem.W.alike d e) && ((ds.all fun d => match d with | .tuple (_ :: _) => true | _ => false) || ds.all fun d => match d with | .tuple _ => false | .none => false | _ => true) && ds.all (fun d => decide (d.depth ≤ 40))
theorem okSort_alike {ds : List D} (h : okSort ds = true) : pureL ds = true ∧ PySem.W.AllAlike ds ∧ PySem.W.Sortable ds ∧ ∀ d ∈ ds, d.depth ≤ 40 := by
  unfold okSort at h
  simp only [Bool.and_eq_true, List.all_eq_true, Bool.or_eq_true, decide_eq_true_eq] at h
  obtain ⟨⟨⟨h1, h2⟩, h3⟩, h4⟩ := h
  refine ⟨h1, fun d hd e he => h2 d hd e he, ?_, h4⟩
  rcases h3 with h3 | h3
  · refine .inl fun d hd => ?_
    have := h3 d hd
    split at this
    · exact ⟨_, _, rfl⟩
    · cases this
  · refine .inr fun d hd => ?_
    have := h3 d hd
    split at this
    · cases this
    · cases this
    · rename_i n1 n2
      exact ⟨n2, fun xs e => n1 xs e⟩
/-- insertion sort: the kernel computes it -/
def insL {α : Type} (le : α → α → Bool) (a : α) : List α → List α
  | [] => [a]
  | b :: l => match le a b with
    | true => a :: b :: l
    | false => b :: insL le a l
def isort {α : Type} (le : α → α → Bool) : List α → List α
  | [] => []
  | a :: l => insL le a (isort le l)
theorem insL_app {α : Type} {le : α → α → Bool} {a : α} : ∀ {l m : List α}, (∀ b ∈ l, le a b = false) → (∀ b ∈ m, le a b = true) → insL le a (l ++ m) = l ++ a :: m
  | [], [], _, _ => rfl
  | [], b :: m, _, h => by simp only [List.nil_append, insL, h b List.mem_cons_self]
  | b :: l, m, h, h2 => by
    simp only [List.cons_append, insL, h b List.mem_cons_self]
    rw [insL_app (fun c m => h c (List.mem_cons_of_mem _ m)) h2]
theorem isort_eq {α : Type} {le : α → α → Bool} (h : PySem.W.TotalLe le) : ∀ l : List α, isort le l = l.mergeSort le
  | [] => by simp [isort]
  | a :: l => by
    obtain ⟨l1, l2, e1, e2, e3⟩ := List.mergeSort_cons (le := le) (fun a b c h1 h2 => h.trans a b c h1 h2) (fun a b => Bool.or_eq_true_iff.mpr (h.total a b)) a l
    rw [isort, isort_eq h l, e1, e2]
    have hp := PySem.W.sort_pairwise h (a :: l)
    rw [e1] at hp
    have hp2 := (List.pairwise_append.mp hp).2.1
    exact insL_app (fun b m => by simpa using e3 b m) fun b m => (List.pairwise_cons.mp hp2).1 b m
theorem dataLe_total {β : Type} (rev : Bool) (k : β → D) : PySem.W.TotalLe (PySem.W.dataLe rev k) := PySem.W.sortLe_total _ _ _
def sortD (rev : Bool) (ds : List D) : List D := isort (PySem.W.dataLe rev id) ds
theorem sortD_eq (rev : Bool) (ds : List D) : sortD rev ds = ds.mergeSort (PySem.W.dataLe rev id) := isort_eq (dataLe_total _ _) ds
def sortF (rev : Bool) : List D → Option D
  | [.list ds] => if okSort ds = true then some (.list (sortD rev ds)) else none
  | [.tuple ds] => if okSort ds = true then some (.list (sortD rev ds)) else none
  | _ => none
mutual
theorem pure_noDct : ∀ d : D, pureD d = true → noDct d = true
  | .none, _ => rfl
  | .bool _, _ => rfl
  | .int _, _ => rfl
  | .str _, _ => rfl
  | .list _, h => by cases h
  | .dict _, h => by cases h
  | .tuple ds, h => by
    simp only [pureD] at h
    simp only [noDct]
    exact pureL_noDct ds h
theorem pureL_noDct : ∀ ds : List D, pureL ds = true → noDctL ds = true
  | [], _ => rfl
  | d :: ds, h => by
    simp only [pureL, Bool.and_eq_true] at h
    simp only [noDctL, Bool.and_eq_true]
    exact ⟨pure_noDct d h.1, pureL_noDct ds h.2⟩
end
theorem pureL_mem : ∀ {ds : List D}, pureL ds = true → ∀ d ∈ ds, pureD d = true
  | [], _, d, m => nomatch m
  | e :: ds, h, d, m => by
    simp only [pureL, Bool.and_eq_true] at h
    rcases List.mem_cons.mp m with m | m
    · rw [m]; exact h.1
    · exact pureL_mem h.2 d m
theorem RpL.pairs {K : PySem.W.Frag} {H : Hp} : ∀ {ds : List D} {vs : List V}, RpL K H vs ds [] → ∃ ps : List (V × D), ps.map (·.1) = vs ∧ ps.map (·.2) = ds ∧ ∀ p ∈ ps, Rp K H p.1 p.2 []
  | [], _, h => by cases h; exact ⟨[], rfl, rfl, fun p m => nomatch m⟩
  | d :: ds, _, h => by
    generalize hz : ([] : List Addr) = z at h
    cases h with
    | cons h1 h2 =>
      obtain ⟨z1, z2⟩ := List.append_eq_nil_iff.mp hz.symm
      subst z1; subst z2
      obtain ⟨ps, e1, e2, e3⟩ := RpL.pairs h2
      refine ⟨(_, d) :: ps, by rw [List.map_cons, e1], by rw [List.map_cons, e2], fun p m => ?_⟩
      rcases List.mem_cons.mp m with m | m
      · rw [m]; exact h1
      · exact e3 p m
theorem RpL.of_pairs {K : PySem.W.Frag} {H : Hp} : ∀ {ps : List (V × D)}, (∀ p ∈ ps, Rp K H p.1 p.2 []) → RpL K H (ps.map (·.1)) (ps.map (·.2)) []
  | [], _ => .nil
  | p :: ps, h => .cons (f := []) (fs := []) (h p List.mem_cons_self) (RpL.of_pairs fun q m => h q (List.mem_cons_of_mem _ m))
theorem each_pairs {R : Value → V × D → Prop} : ∀ {ps : List (V × D)} {its : List Value}, Vals (ps.map (·.1)) its → (∀ p ∈ ps, ∀ u, RelV p.1 u → u ∈ its → R u p) → PySem.W.EachIs R its ps
  | [], _, r, _ => by cases r; exact .nil
  | p :: ps, _, r, h => by
    cases r with
    | cons r1 r2 => exact .cons (h p List.mem_cons_self _ r1 List.mem_cons_self) (each_pairs r2 fun q m u ru mu => h q (List.mem_cons_of_mem _ m) u ru (List.mem_cons_of_mem _ mu))
theorem vals_each : ∀ {ps : List (V × D)} {out : List Value}, PySem.W.EachIs (fun u (p : V × D) => RelV p.1 u) out ps → Vals (ps.map (·.1)) out
  | _, _, .nil => .nil
  | _, _, .cons h t => .cons h (vals_each t)
/-- the rule: sorted of a list or tuple -/
def rSortA (K : PySem.W.Frag) (rev : Bool) : List V → Hp → VK → Prop := fun vs H Q => ∃ (a : Addr) (xs : List V) (ps : List (V × D)), vs = [.ref a] ∧ (SqL K H a xs ∨ SqT K H a xs) ∧ xs.length ≤ sizeLine ∧ ps.map (·.1) = xs ∧ (∀ p ∈ ps, Rp K H p.1 p.2 []) ∧ okSort (ps.map (·.2)) = true ∧
  ∀ p, H p = none → Q (.ref p) (upd H p (.lst ((ps.mergeSort (PySem.W.dataLe rev vEnc)).map (·.1))))
section
variable {X : Cx}
theorem sortA_run {rev : Bool} {kw : List (Str × Value)} {k : Nat} (hr : Room k X.A) (hkw : (kw = [] ∧ rev = false) ∨ kw = [(Str.ofString "reverse", .bool rev)]) {pins : List (Addr × Obj)} {s : Shared} {σ : L2.St} {H : Hp} {xs : List V} {us : List Value} {Q : VK} (I : Inv X pins σ H s) (r : Vals xs us) (h : rSortA X.K rev xs H Q) :
    wpAny (model X.prog X.w) X.A (call (.builtin "sorted") us kw) (L2.EP X pins σ Q) X.xe s := by
  obtain ⟨a, ys, ps, rfl, hs, hz, e1, hp, ok, q⟩ := h
  cases r with
  | cons r1 r2 =>
    cases r2
    cases r1
    obtain ⟨hpu, hal, hsb, hdp⟩ := okSort_alike ok
    have hun := hr.un
    obtain ⟨its, rv, o, n, T, hT, ho, hc, hd⟩ : ∃ its : List Value, Vals ys its ∧ ∃ o n T, (T = "list" ∨ T = "tuple") ∧ s.heap.get? a = some o ∧ o.cls = .type T ∧ o.data = .seq its.toArray n := by
      rcases hs with hs | hs
      · obtain ⟨its, rv, ⟨o, n, e, c, _, d⟩, _⟩ := I.list hs
        exact ⟨its, rv, o, n, "list", .inl rfl, e, c, d⟩
      · obtain ⟨its, rv, ⟨o, e, c, n, d⟩, _⟩ := I.tuple hs
        exact ⟨its, rv, o, n, "tuple", .inr rfl, e, c, d⟩
    subst e1
    have hl : ps.length ≤ sizeLine := by rw [List.length_map] at hz; exact hz
    refine sortedSeq hT ho hc hd hkw (bs := ps) (enc := vEnc) (R := fun u (p : V × D) => RelV p.1 u) (each_pairs rv fun p m u ru _ => ru) (each_pairs rv fun p m u ru _ => ?_) hal hsb hl (fun p m => ?_) fun out N h' ep hout hN hN' kk => ?_
    · exact Dp.reads I p.2 p.1 u (Rp.dp _ _ _ (hp p m) (pure_noDct _ (pureL_mem hpu _ (List.mem_map_of_mem m)))) ru
    · have := hdp p.2 (List.mem_map_of_mem m)
      show X.A.units + 2 + p.2.depth < cLine
      omega
    · have hv := vals_each hout
      refine ⟨.ref N, _, I.laid (t' := s.toks) (o := .lst ((ps.mergeSort (PySem.W.dataLe rev vEnc)).map (·.1))) kk hN ⟨by rw [List.length_map, List.length_mergeSort]; exact hl, out, ep, hv, hN'⟩, rfl, q N (I.hok.fresh hN)⟩
theorem cr_sortA {k : Nat} (hr : Room k X.A) : CallR X (.builtin "sorted") (rSortA X.K false) := fun pins s σ H xs us Q I r h => sortA_run hr (.inl ⟨rfl, rfl⟩) I r h
end
theorem rn_sortA {K : PySem.W.Frag} {rev : Bool} : RNok true K (rSortA K rev) (sortF rev) := by
  intro H xs ds z fs Q r h q
  have go : ∀ {a : Addr} {vs : List V} {es : List D} {f : List Addr}, (SqL K H a vs ∨ SqT K H a vs) → vs.length ≤ sizeLine → RpL K H vs es f → okSort es = true → z = .list (sortD rev es) → rSortA K rev [.ref a] H Q := fun {a vs es f} h1 hz r1 ok ez => by
    obtain ⟨hpu, _⟩ := okSort_alike ok
    have hf := RpL.pure es vs f r1 hpu
    subst hf
    obtain ⟨ps, e1, e2, hp⟩ := r1.pairs
    refine ⟨a, vs, ps, rfl, h1, hz, e1, hp, by rw [e2]; exact ok, fun p np => ?_⟩
    have hm : (ps.mergeSort (PySem.W.dataLe rev vEnc)).map (·.2) = sortD rev es := by
      rw [PySem.W.sort_maps (r := PySem.W.dataLe rev vEnc) (s := PySem.W.dataLe rev id) (fun p : V × D => p.2) (fun _ _ _ _ => rfl), e2, sortD_eq]
    have hr := RpL.of_pairs (K := K) (H := H) (ps := ps.mergeSort (PySem.W.dataLe rev vEnc)) fun p m => hp p (List.mem_mergeSort.mp m)
    rw [hm] at hr
    rw [ez] at q
    refine q _ _ [p] (same_upd np) (.lst upd_same (by rw [List.length_map, List.length_mergeSort, ← List.length_map (f := (·.1)), e1]; exact hz) (hr.same (same_upd np))) fun _ => ⟨List.nodup_cons.mpr ⟨fun m => (nomatch m), List.nodup_nil⟩, fun b m => ?_⟩
    rcases List.mem_cons.mp m with m | m
    · rw [m]; exact np
    · cases m
  unfold sortF at h
  split at h
  · split at h
    · rename_i ok
      cases h
      cases r with
      | cons r1 r2 =>
        cases r2
        cases r1 with
        | lst h1 h2 h3 => exact go (.inl (.inl (.inl h1))) h2 h3 ok rfl
    · cases h
  · split at h
    · rename_i ok
      cases h
      cases r with
      | cons r1 r2 =>
        cases r2
        cases r1 with
        | tup h1 h2 h3 => exact go (.inr (sqt h1)) h2 h3 ok rfl
    · cases h
  · cases h
end PV

set_option Elab.async false
set_option linter.all false
set_option maxRecDepth 100000
set_option maxHeartbeats 2000000
namespace PV
open PySem PySem.Spec PyProof.Rows L2
variable [TN]

/-! ### short names of readings -/
def gE (h : Rh → Option D) : Rh → Option D := fun ρ => (h ρ).bind gd
def qB (h : Rh → Option D) : Rh → Option Bool := fun ρ => (h ρ).bind asB
def qT (h : Rh → Option D) : Rh → Option Bool := fun ρ => (h ρ).bind truD
def wB (g : Rh → Option (D × Rh)) : Rh → Option (Bool × Rh) := fun ρ => match g ρ with | some (.bool b, ρ') => some (b, ρ') | _ => none
def iS (h : Rh → Option D) : Rh → Option (List D) := fun ρ => (h ρ).bind seqD
def iE (h : Rh → Option D) : Rh → Option (List D) := fun ρ => ((h ρ).bind seqD).map enumD
def iR1 (h : Rh → Option (List D)) : Rh → Option (List D) := fun ρ => (h ρ).bind rng1
def iR2 (h : Rh → Option (List D)) : Rh → Option (List D) := fun ρ => (h ρ).bind rng2
def u1 (fn : D → Option D) (h : Rh → Option D) : Rh → Option D := fun ρ => (h ρ).bind fn
def w1 (fn : D → Option D) (g : Rh → Option (D × Rh)) : Rh → Option (D × Rh) := fun ρ => match g ρ with
  | some (d, ρ') => (fn d).map fun z => (z, ρ')
  | none => none
section
variable {X : Cx} {pos p : Pos} {e a b c : Expr} {es : List Expr} {fr fa fb fc : Bool} {h h1 h2 h3 : Rh → Option D} {g : Rh → Option (D × Rh)}
theorem ep_g (q : EP fr X e h) : EP true X e (gE h) := q.gd
theorem tp_b (q : EP fr X e h) (he : ∀ whole, isTrue e X.env whole = (do let v ← whole; standAt e.pos; holding [v] (truthy v)) := by intro _; rfl) : TP X e (qB h) := tp_val q he
theorem tp_t (q : EP fr X e h) (he : ∀ whole, isTrue e X.env whole = (do let v ← whole; standAt e.pos; holding [v] (truthy v)) := by intro _; rfl) : TP X e (qT h) := tp_tru q he
theorem tv_b (q : EV X e g) (he : ∀ whole, isTrue e X.env whole = (do let v ← whole; standAt e.pos; holding [v] (truthy v)) := by intro _; rfl) : TV X e (wB g) := tv_val q he
/-- a comparison as a test -/
theorem tp_cmp {op : CmpOp} {r : R2} {fn : D → D → Option D} (ho : OpR X (compareOp op) r) (hr : R2ok fr X.K r fn) (ha : EP fa X a h1) (hb : EP fb X b h2) (hm : behindInMarks op b = false) : TP X (.Compare a [op] [b] pos) (qB (o2 fn h1 h2)) := by
  obtain ⟨ta, pa, qa⟩ := ha
  obtain ⟨tb, pb, qb⟩ := hb
  refine ⟨_, pt_cmpR ho pa pb hm, fun ρ σ H d Q R hh q => ?_⟩
  unfold qB at hh
  cases e0 : o2 fn h1 h2 ρ with
  | none => simp [e0] at hh
  | some z =>
    simp only [e0, Option.bind_some] at hh
    obtain ⟨x, y, e1, e2, e3⟩ := o2_some e0
    cases z <;> simp only [asB, reduceCtorEq] at hh
    cases hh
    refine qa ρ σ H x _ R e1 fun v H1 fp s r1 _ => qb ρ σ H1 y _ (R.same s) e2 fun u H2 fq s2 r2 _ => ?_
    refine hr H2 v u x y _ fp fq _ (r1.same s2) r2 e3 fun z H3 fz s3 r3 hz => ?_
    cases r3
    exact ⟨_, rfl, q H3 (same_trans s (same_trans s2 s3))⟩
theorem tv_cmp {op : CmpOp} {r : R2} {fn : D → D → Option D} {g1 g2 : Rh → Option (D × Rh)} (ho : OpR X (compareOp op) r) (hr : R2ok true X.K r fn) (ha : EV X a g1) (hb : EV X b g2) (hm : behindInMarks op b = false) : TV X (.Compare a [op] [b] pos) (wB (v2 fn g1 g2)) := by
  obtain ⟨ta, pa, qa⟩ := ha
  obtain ⟨tb, pb, qb⟩ := hb
  refine ⟨_, pt_cmpR ho pa pb hm, fun F L ρ σ H f bb ρ' Q R hh q => ?_⟩
  unfold wB at hh
  split at hh
  · rename_i b0 ρ2 e0
    cases hh
    obtain ⟨x, ρ1, y, e1, e2, e3⟩ := v2_some e0
    refine qa F L ρ σ H f x ρ1 _ R e1 fun v H1 f1 fp R1 fr1 k1 => qb (F.hold fp) L ρ1 σ H1 f1 y ρ' _ (R1.hold fr1) e2 fun u H2 f2 fq R2 fr2 k2 => ?_
    have fr1' := fr1.over k2 R2
    refine hr H2 v u x y _ fp fq _ fr1'.rp fr2.rp e3 fun z H3 fz s3 r3 hz => ?_
    cases r3
    exact ⟨_, rfl, q H3 f2 (R2.unhold.same s3) (k1.trans (k2.unhold.trans (Keep.of_same s3)))⟩
  · cases hh
/-- a op b op' c -/
def chn (fn fn' : D → D → Option D) (h1 h2 h3 : Rh → Option D) : Rh → Option D := fun ρ => match h1 ρ, h2 ρ with
  | some x, some y => match fn x y with
    | some (.bool true) => match h3 ρ with
      | some z => fn' y z
      | none => none
    | some (.bool false) => some (.bool false)
    | _ => none
  | _, _ => none
section
variable {op op' : CmpOp} {r r' : R2} {fn fn' : D → D → Option D}
theorem chn_sound {K : PySem.W.Frag} {ta tb tc : TE} (hr : R2ok true K r fn) (hr' : R2ok true K r' fn')
    (qa : ∀ (ρ : Rh) (σ : L2.St) (H : Hp) (d : D) (Q : VK), RhR K ρ σ H → h1 ρ = some d → (∀ v H' fp, Same H H' → Rp K H' v d fp → (fa = true → fp.Nodup ∧ ∀ a ∈ fp, H a = none) → Q v H') → ta σ H Q)
    (qb : ∀ (ρ : Rh) (σ : L2.St) (H : Hp) (d : D) (Q : VK), RhR K ρ σ H → h2 ρ = some d → (∀ v H' fp, Same H H' → Rp K H' v d fp → (fb = true → fp.Nodup ∧ ∀ a ∈ fp, H a = none) → Q v H') → tb σ H Q)
    (qc : ∀ (ρ : Rh) (σ : L2.St) (H : Hp) (d : D) (Q : VK), RhR K ρ σ H → h3 ρ = some d → (∀ v H' fp, Same H H' → Rp K H' v d fp → (fc = true → fp.Nodup ∧ ∀ a ∈ fp, H a = none) → Q v H') → tc σ H Q)
    (ρ : Rh) (σ : L2.St) (H : Hp) (d : D) (Q : VK) (R : RhR K ρ σ H) (hh : chn fn fn' h1 h2 h3 ρ = some d) (q : ∀ v H' fp, Same H H' → Rp K H' v d fp → (fp.Nodup ∧ ∀ a ∈ fp, H a = none) → Q v H') : tChain r r' ta tb tc σ H Q := by
  unfold chn at hh
  split at hh
  · rename_i x y e1 e2
    refine qa ρ σ H x _ R e1 fun v H1 fp s r1 _ => qb ρ σ H1 y _ (R.same s) e2 fun u H2 fq s2 r2 _ => ?_
    split at hh
    · rename_i e3
      refine hr H2 v u x y _ fp fq _ (r1.same s2) r2 e3 fun z H3 fz s3 r3 _ => ?_
      cases r3
      refine ⟨true, rfl, ?_⟩
      rw [if_pos rfl]
      have s03 := same_trans s (same_trans s2 s3)
      split at hh
      · rename_i w e4
        refine qc ρ σ H3 w _ (R.same s03) e4 fun t H4 ft s4 r4 _ => ?_
        exact hr' H4 u t y w d fq ft Q (r2.same (same_trans s3 s4)) r4 hh fun z2 H5 fz2 s5 r5 n5 => q z2 H5 fz2 (same_trans s03 (same_trans s4 s5)) r5 ⟨(n5 rfl).1, fun a m => Same.new (same_trans s03 s4) ((n5 rfl).2 a m)⟩
      · cases hh
    · rename_i e3
      cases hh
      refine hr H2 v u x y _ fp fq _ (r1.same s2) r2 e3 fun z H3 fz s3 r3 _ => ?_
      cases r3
      refine ⟨false, rfl, ?_⟩
      rw [if_neg Bool.false_ne_true]
      exact q _ H3 [] (same_trans s (same_trans s2 s3)) (.bl false) no_mem
    · cases hh
  · cases hh
theorem ep_chain (ho : OpR X (compareOp op) r) (ho' : OpR X (compareOp op') r') (hr : R2ok true X.K r fn) (hr' : R2ok true X.K r' fn') (ha : EP fa X a h1) (hb : EP fb X b h2) (hc : EP fc X c h3) (hm : lastMarks [op, op'] [b, c] = false := by with_unfolding_all rfl) :
    EP true X (.Compare a [op, op'] [b, c] pos) (chn fn fn' h1 h2 h3) := by
  obtain ⟨ta, pa, qa⟩ := ha
  obtain ⟨tb, pb, qb⟩ := hb
  obtain ⟨tc, pc, qc⟩ := hc
  exact ⟨_, pe_chain ho ho' pa pb pc hm, fun ρ σ H d Q R hh q => chn_sound hr hr' qa qb qc ρ σ H d Q R hh fun v H' fp s r n => q v H' fp s r fun _ => n⟩
theorem tp_chain (ho : OpR X (compareOp op) r) (ho' : OpR X (compareOp op') r') (hr : R2ok true X.K r fn) (hr' : R2ok true X.K r' fn') (ha : EP fa X a h1) (hb : EP fb X b h2) (hc : EP fc X c h3) (hm : lastMarks [op, op'] [b, c] = false := by with_unfolding_all rfl) :
    TP X (.Compare a [op, op'] [b, c] pos) (qB (chn fn fn' h1 h2 h3)) := by
  obtain ⟨ta, pa, qa⟩ := ha
  obtain ⟨tb, pb, qb⟩ := hb
  obtain ⟨tc, pc, qc⟩ := hc
  refine ⟨_, pt_chain ho ho' pa pb pc hm, fun ρ σ H d Q R hh q => ?_⟩
  unfold qB at hh
  cases e0 : chn fn fn' h1 h2 h3 ρ with
  | none => simp [e0] at hh
  | some z =>
    simp only [e0, Option.bind_some] at hh
    cases z <;> simp only [asB, reduceCtorEq] at hh
    cases hh
    exact chn_sound hr hr' qa qb qc ρ σ H _ _ R e0 fun v H' fp s r n => by cases r; exact ⟨_, rfl, q H' s⟩
end
/-- not x by truth, as a value -/
def notT (d : D) : Option D := (truD d).map fun b => .bool !b
theorem truV_of {K : PySem.W.Frag} {H : Hp} {v : V} {d : D} {fp : List Addr} {b : Bool} (r : Rp K H v d fp) (h : truD d = some b) : TruV K v H b := by
  cases r with
  | non => cases h; rfl
  | bl b => cases h; rfl
  | int i => cases h; rfl
  | str x => cases h
  | lst h1 h2 h3 => cases h; exact .inl ⟨_, .inl (.inl h1), by rw [isEmpty_len h3.length]⟩
  | tup h1 h2 h3 => cases h; exact .inr (.inl ⟨_, sqt h1, by rw [isEmpty_len h3.length]⟩)
  | dct h1 h2 => cases h
  | dcn h1 h2 => cases h
  | dcf h1 h2 => cases h
theorem ep_notT (ha : EP fa X a h) : EP true X (.UnaryOp .Not a pos) (u1 notT h) := by
  refine ep_un (r := fun x H Q => ∃ k, TruV X.K x H k ∧ Q (.bl (!k)) H) (fun pa => pe_notT pa) (fun H x d z fx Q rx hz q => ?_) ha
  unfold notT at hz
  cases e0 : truD d with
  | none => rw [e0] at hz; cases hz
  | some k => rw [e0] at hz; cases hz; exact ⟨k, truV_of rx e0, q _ H [] Same.refl (.bl _) fun _ => no_mem⟩
def negI : D → Option D
  | .int i => some (.int (-i))
  | _ => none
theorem ep_neg (ha : EP fa X a h) : EP true X (.UnaryOp .USub a pos) (u1 negI h) := by
  refine ep_un (r := rU fun i => .int (-i)) (fun pa => pe_un un_neg pa) (fun H x d z fx Q rx hz q => ?_) ha
  unfold negI at hz
  split at hz
  · cases hz; cases rx; exact ⟨_, rfl, q _ H [] Same.refl (.int _) fun _ => no_mem⟩
  · cases hz
/-- with effects, one argument -/
theorem ev_un {r : V → Hp → VK → Prop} {fn : D → Option D} (pe : ∀ {ta : TE}, PE X a ta → PE X e (tUn r ta))
    (hr : ∀ H x d z fx (Q : VK), Rp X.K H x d fx → fn d = some z → (∀ v H' fp, Same H H' → Rp X.K H' v z fp → (fp.Nodup ∧ ∀ a ∈ fp, H a = none) → Q v H') → r x H Q) (ha : EV X a g) : EV X e (w1 fn g) := by
  obtain ⟨ta, pa, qa⟩ := ha
  refine ⟨_, pe pa, fun F L ρ σ H f d ρ' Q R hh q => ?_⟩
  unfold w1 at hh
  split at hh
  · rename_i d0 ρ1 e1
    cases e2 : fn d0 with
    | none => rw [e2] at hh; cases hh
    | some z =>
      rw [e2] at hh; cases hh
      exact qa F L ρ σ H f d0 ρ' _ R e1 fun v H1 f1 fp R1 fr1 k1 => hr H1 v d0 d fp Q fr1.rp e2 fun u H2 fz s2 r2 n => q u H2 f1 fz (R1.same s2) (R1.fresh s2 r2 n.1 n.2) (k1.trans (Keep.of_same s2))
  · cases hh
/-! ### tuple(x), list(x) -/
def tupD : D → Option D
  | .list ds => if pureL ds = true then some (.tuple ds) else none
  | .tuple ds => if pureL ds = true then some (.tuple ds) else none
  | _ => none
theorem tup_ok {K : PySem.W.Frag} (H : Hp) (x : V) (d z : D) (fx : List Addr) (Q : VK) (rx : Rp K H x d fx) (hz : tupD d = some z) (q : ∀ v H' fp, Same H H' → Rp K H' v z fp → (fp.Nodup ∧ ∀ a ∈ fp, H a = none) → Q v H') : kTup K x H Q := by
  unfold tupD at hz
  split at hz
  · split at hz
    · rename_i hp
      cases hz
      cases rx with
      | lst h1 h2 h3 =>
        have hf := RpL.pure _ _ _ h3 hp
        subst hf
        exact .inl ⟨_, _, rfl, .inl (.inl h1), fun p np => q _ _ [] (same_upd np) (.tup upd_same h2 (h3.same (same_upd np))) no_mem⟩
    · cases hz
  · split at hz
    · rename_i hp
      cases hz
      cases rx with
      | tup h1 h2 h3 =>
        have hf := RpL.pure _ _ _ h3 hp
        subst hf
        exact .inr ⟨_, _, rfl, sqt h1, q _ H [] Same.refl (.tup h1 h2 h3) no_mem⟩
    · cases hz
  · cases hz
theorem ep_tuple (hg : Gl X "tuple") (hm : X.mg "tuple" = none) (ha : EP fa X a h) (na : starEach [a] X.env = (false, eval a X.env) :: starEach [] X.env := by rfl) : EP true X (.Call (.Name "tuple" p) [a] [] pos) (u1 tupD h) :=
  ep_un (r := kTup X.K) (fun pa => pe_tupleOf hg hm pa na) (fun H x d z fx Q rx hz q => tup_ok H x d z fx Q rx hz fun v H' fp s r n => q v H' fp s r fun _ => n) ha
theorem ev_tuple (hg : Gl X "tuple") (hm : X.mg "tuple" = none) (ha : EV X a g) (na : starEach [a] X.env = (false, eval a X.env) :: starEach [] X.env := by rfl) : EV X (.Call (.Name "tuple" p) [a] [] pos) (w1 tupD g) :=
  ev_un (r := kTup X.K) (fun pa => pe_tupleOf hg hm pa na) (fun H x d z fx Q rx hz q => tup_ok H x d z fx Q rx hz q) ha
end
def listF : List D → Option D
  | [.list ds] => if pureL ds = true then some (.list ds) else none
  | [.tuple ds] => if pureL ds = true then some (.list ds) else none
  | _ => none
theorem rn_list {K : PySem.W.Frag} : RNok true K (fun xs H Q => ∃ p ys, xs = [.ref p] ∧ (SqL K H p ys ∨ SqT K H p ys) ∧ ∀ l, H l = none → Q (.ref l) (upd H l (.lst ys))) listF := by
  intro H xs ds z fs Q r h q
  have go : ∀ {a : Addr} {vs : List V} {es : List D} {f : List Addr}, (SqL K H a vs ∨ SqT K H a vs) → vs.length ≤ sizeLine → RpL K H vs es f → pureL es = true → z = .list es → ∃ p ys, [V.ref a] = [.ref p] ∧ (SqL K H p ys ∨ SqT K H p ys) ∧ ∀ l, H l = none → Q (.ref l) (upd H l (.lst ys)) := fun {a vs es f} h1 hz r1 hp ez => by
    have hf := RpL.pure _ _ _ r1 hp
    subst hf
    refine ⟨a, vs, rfl, h1, fun l nl => ?_⟩
    rw [ez] at q
    refine q _ _ [l] (same_upd nl) (.lst upd_same hz (r1.same (same_upd nl))) fun _ => ⟨List.nodup_cons.mpr ⟨fun m => (nomatch m), List.nodup_nil⟩, fun b m => ?_⟩
    rcases List.mem_cons.mp m with m | m
    · rw [m]; exact nl
    · cases m
  unfold listF at h
  split at h
  · split at h
    · rename_i hp
      cases h
      cases r with
      | cons r1 r2 =>
        cases r2
        cases r1 with
        | lst h1 h2 h3 => exact go (.inl (.inl (.inl h1))) h2 h3 hp rfl
    · cases h
  · split at h
    · rename_i hp
      cases h
      cases r with
      | cons r1 r2 =>
        cases r2
        cases r1 with
        | tup h1 h2 h3 => exact go (.inr (sqt h1)) h2 h3 hp rfl
    · cases h
  · cases h
/-! ### int(x), sum, min, max -/
theorem rn_int {K : PySem.W.Frag} : RNok true K (fun xs H Q => (∃ i, xs = [.int i] ∧ Q (.int i) H) ∨ ∃ k, xs = [.bl k] ∧ Q (.int (if k then 1 else 0)) H) intF := by
  intro H xs ds z fs Q r h q
  unfold intF at h
  split at h
  · cases h
    cases r with
    | cons r1 r2 => cases r2; cases r1; exact .inl ⟨_, rfl, q _ H [] Same.refl (.int _) fun _ => no_mem⟩
  · cases h
    cases r with
    | cons r1 r2 => cases r2; cases r1; exact .inr ⟨_, rfl, q _ H [] Same.refl (.int _) fun _ => no_mem⟩
  · cases h
def intsOf : List D → Option (List Int)
  | [] => some []
  | .int i :: ds => match intsOf ds with
    | some r => some (i :: r)
    | none => none
  | _ => none
theorem intsOf_map {ds : List D} {ns : List Int} (h : intsOf ds = some ns) : ds = ns.map .int := by
  induction ds generalizing ns with
  | nil => cases h; rfl
  | cons d ds ih =>
    unfold intsOf at h
    split at h
    · rename_i z; cases z
    · rename_i i ds' e
      cases e
      split at h
      · rename_i r e2
        cases h
        rw [List.map_cons, ← ih e2]
      · cases h
    · cases h
theorem intsOf_ints (ns : List Int) : intsOf (ns.map .int) = some ns := by
  induction ns with
  | nil => rfl
  | cons n ns ih => simp [intsOf, ih]
theorem RpL.ints {K : PySem.W.Frag} {H : Hp} : ∀ {ns : List Int} {vs : List V} {f : List Addr}, RpL K H vs (ns.map .int) f → vs = ns.map V.int
  | [], _, _, h => by cases h; rfl
  | n :: ns, _, _, h => by
    cases h with
    | cons h1 h2 => cases h1; rw [List.map_cons, ← RpL.ints h2]
def rSumA (K : PySem.W.Frag) : List V → Hp → VK → Prop := fun vs H Q => ∃ (a : Addr) (ns : List Int), vs = [V.ref a] ∧ (SqL K H a (ns.map V.int) ∨ SqT K H a (ns.map V.int)) ∧ Q (.int ns.sum) H
theorem cr_sumA {X : Cx} (hc : X.calm = true) : CallR X (.builtin "sum") (rSumA X.K) := by
  intro pins s σ H vs us Q I r h
  obtain ⟨a, ns, rfl, hs, q⟩ := h
  rw [Vals.ref1 r]
  rcases hs with hs | hs
  · obtain ⟨its, rv, hl, _⟩ := I.list hs
    exact sum_raw (I.ok.hd hc) hl.isList rv.ints fun h' tk t' hk => ⟨.int _, H, I.kept hk, ⟨_, rfl⟩, q⟩
  · obtain ⟨its, rv, ht, _⟩ := I.tuple hs
    have hi := rv.ints
    obtain ⟨xs, e⟩ := hi.allInts.items
    have hn : numsOf (intItems xs).toList = ns := by rw [← e]; exact hi.numsOf
    rw [nums_intItems] at hn
    have ht' : s.heap.IsTuple a its.toArray := ht
    rw [e] at ht'
    refine PySem.W.ktm_sumG (I.ok.hd hc) ht' fun h' tk t' hk => ⟨.int ns.sum, H, I.kept hk, ⟨t', ?_⟩, q⟩
    rw [preSum_eq, List.take_of_length_le (by simp), hn]
def sumF : List D → Option D
  | [.list ds] => match intsOf ds with
    | some ns => some (.int ns.sum)
    | none => none
  | [.tuple ds] => match intsOf ds with
    | some ns => some (.int ns.sum)
    | none => none
  | _ => none
theorem rn_sum {K : PySem.W.Frag} : RNok true K (rSumA K) sumF := by
  intro H xs ds z fs Q r h q
  unfold sumF at h
  split at h
  · split at h
    · rename_i ns e
      cases h
      have em := intsOf_map e
      subst em
      cases r with
      | cons r1 r2 =>
        cases r2
        cases r1 with
        | lst h1 h2 h3 =>
          rw [h3.ints] at h1
          exact ⟨_, ns, rfl, .inl (.inl (.inl h1)), q _ H [] Same.refl (.int _) fun _ => no_mem⟩
    · cases h
  · split at h
    · rename_i ns e
      cases h
      have em := intsOf_map e
      subst em
      cases r with
      | cons r1 r2 =>
        cases r2
        cases r1 with
        | tup h1 h2 h3 =>
          rw [h3.ints] at h1
          exact ⟨_, ns, rfl, .inr (sqt h1), q _ H [] Same.refl (.int _) fun _ => no_mem⟩
    · cases h
  · cases h
def min2F : List D → Option D
  | [.int i, .int j] => some (.int (if j < i then j else i))
  | _ => none
def max2F : List D → Option D
  | [.int i, .int j] => some (.int (if j > i then j else i))
  | _ => none
theorem rn_min2 {K : PySem.W.Frag} : RNok true K (fun xs H Q => ∃ i j, xs = [.int i, .int j] ∧ Q (.int (if j < i then j else i)) H) min2F := by
  intro H xs ds z fs Q r h q
  unfold min2F at h
  split at h
  · cases h
    cases r with
    | cons r1 r2 => cases r2 with
      | cons r2 r3 => cases r3; cases r1; cases r2; exact ⟨_, _, rfl, q _ H [] Same.refl (.int _) fun _ => no_mem⟩
  · cases h
theorem rn_max2 {K : PySem.W.Frag} : RNok true K (fun xs H Q => ∃ i j, xs = [.int i, .int j] ∧ Q (.int (if j > i then j else i)) H) max2F := by
  intro H xs ds z fs Q r h q
  unfold max2F at h
  split at h
  · cases h
    cases r with
    | cons r1 r2 => cases r2 with
      | cons r2 r3 => cases r3; cases r1; cases r2; exact ⟨_, _, rfl, q _ H [] Same.refl (.int _) fun _ => no_mem⟩
  · cases h
/-! ### any, all of lists of bools -/
def boolsOf : List D → Option (List Bool)
  | [] => some []
  | .bool i :: ds => match boolsOf ds with
    | some r => some (i :: r)
    | none => none
  | _ => none
theorem boolsOf_map {ds : List D} {ns : List Bool} (h : boolsOf ds = some ns) : ds = ns.map .bool := by
  induction ds generalizing ns with
  | nil => cases h; rfl
  | cons d ds ih =>
    unfold boolsOf at h
    split at h
    · rename_i z; cases z
    · rename_i i ds' e
      cases e
      split at h
      · rename_i r e2
        cases h
        rw [List.map_cons, ← ih e2]
      · cases h
    · cases h
theorem boolsOf_bools (ns : List Bool) : boolsOf (ns.map .bool) = some ns := by
  induction ns with
  | nil => rfl
  | cons n ns ih => simp [boolsOf, ih]
theorem RpL.bools {K : PySem.W.Frag} {H : Hp} : ∀ {ns : List Bool} {vs : List V} {f : List Addr}, RpL K H vs (ns.map .bool) f → vs = ns.map V.bl
  | [], _, _, h => by cases h; rfl
  | n :: ns, _, _, h => by
    cases h with
    | cons h1 h2 => cases h1; rw [List.map_cons, ← RpL.bools h2]
def allF : List D → Option D
  | [.list ds] => match boolsOf ds with
    | some ns => some (.bool (ns.all id))
    | none => none
  | _ => none
def anyF : List D → Option D
  | [.list ds] => match boolsOf ds with
    | some ns => some (.bool (ns.any id))
    | none => none
  | _ => none
theorem rn_all {K : PySem.W.Frag} : RNok true K (rAll K) allF := by
  intro H xs ds z fs Q r h q
  unfold allF at h
  split at h
  · split at h
    · rename_i ns e
      cases h
      have em := boolsOf_map e
      subst em
      cases r with
      | cons r1 r2 =>
        cases r2
        cases r1 with
        | lst h1 h2 h3 =>
          rw [h3.bools] at h1
          exact ⟨_, ns, rfl, .inl (.inl h1), q _ H [] Same.refl (.bl _) fun _ => no_mem⟩
    · cases h
  · cases h
theorem rn_any {K : PySem.W.Frag} : RNok true K (rAny K) anyF := by
  intro H xs ds z fs Q r h q
  unfold anyF at h
  split at h
  · split at h
    · rename_i ns e
      cases h
      have em := boolsOf_map e
      subst em
      cases r with
      | cons r1 r2 =>
        cases r2
        cases r1 with
        | lst h1 h2 h3 =>
          rw [h3.bools] at h1
          exact ⟨_, ns, rfl, .inl (.inl h1), q _ H [] Same.refl (.bl _) fun _ => no_mem⟩
    · cases h
  · cases h
end PV

set_option Elab.async false
set_option linter.all false
set_option maxRecDepth 100000
set_option maxHeartbeats 2000000
namespace PV
open PySem PySem.Spec PyProof.Rows L2
variable [TN]

/-! ### more ways of one operator -/
def alt (f g : D → D → Option D) : D → D → Option D := fun x y => match f x y with | some z => some z | none => g x y
theorem R2ok.alt {fr : Bool} {K : PySem.W.Frag} {r r' : R2} {f g : D → D → Option D} (h : R2ok fr K r f) (h' : R2ok fr K r' g) : R2ok fr K (fun x y H Q => r x y H Q ∨ r' x y H Q) (alt f g) := by
  intro H x y d e z fx fy Q rx ry hz q
  unfold PV.alt at hz
  split at hz
  · rename_i w e1; cases hz; exact .inl (h H x y d e z fx fy Q rx ry e1 q)
  · exact .inr (h' H x y d e z fx fy Q rx ry hz q)
def addS : D → D → Option D
  | .str a, .str b => if a.length + b.length ≤ 1000000 then some (.str (a ++ b)) else none
  | _, _ => none
theorem r2_addS {K : PySem.W.Frag} : R2ok true K (fun x y H Q => ∃ i j, x = .str i ∧ y = .str j ∧ i.length + j.length ≤ sizeLine ∧ Q (.str (i ++ j)) H) addS := by
  intro H x y d e z fx fy Q rx ry h q
  unfold addS at h
  split at h
  · split at h
    · rename_i hl
      cases h; cases rx; cases ry
      exact ⟨_, _, rfl, rfl, mil_line hl, q _ H [] Same.refl (.str _) fun _ => no_mem⟩
    · cases h
  · cases h
def addD := alt addI (alt addT (alt addL addS))
def mulD := alt mulI (alt repL repT)
section
variable {X : Cx} {K : PySem.W.Frag}
theorem op_addA : OpR X (binaryOp .Add) (fun x y H Q => (rI0 fun i j => .int (i + j)) x y H Q ∨ rCatA X.K x y H Q ∨ rCat x y H Q ∨ ∃ i j, x = .str i ∧ y = .str j ∧ i.length + j.length ≤ sizeLine ∧ Q (.str (i ++ j)) H) := op_add.or (op_catA.or (op_cat.or op_add_str))
theorem r2_addA : R2ok true K (fun x y H Q => (rI0 fun i j => .int (i + j)) x y H Q ∨ rCatA K x y H Q ∨ rCat x y H Q ∨ ∃ i j, x = .str i ∧ y = .str j ∧ i.length + j.length ≤ sizeLine ∧ Q (.str (i ++ j)) H) addD := r2_addI.alt (r2_addT.alt (r2_addL.alt r2_addS))
theorem op_mulA : OpR X (binaryOp .Mult) (fun x y H Q => (rI CMul fun i j => .int (i * j)) x y H Q ∨ rRep x y H Q ∨ rRepT X.K x y H Q) := op_mul.or (op_rep.or op_repT)
theorem r2_mulA : R2ok true K (fun x y H Q => (rI CMul fun i j => .int (i * j)) x y H Q ∨ rRep x y H Q ∨ rRepT K x y H Q) mulD := r2_mulI.alt (r2_repL.alt r2_repT)
end
@[simp] theorem addD_int (i j : Int) : addD (.int i) (.int j) = some (.int (i + j)) := rfl
theorem addD_tup (a b : List D) : addD (.tuple a) (.tuple b) = if pureL a = true ∧ pureL b = true ∧ a.length + b.length ≤ 1000000 then some (.tuple (a ++ b)) else none := by
  show alt addI (alt addT (alt addL addS)) _ _ = _
  unfold alt addI addT addL addS
  by_cases h : pureL a = true ∧ pureL b = true ∧ a.length + b.length ≤ 1000000 <;> simp [h]
theorem addD_lst (a b : List D) : addD (.list a) (.list b) = if pureL a = true ∧ pureL b = true ∧ a.length + b.length ≤ 1000000 then some (.list (a ++ b)) else none := by
  show alt addI (alt addT (alt addL addS)) _ _ = _
  unfold alt addI addT addL addS
  by_cases h : pureL a = true ∧ pureL b = true ∧ a.length + b.length ≤ 1000000 <;> simp [h]
theorem mulD_int (i j : Int) : mulD (.int i) (.int j) = if i.natAbs < 18446744073709551616 ∨ j.natAbs < 18446744073709551616 then some (.int (i * j)) else none := by
  show alt mulI (alt repL repT) _ _ = _
  unfold alt mulI repL repT
  by_cases h : i.natAbs < 18446744073709551616 ∨ j.natAbs < 18446744073709551616
  · simp only [if_pos h]
  · simp only [if_neg h]
def fdivD : D → D → Option D
  | .int i, .int j => if 0 < j ∧ j.natAbs.log2 < 9000 then some (.int (i / j)) else none
  | _, _ => none
theorem r2_fdivW {K : PySem.W.Frag} : R2ok true K (rI CDivW fun i j => .int (i / j)) fdivD := by
  intro H x y d e z fx fy Q rx ry h q
  unfold fdivD at h
  split at h
  · split at h
    · rename_i hc
      cases h; cases rx; cases ry
      exact ⟨_, _, rfl, rfl, hc, q _ H [] Same.refl (.int _) fun _ => no_mem⟩
    · cases h
  · cases h
def andI : D → D → Option D
  | .int i, .int j => some (.int (Builtin.bitAnd i j))
  | _, _ => none
theorem r2_and {K : PySem.W.Frag} : R2ok true K (rI0 fun i j => .int (Builtin.bitAnd i j)) andI := by
  intro H x y d e z fx fy Q rx ry h q
  unfold andI at h
  split at h
  · cases h; cases rx; cases ry
    exact ⟨_, _, rfl, rfl, q _ H [] Same.refl (.int _) fun _ => no_mem⟩
  · cases h
def powI : D → D → Option D
  | .int i, .int j => if 0 ≤ j ∧ j.natAbs ≤ 1000000 ∧ i.natAbs < 18446744073709551616 then some (.int (i ^ j.toNat)) else none
  | _, _ => none
theorem pow_ok {i j : Int} (h : 0 ≤ j ∧ j.natAbs ≤ 1000000 ∧ i.natAbs < 18446744073709551616) : CPow i j := ⟨h.1, by have := h.2.1; omega, by have := h.2.2; omega⟩
theorem r2_pow {K : PySem.W.Frag} : R2ok true K (rI CPow fun i j => .int (i ^ j.toNat)) powI := by
  intro H x y d e z fx fy Q rx ry h q
  unfold powI at h
  split at h
  · split at h
    · rename_i hc
      cases h; cases rx; cases ry
      exact ⟨_, _, rfl, rfl, pow_ok hc, q _ H [] Same.refl (.int _) fun _ => no_mem⟩
    · cases h
  · cases h
/-! ### order of tuples of ints -/
def cmpT (g : List Int → List Int → Bool) : D → D → Option D
  | .tuple a, .tuple b => match intsOf a, intsOf b with
    | some ns, some ms => some (.bool (g ns ms))
    | _, _ => none
  | _, _ => none
theorem r2_cmpT {K : PySem.W.Frag} {g : List Int → List Int → Bool} : R2ok true K (fun x y H Q => ∃ (a b : Addr) (ns ms : List Int), x = .ref a ∧ y = .ref b ∧ SqT K H a (ns.map V.int) ∧ SqT K H b (ms.map V.int) ∧ Q (.bl (g ns ms)) H) (cmpT g) := by
  intro H x y d e z fx fy Q rx ry h q
  unfold cmpT at h
  split at h
  · split at h
    · rename_i ns ms e1 e2
      cases h
      have m1 := intsOf_map e1
      have m2 := intsOf_map e2
      subst m1; subst m2
      cases rx with
      | tup h1 _ h3 =>
        cases ry with
        | tup k1 _ k3 =>
          rw [h3.ints] at h1
          rw [k3.ints] at k1
          exact ⟨_, _, _, _, rfl, rfl, sqt h1, sqt k1, q _ H [] Same.refl (.bl _) fun _ => no_mem⟩
    · cases h
  · cases h
def ltD := alt ltI (cmpT HT.lexLt)
def leTI (ns ms : List Int) : Bool := Ob.lexAt (fun j => decide (ns.getD j 0 = ms.getD j 0)) (fun j => decide (ns.getD j 0 ≤ ms.getD j 0)) (decide (ns.length ≤ ms.length)) 0 (min ns.length ms.length)
def leD := alt leI (cmpT leTI)
section
variable {X : Cx} {K : PySem.W.Frag} {k : Nat}
theorem op_ltA (hr : Room k X.A) : OpR X (compareOp .Lt) (fun x y H Q => (rI0 fun i j => .bl (decide (i < j))) x y H Q ∨ rLtT X.K x y H Q) := op_lt.or (op_ltT hr.units0)
theorem r2_ltA : R2ok true K (fun x y H Q => (rI0 fun i j => .bl (decide (i < j))) x y H Q ∨ rLtT K x y H Q) ltD := r2_ltI.alt r2_cmpT
theorem op_leA (hr : Room k X.A) : OpR X (compareOp .LtE) (fun x y H Q => (rI0 fun i j => .bl (decide (i ≤ j))) x y H Q ∨ rLeT X.K x y H Q) := op_le.or (op_leT hr.units0)
theorem r2_leA : R2ok true K (fun x y H Q => (rI0 fun i j => .bl (decide (i ≤ j))) x y H Q ∨ rLeT K x y H Q) leD := r2_leI.alt (r2_cmpT (g := leTI))
end
@[simp] theorem ltD_int (i j : Int) : ltD (.int i) (.int j) = some (.bool (decide (i < j))) := rfl
@[simp] theorem leD_int (i j : Int) : leD (.int i) (.int j) = some (.bool (decide (i ≤ j))) := rfl
/-! ### is -/
def isD := alt isN isB
def isNotD := alt isNotN isNotB
section
variable {X : Cx} {K : PySem.W.Frag}
theorem op_isA : OpR X (compareOp .Is) (fun x y H Q => (y = .non ∧ Q (.bl (decide (x = .non))) H) ∨ ∃ a b, x = .bl a ∧ y = .bl b ∧ Q (.bl (decide (a = b))) H) := op_isN.or op_is_bl
theorem r2_isA : R2ok true K (fun x y H Q => (y = .non ∧ Q (.bl (decide (x = .non))) H) ∨ ∃ a b, x = .bl a ∧ y = .bl b ∧ Q (.bl (decide (a = b))) H) isD := r2_isN.alt r2_isB
theorem op_isNotA : OpR X (compareOp .IsNot) (fun x y H Q => (y = .non ∧ Q (.bl (!decide (x = .non))) H) ∨ ∃ a b, x = .bl a ∧ y = .bl b ∧ Q (.bl (!decide (a = b))) H) := op_notN.or op_isnot_bl
theorem r2_isNotA : R2ok true K (fun x y H Q => (y = .non ∧ Q (.bl (!decide (x = .non))) H) ∨ ∃ a b, x = .bl a ∧ y = .bl b ∧ Q (.bl (!decide (a = b))) H) isNotD := r2_notN.alt r2_notB
end
@[simp] theorem isD_none (d : D) : isD d .none = some (.bool (isNon d)) := rfl
@[simp] theorem isNotD_none (d : D) : isNotD d .none = some (.bool (!isNon d)) := rfl
@[simp] theorem isD_bool (a b : Bool) : isD (.bool a) (.bool b) = some (.bool (decide (a = b))) := rfl
@[simp] theorem isNotD_bool (a b : Bool) : isNotD (.bool a) (.bool b) = some (.bool (!decide (a = b))) := rfl
/-! ### in -/
def flatD : D → Bool
  | .none => true
  | .bool _ => true
  | .int _ => true
  | .str _ => true
  | _ => false
def eqF : D → D → Bool
  | .none, .none => true
  | .bool a, .bool b => a == b
  | .bool a, .int b => (if a then 1 else 0) == b
  | .int a, .bool b => a == (if b then 1 else 0)
  | .int a, .int b => a == b
  | .str a, .str b => a == b
  | _, _ => false
theorem Rp.flat {K : PySem.W.Frag} {H : Hp} {v : V} {d : D} {f : List Addr} (r : Rp K H v d f) (h : flatD d = true) : flatV v = true ∧ ∀ {v' : V} {d' : D} {f' : List Addr}, Rp K H v' d' f' → flatD d' = true → eqV v' v = eqF d' d := by
  cases r <;> first | (exact ⟨rfl, fun r' h' => by cases r' <;> first | rfl | cases h'⟩) | cases h
theorem RpL.flats {K : PySem.W.Frag} {H : Hp} {x : V} {d : D} {f : List Addr} (rx : Rp K H x d f) (hd : flatD d = true) : ∀ {ds : List D} {vs : List V} {fs : List Addr}, RpL K H vs ds fs → ds.all flatD = true → vs.all flatV = true ∧ inV x vs = ds.any fun z => eqF z d
  | [], _, _, h, _ => by cases h; exact ⟨rfl, rfl⟩
  | e :: ds, _, _, h, p => by
    cases h with
    | cons h1 h2 =>
      rw [List.all_cons, Bool.and_eq_true] at p
      obtain ⟨a, b⟩ := RpL.flats rx hd h2 p.2
      unfold inV at b ⊢
      rw [List.all_cons, List.any_cons, List.any_cons, a, b, (h1.flat p.1).1, (rx.flat hd).2 h1 p.1]
      exact ⟨rfl, rfl⟩
def inF (neg : Bool) (d : D) : D → Option D
  | .list ds => if flatD d = true ∧ ds.all flatD = true then some (.bool (if neg then !ds.any fun z => eqF z d else ds.any fun z => eqF z d)) else none
  | .tuple ds => if flatD d = true ∧ ds.all flatD = true then some (.bool (if neg then !ds.any fun z => eqF z d else ds.any fun z => eqF z d)) else none
  | _ => none
theorem r2_inF {K : PySem.W.Frag} {neg : Bool} : R2ok true K (rIn K neg) (inF neg) := by
  intro H x y d e z fx fy Q rx ry h q
  unfold inF at h
  split at h
  · split at h
    · rename_i hc
      cases h
      cases ry with
      | lst h1 _ h3 =>
        obtain ⟨a, b⟩ := RpL.flats rx hc.1 h3 hc.2
        exact ⟨_, _, rfl, .inl (.inl (.inl h1)), (rx.flat hc.1).1, a, by rw [b]; exact q _ H [] Same.refl (.bl _) fun _ => no_mem⟩
    · cases h
  · split at h
    · rename_i hc
      cases h
      cases ry with
      | tup h1 _ h3 =>
        obtain ⟨a, b⟩ := RpL.flats rx hc.1 h3 hc.2
        exact ⟨_, _, rfl, .inr (sqt h1), (rx.flat hc.1).1, a, by rw [b]; exact q _ H [] Same.refl (.bl _) fun _ => no_mem⟩
    · cases h
  · cases h
def inL (neg : Bool) (d : D) : D → Option D
  | .list ds => if noDct d = true ∧ SeqAt.shaped d = true ∧ noDctL ds = true ∧ SeqAt.shaped (.list ds) = true then some (.bool (if neg then !ds.any fun z => PyData.eqv z d else ds.any fun z => PyData.eqv z d)) else none
  | _ => none
theorem r2_inL {K : PySem.W.Frag} : R2ok true K (rInD K) (inL false) := by
  intro H x y d e z fx fy Q rx ry h q
  unfold inL at h
  split at h
  · split at h
    · rename_i ds hc
      cases h
      exact ⟨d, ds, Rp.dp d x fx rx hc.1, Rp.dp (.list ds) y fy ry (by simpa [noDct] using hc.2.2.1), hc.2.1, hc.2.2.2, q _ H [] Same.refl (.bl _) fun _ => no_mem⟩
    · cases h
  · cases h
theorem r2_notInL {K : PySem.W.Frag} : R2ok true K (rNotInD K) (inL true) := by
  intro H x y d e z fx fy Q rx ry h q
  unfold inL at h
  split at h
  · split at h
    · rename_i ds hc
      cases h
      exact ⟨d, ds, Rp.dp d x fx rx hc.1, Rp.dp (.list ds) y fy ry (by simpa [noDct] using hc.2.2.1), hc.2.1, hc.2.2.2, q _ H [] Same.refl (.bl _) fun _ => no_mem⟩
    · cases h
  · cases h
/-- tuples of data -/
def inT (neg : Bool) (d : D) : D → Option D
  | .tuple ds => if noDct d = true ∧ SeqAt.shaped d = true ∧ noDctL ds = true ∧ SeqAt.shaped (.tuple ds) = true then some (.bool (if neg then !ds.any fun z => PyData.eqv z d else ds.any fun z => PyData.eqv z d)) else none
  | _ => none
def rInT (neg : Bool) (K : PySem.W.Frag) : R2 := fun x y H Q => ∃ d ds, Dp K H x d ∧ Dp K H y (.tuple ds) ∧ SeqAt.shaped d = true ∧ SeqAt.shaped (.tuple ds) = true ∧ Q (.bl (if neg then !ds.any fun z => PyData.eqv z d else ds.any fun z => PyData.eqv z d)) H
theorem room_in_t {A : Around} {d : D} {ds : List D} (sd : SeqAt.shaped d = true) (hu : A.units + 66 < cLine) : A.units + 1 + min (PyData.depthAll ds) d.depth < cLine := by
  have : d.depth ≤ 64 := by
    unfold SeqAt.shaped at sd
    simp only [Bool.and_eq_true, decide_eq_true_eq] at sd
    exact sd.2
  omega
theorem op_inT {X : Cx} (hu : X.A.units + 66 < cLine) : OpR X (compareOp .In) (rInT false X.K) := by
  intro pins s σ H x y v u Q I rx ry h
  obtain ⟨d, ds, hd, he, sd, se, q⟩ := h
  obtain ⟨as, r1⟩ := Dp.reads I d x v hd rx
  obtain ⟨bs, r2⟩ := Dp.reads I (.tuple ds) y u he ry
  exact SeqAt.in_tuple_reads r2 r1 (by simpa [PyData.canLay0] using SeqAt.canLay_of_shaped se) (SeqAt.canLay_of_shaped sd) (room_in_t sd hu) ⟨.bl _, H, I, rfl, q⟩
theorem op_notInT {X : Cx} (hu : X.A.units + 66 < cLine) : OpR X (compareOp .NotIn) (rInT true X.K) := by
  intro pins s σ H x y v u Q I rx ry h
  obtain ⟨d, ds, hd, he, sd, se, q⟩ := h
  obtain ⟨as, r1⟩ := Dp.reads I d x v hd rx
  obtain ⟨bs, r2⟩ := Dp.reads I (.tuple ds) y u he ry
  exact SeqAt.notIn_tuple_reads r2 r1 (by simpa [PyData.canLay0] using SeqAt.canLay_of_shaped se) (SeqAt.canLay_of_shaped sd) (room_in_t sd hu) ⟨.bl _, H, I, rfl, q⟩
theorem r2_inT {K : PySem.W.Frag} {neg : Bool} : R2ok true K (rInT neg K) (inT neg) := by
  intro H x y d e z fx fy Q rx ry h q
  unfold inT at h
  split at h
  · split at h
    · rename_i ds hc
      cases h
      exact ⟨d, ds, Rp.dp d x fx rx hc.1, Rp.dp (.tuple ds) y fy ry (by simpa [noDct] using hc.2.2.1), hc.2.1, hc.2.2.2, q _ H [] Same.refl (.bl _) fun _ => no_mem⟩
    · cases h
  · cases h
def inD := alt (inF false) (alt (inL false) (inT false))
def notInD := alt (inF true) (alt (inL true) (inT true))
section
variable {X : Cx} {K : PySem.W.Frag} {k : Nat}
theorem op_inA (hr : Room k X.A) : OpR X (compareOp .In) (fun x y H Q => rIn X.K false x y H Q ∨ rInD X.K x y H Q ∨ rInT false X.K x y H Q) := op_in_seq.or ((op_inD (by have := hr.un; omega)).or (op_inT (by have := hr.un; omega)))
theorem r2_inA : R2ok true K (fun x y H Q => rIn K false x y H Q ∨ rInD K x y H Q ∨ rInT false K x y H Q) inD := r2_inF.alt (r2_inL.alt r2_inT)
theorem op_notInA (hr : Room k X.A) : OpR X (compareOp .NotIn) (fun x y H Q => rIn X.K true x y H Q ∨ rNotInD X.K x y H Q ∨ rInT true X.K x y H Q) := op_notIn_seq.or ((op_notInD (by have := hr.un; omega)).or (op_notInT (by have := hr.un; omega)))
theorem r2_notInA : R2ok true K (fun x y H Q => rIn K true x y H Q ∨ rNotInD K x y H Q ∨ rInT true K x y H Q) notInD := r2_inF.alt (r2_notInL.alt r2_inT)
end
/-! ### slices -/
def cutD (ds : List D) (lo hi : Option Int) : List D := (ds.drop (HT.sIx ds.length 0 lo)).take (HT.sIx ds.length ds.length hi - HT.sIx ds.length 0 lo)
theorem RpL.pureN {K : PySem.W.Frag} {H : Hp} {ds : List D} {vs : List V} {fs : List Addr} (r : RpL K H vs ds fs) (p : pureL ds = true) : RpL K H vs ds [] := by
  have := RpL.pure _ _ _ r p
  subst this; exact r
theorem pureL_iff {ds : List D} : pureL ds = true ↔ ∀ d ∈ ds, pureD d = true := by
  induction ds with
  | nil => simp [pureL]
  | cons d ds ih => simp [pureL, ih]
theorem RpL.of_get {K : PySem.W.Frag} {H : Hp} : ∀ {ds : List D} {vs : List V}, vs.length = ds.length → (∀ (i : Nat) (v : V) (d : D), vs[i]? = some v → ds[i]? = some d → Rp K H v d []) → RpL K H vs ds []
  | [], [], _, _ => .nil
  | d :: ds, v :: vs, hl, h => .cons (f := []) (fs := []) (h 0 v d rfl rfl) (RpL.of_get (by simpa using hl) fun i v' d' e1 e2 => h (i + 1) v' d' (by simpa using e1) (by simpa using e2))
theorem RpL.getN {K : PySem.W.Frag} {H : Hp} {ds : List D} {vs : List V} (r : RpL K H vs ds []) {i : Nat} {v : V} {d : D} (e1 : vs[i]? = some v) (e2 : ds[i]? = some d) : Rp K H v d [] := by
  obtain ⟨v', f, e3, r', m⟩ := r.get e2
  rw [e1] at e3; cases e3
  have : f = [] := List.eq_nil_iff_forall_not_mem.mpr fun a ha => by have := m a ha; simp at this
  subst this; exact r'
theorem RpL.sub {K : PySem.W.Frag} {H : Hp} {ds : List D} {vs : List V} (r : RpL K H vs ds []) {a n : Nat} : RpL K H ((vs.drop a).take n) ((ds.drop a).take n) [] := by
  refine RpL.of_get (by simp [r.length]) fun i v d e1 e2 => ?_
  rw [List.getElem?_take] at e1 e2
  split at e1
  · rename_i hi
    rw [if_pos hi] at e2
    rw [List.getElem?_drop] at e1 e2
    exact r.getN e1 e2
  · cases e1
theorem RpL.cut {K : PySem.W.Frag} {H : Hp} {ds : List D} {vs : List V} {fs : List Addr} (r : RpL K H vs ds fs) (p : pureL ds = true) (lo hi : Option Int) : RpL K H (cutV vs lo hi) (cutD ds lo hi) [] := by
  unfold cutV cutD
  rw [← r.length]
  exact (r.pureN p).sub
def PartOk (X : Cx) (e : Option Expr) (h : Rh → Option (Option Int)) : Prop := ∃ t : TO, PO X e t ∧ ∀ (ρ : Rh) (σ : L2.St) (H : Hp) (o : Option Int) (Q : Option Int → Hp → Prop), RhR X.K ρ σ H → h ρ = some o → (∀ H', Same H H' → Q o H') → t σ H Q
def opn : Rh → Option (Option Int) := fun _ => some none
def ops (h : Rh → Option D) : Rh → Option (Option Int) := fun ρ => match h ρ with
  | some (.int i) => some (some i)
  | _ => none
def cutS (d : D) (lo hi : Option Int) : Option D := match d with
  | .list ds => if pureL ds = true then some (.list (cutD ds lo hi)) else none
  | .tuple ds => if pureL ds = true then some (.tuple (cutD ds lo hi)) else none
  | _ => none
def slE (h : Rh → Option D) (lo hi : Rh → Option (Option Int)) : Rh → Option D := fun ρ => match h ρ, lo ρ, hi ρ with
  | some d, some l, some u => cutS d l u
  | _, _, _ => none
section
variable {X : Cx} {pos p2 : Pos} {a e : Expr} {fa : Bool} {h : Rh → Option D} {lo hi : Option Expr} {hl hu : Rh → Option (Option Int)} {g : Rh → Option (D × Rh)}
theorem po_n : PartOk X none opn := ⟨_, po_none, fun ρ σ H o Q R hh q => by cases hh; exact q H Same.refl⟩
theorem po_s (ha : EP fa X a h) : PartOk X (some a) (ops h) := by
  obtain ⟨t, pe, hq⟩ := ha
  refine ⟨_, po_some pe, fun ρ σ H o Q R hh q => ?_⟩
  unfold ops at hh
  split at hh
  · rename_i i e
    cases hh
    refine hq ρ σ H _ _ R e fun v H' fp s r _ => ?_
    cases r
    exact ⟨i, rfl, q H' s⟩
  · cases hh
theorem one_new {H : Hp} {p : Addr} (np : H p = none) : ([p] : List Addr).Nodup ∧ ∀ a ∈ ([p] : List Addr), H a = none := ⟨by simp, fun a m => by rw [List.mem_singleton] at m; rw [m]; exact np⟩
theorem cut_ok {K : PySem.W.Frag} {H : Hp} {v : V} {d z : D} {fp : List Addr} {l u : Option Int} {Q : VK} (r : Rp K H v d fp) (hz : cutS d l u = some z) (q : ∀ v H' fp, Same H H' → Rp K H' v z fp → (fp.Nodup ∧ ∀ a ∈ fp, H a = none) → Q v H') : rSlL K v l u H Q ∨ rSlA K v l u H Q := by
  unfold cutS at hz
  split at hz
  · split at hz
    · rename_i ds hp
      cases hz
      cases r with
      | lst k1 k2 k3 =>
        exact .inl ⟨_, _, rfl, .inl (.inl k1), fun p np => q _ _ [p] (same_upd np) (.lst upd_same (Nat.le_trans (cutV_length ..) k2) ((k3.cut hp l u).same (same_upd np))) (one_new np)⟩
    · cases hz
  · split at hz
    · rename_i ds hp
      cases hz
      cases r with
      | tup k1 k2 k3 =>
        rename_i b xs
        have rc := k3.cut hp l u
        refine .inr ⟨b, xs, rfl, sqt k1, fun hw => ?_, fun _ p np => q _ _ [] (same_upd np) (.tup upd_same (Nat.le_trans (cutV_length ..) k2) (rc.same (same_upd np))) no_mem⟩
        have hx : cutV xs l u = xs := by unfold cutV; rw [hw.1, hw.2]; simp
        rw [hx] at rc
        exact q _ H [] Same.refl (.tup k1 k2 rc) no_mem
    · cases hz
  · cases hz
theorem ep_slice (ha : EP fa X a h) (h1 : PartOk X lo hl) (h2 : PartOk X hi hu) : EP true X (.Subscript a (.Slice lo hi none p2) pos) (slE h hl hu) := by
  obtain ⟨t, pe, hq⟩ := ha
  obtain ⟨t1, p1, q1⟩ := h1
  obtain ⟨t2, p2, q2⟩ := h2
  refine ⟨_, pe_slice (sl_list.or sl_tupA) pe p1 p2, fun ρ σ H d Q R hh q => ?_⟩
  unfold slE at hh
  split at hh
  · rename_i d0 l u e1 e2 e3
    refine hq ρ σ H _ _ R e1 fun v H1 fp s r _ => q1 ρ σ H1 _ _ (R.same s) e2 fun H2 s2 => q2 ρ σ H2 _ _ (R.same (same_trans s s2)) e3 fun H3 s3 => ?_
    exact cut_ok (r.same (same_trans s2 s3)) hh fun v' H4 fp' s4 r4 n4 => q v' H4 fp' (same_trans s (same_trans s2 (same_trans s3 s4))) r4 fun _ => ⟨n4.1, fun c m => Same.new (same_trans s (same_trans s2 s3)) (n4.2 c m)⟩
  · cases hh
/-! ### xs[::-1] of lists -/
def revD : D → Option D
  | .list ds => if pureL ds = true then some (.list ds.reverse) else none
  | _ => none
theorem RpL.rev {K : PySem.W.Frag} {H : Hp} {ds : List D} {vs : List V} (r : RpL K H vs ds []) : RpL K H vs.reverse ds.reverse [] := by
  refine RpL.of_get (by simp [r.length]) fun i v d e1 e2 => ?_
  have hl := r.length
  have hi : i < vs.length := by have := (List.getElem?_eq_some_iff.mp e1).1; simpa using this
  rw [List.getElem?_reverse hi] at e1
  rw [List.getElem?_reverse (by omega)] at e2
  rw [← hl] at e2
  exact r.getN e1 e2
theorem rev_ok {K : PySem.W.Frag} (H : Hp) (x : V) (d z : D) (fx : List Addr) (Q : VK) (rx : Rp K H x d fx) (hz : revD d = some z) (q : ∀ v H' fp, Same H H' → Rp K H' v z fp → (fp.Nodup ∧ ∀ a ∈ fp, H a = none) → Q v H') : ∃ a xs, x = .ref a ∧ SqL K H a xs ∧ ∀ p, H p = none → Q (.ref p) (upd H p (.lst xs.reverse)) := by
  unfold revD at hz
  split at hz
  · split at hz
    · rename_i ds hp
      cases hz
      cases rx with
      | lst k1 k2 k3 =>
        exact ⟨_, _, rfl, .inl (.inl k1), fun p np => q _ _ [p] (same_upd np) (.lst upd_same (by rw [List.length_reverse]; exact k2) ((k3.pureN hp).rev.same (same_upd np))) (one_new np)⟩
    · cases hz
  · cases hz
theorem ep_rev {k : Nat} {p1 p3 p4 : Pos} (ha : EP fa X a h) : EP true X (.Subscript a (.Slice none none (some (.UnaryOp .USub (.Constant (.int 1) k p1) p3)) p4) pos) (u1 revD h) :=
  ep_un (r := fun x H Q => ∃ a xs, x = .ref a ∧ SqL X.K H a xs ∧ ∀ p, H p = none → Q (.ref p) (upd H p (.lst xs.reverse))) (fun pa => pe_revL pa) (fun H x d z fx Q rx hz q => rev_ok H x d z fx Q rx hz fun v H' fp s r n => q v H' fp s r fun _ => n) ha
theorem ev_rev {k : Nat} {p1 p3 p4 : Pos} (ha : EV X a g) : EV X (.Subscript a (.Slice none none (some (.UnaryOp .USub (.Constant (.int 1) k p1) p3)) p4) pos) (w1 revD g) :=
  ev_un (r := fun x H Q => ∃ a xs, x = .ref a ∧ SqL X.K H a xs ∧ ∀ p, H p = none → Q (.ref p) (upd H p (.lst xs.reverse))) (fun pa => pe_revL pa) (fun H x d z fx Q rx hz q => rev_ok H x d z fx Q rx hz q) ha
end
end PV

set_option Elab.async false
set_option linter.all false
set_option maxRecDepth 100000
set_option maxHeartbeats 2000000
namespace PV
open PySem PySem.Spec PyProof.Rows L2
variable [TN]

/-! ### the names of the language that the text leaves as they are -/
structure Bl (mg : Str → Option Value) : Prop where
  len : mg "len" = none
  tuple : mg "tuple" = none
  list : mg "list" = none
  sum : mg "sum" = none
  sorted : mg "sorted" = none
  range : mg "range" = none
  enumerate : mg "enumerate" = none
  zip : mg "zip" = none
  any : mg "any" = none
  all : mg "all" = none
  isinstance : mg "isinstance" = none
  int : mg "int" = none
  min : mg "min" = none
  max : mg "max" = none
  set : mg "set" = none
  str : mg "str" = none
  abs : mg "abs" = none
  dict : mg "dict" = none
  bool : mg "bool" = none

/-! ### known defs -/
def runF (np n : Nat) (B : Rh → Out) (ds : List D) : Option D := if ds.length = np then runP n B ds else none
def runN (np n m : Nat) (B : Rh → Out) (ds : List D) : Option (D × D) := if ds.length = np then runM n m B ds else none
structure KnP (P : Program) (w : World) (K : PySem.W.Frag) (mg : Str → Option Value) (base : Heap) (k : Nat) (x : Str) (n : Nat) (F : List D → Option D) : Prop where
  ex : ∃ f fd ps, mg x = some (.ref f) ∧ PySem.W.keepIn K (.ref f) = true ∧ Binds K fd ps [] ∧ ps.length = n ∧ FnOk P w K mg base CX0 k f fd ps (spP K n F)
  ar : ∀ ds d, F ds = some d → ds.length = n
structure KnM (P : Program) (w : World) (K : PySem.W.Frag) (mg : Str → Option Value) (base : Heap) (k : Nat) (x : Str) (n m : Nat) (F : List D → Option (D × D)) : Prop where
  ex : ∃ f fd ps, mg x = some (.ref f) ∧ PySem.W.keepIn K (.ref f) = true ∧ Binds K fd ps [] ∧ ps.length = n ∧ FnOk P w K mg base CX0 k f fd ps (spM K n m F)
section
variable {P : Program} {w : World} {K : PySem.W.Frag} {mg : Str → Option Value} {base : Heap}
theorem KnP.of {x qual : Str} {st : Stmt} {f : Addr} {fd : FuncData} {N ps : List Str} {k : Nat} {B : Rh → Out} (F : FnD K x qual st f fd) (S : FnScope N ps (defScope st)) (hm : mg x = some (.ref f)) (hb : Binds K fd ps [])
    (h : ∀ (cdv : Value) (A : Around) (outer : List Env) (s : Shared) (H : Hp) (E : XK), Room k (A.deeper (envOfC qual (defScope st) s.heap.objs.size f cdv)) → BS (cxOf CX0 P w K mg base N qual (defScope st) f cdv A outer s H E).nox (defBody st) B) :
    KnP P w K mg base (k + 1) x ps.length (runF ps.length N.length B) :=
  ⟨⟨f, fd, ps, hm, F.kp, hb, rfl, fnP_imp (fnP F S h) fun ds d e => by unfold runF at e; split at e <;> first | exact e | cases e⟩, fun ds d e => by unfold runF at e; split at e <;> first | assumption | cases e⟩
theorem KnM.of {x qual : Str} {st : Stmt} {f : Addr} {fd : FuncData} {N ps : List Str} {k m : Nat} {B : Rh → Out} (F : FnD K x qual st f fd) (S : FnScope N ps (defScope st)) (hm : mg x = some (.ref f)) (hb : Binds K fd ps []) (hlt : m < ps.length)
    (h : ∀ (cdv : Value) (A : Around) (outer : List Env) (s : Shared) (H : Hp) (E : XK), Room k (A.deeper (envOfC qual (defScope st) s.heap.objs.size f cdv)) → BS (cxOf CX0 P w K mg base N qual (defScope st) f cdv A outer s H E).nox (defBody st) B) :
    KnM P w K mg base (k + 1) x ps.length m (runN ps.length N.length m B) :=
  ⟨⟨f, fd, ps, hm, F.kp, hb, rfl, (fnM F S hlt h).imp fun vs H Q E ⟨hl, ds, f0, r, d', vm, h1, h2, h3, h4, h5, h6, h7⟩ => ⟨hl, ds, f0, r, d', vm, h1, h2, h3, h4, h5, (by unfold runN at h6; split at h6 <;> first | exact h6 | cases h6), h7⟩⟩⟩
theorem KnP.imp {k n : Nat} {x : Str} {F F' : List D → Option D} (G : KnP P w K mg base k x n F) (h : ∀ ds d, F' ds = some d → F ds = some d) : KnP P w K mg base k x n F' :=
  let ⟨f, fd, ps, a, b, c, d, e⟩ := G.ex; ⟨⟨f, fd, ps, a, b, c, d, fnP_imp e h⟩, fun ds d e => G.ar ds d (h ds d e)⟩
end
/-! ### calls of known defs -/
section
variable {X : Cx} {pos p : Pos} {k n m : Nat} {x : Str} {e : Expr} {es : List Expr} {F : List D → Option D}
theorem ep_callK {fr : Bool} {h : Rh → Option (List D)} (G : KnP X.prog X.w X.K X.mg X.base k x n F) (hr : Room k X.A) (hg : Gl X x) (ha : AP fr X (e :: es) h)
    (hdb : (x == ("__debug__" : Str)) = false := by decide) (he : starEach (e :: es) X.env = (false, eval e X.env) :: starEach es X.env := by rfl) (hpl : (backTo pos (starEach es X.env)).any (·.1) = false := by rfl) : EP true X (.Call (.Name x p) (e :: es) [] pos) (fnE F h) := by
  obtain ⟨⟨f, fd, ps, hm, hk, hb, hps, G1⟩, har⟩ := G
  obtain ⟨t, pe, hq⟩ := ha
  refine ⟨_, pe_call G1 hr hg hm hk hb .nil pass0 pe hdb he hpl, fun ρ σ H d Q R hd q => ?_⟩
  unfold fnE at hd
  split at hd
  · rename_i ds e1
    refine hq ρ σ H ds _ R e1 fun vs H1 fs s r _ => ?_
    show spP X.K n F (vs ++ []) H1 Q _
    rw [List.append_nil]
    exact ⟨r.length.trans (har ds d hd), ds, fs, d, r, hd, s.tab R.tb, fun v H' fp s2 rv nd nw => q v H' fp (same_trans s s2) rv fun _ => ⟨nd, fun a m => Same.new s (nw a m)⟩⟩
  · cases hd
theorem ev_callK {g : Rh → Option (List D × Rh)} (G : KnP X.prog X.w X.K X.mg X.base k x n F) (hr : Room k X.A) (hg : Gl X x) (ha : AV X (e :: es) g)
    (hdb : (x == ("__debug__" : Str)) = false := by decide) (he : starEach (e :: es) X.env = (false, eval e X.env) :: starEach es X.env := by rfl) (hpl : (backTo pos (starEach es X.env)).any (·.1) = false := by rfl) : EV X (.Call (.Name x p) (e :: es) [] pos) (fnV F g) := by
  obtain ⟨⟨f, fd, ps, hm, hk, hb, hps, G1⟩, har⟩ := G
  obtain ⟨t, pe, hq⟩ := ha
  refine ⟨_, pe_call G1 hr hg hm hk hb .nil pass0 pe hdb he hpl, fun Fm L ρ σ H fo d ρ' Q R hd q => ?_⟩
  unfold fnV at hd
  split at hd
  · rename_i ds ρ1 e1
    cases e2 : F ds with
    | none => rw [e2] at hd; cases hd
    | some d1 =>
      rw [e2] at hd; cases hd
      refine hq Fm L ρ σ H fo ds ρ' _ R e1 fun vs H1 f1 fs R1 fr k1 => ?_
      show spP X.K n F (vs ++ []) H1 Q _
      rw [List.append_nil]
      exact ⟨fr.rp.length.trans (har ds _ e2), ds, fs, d, fr.rp, e2, R1.tb, fun v H' fp s2 rv nd nw => q v H' f1 fp (R1.same s2) (R1.fresh s2 rv nd nw) (k1.trans (Keep.of_same s2))⟩
  · cases hd
def agChk (m i : Nat) : List (Option Nat) → Bool
  | [] => false
  | some j :: l => match m with
    | 0 => j == i && agNo i l
    | m + 1 => !(j == i) && agChk m i l
  | none :: l => match m with
    | 0 => false
    | m + 1 => agChk m i l
where agNo (i : Nat) : List (Option Nat) → Bool
  | [] => true
  | some j :: l => !(j == i) && agNo i l
  | none :: l => agNo i l
theorem agNo_ok {i : Nat} : ∀ {l : List (Option Nat)}, agChk.agNo i l = true → ∀ j : Nat, l[j]? ≠ some (some i)
  | [], _, j, e => by simp at e
  | some a :: l, h, j, e => by
    unfold agChk.agNo at h
    rw [Bool.and_eq_true] at h
    cases j with
    | zero => simp at e; subst e; simp at h
    | succ j => exact agNo_ok h.2 j (by simpa using e)
  | none :: l, h, j, e => by
    unfold agChk.agNo at h
    cases j with
    | zero => simp at e
    | succ j => exact agNo_ok h j (by simpa using e)
theorem agChk_ok {i : Nat} : ∀ {l : List (Option Nat)} {m : Nat}, agChk m i l = true → l[m]? = some (some i) ∧ ∀ j : Nat, l[j]? = some (some i) → j = m
  | [], m, h => by simp [agChk] at h
  | some a :: l, 0, h => by
    unfold agChk at h
    rw [Bool.and_eq_true] at h
    have ha : a = i := by simpa using h.1
    subst ha
    refine ⟨rfl, fun j e => ?_⟩
    cases j with
    | zero => rfl
    | succ j => exact absurd (by simpa using e) (agNo_ok h.2 j)
  | some a :: l, m + 1, h => by
    unfold agChk at h
    simp only [Bool.and_eq_true] at h
    obtain ⟨h1, h2⟩ := agChk_ok h.2
    refine ⟨by simpa using h1, fun j e => ?_⟩
    cases j with
    | zero => simp at e; subst e; simp at h
    | succ j => rw [h2 j (by simpa using e)]
  | none :: l, 0, h => by simp [agChk] at h
  | none :: l, m + 1, h => by
    unfold agChk at h
    obtain ⟨h1, h2⟩ := agChk_ok h
    refine ⟨by simpa using h1, fun j e => ?_⟩
    cases j with
    | zero => simp at e
    | succ j => rw [h2 j (by simpa using e)]
theorem ev_callN {i : Nat} {as : List Ag} {F : List D → Option (D × D)} (G : KnM X.prog X.w X.K X.mg X.base k x n m F) (hr : Room k X.A) (hg : Gl X x) (ha : AgOk X (e :: es) as) (hn : as.length = n) (hi : agChk m i (as.map agIx) = true)
    (hdb : (x == ("__debug__" : Str)) = false := by decide) (he : starEach (e :: es) X.env = (false, eval e X.env) :: starEach es X.env := by rfl) (hpl : (backTo pos (starEach es X.env)).any (·.1) = false := by rfl) : EV X (.Call (.Name x p) (e :: es) [] pos) (callM i as F) := by
  obtain ⟨f, fd, ps, hm, hk, hb, hps, G1⟩ := G.ex
  exact ev_callM G1 hr hg hm hk hb ha hn (agChk_ok hi).1 (fun j _ e => (agChk_ok hi).2 j e) hdb he hpl
end
/-! ### isinstance -/
def tyN : D → String
  | .none => "NoneType"
  | .bool _ => "bool"
  | .int _ => "int"
  | .str _ => "str"
  | .list _ => "list"
  | .tuple _ => "tuple"
  | .dict _ => "dict"
def locked : D → Bool
  | .dict ((.bool _, _) :: _) => true
  | .dict ((.tuple _, _) :: _) => true
  | _ => false
theorem not_frz {H : Hp} {a : Addr} {kvs : List (D × D)} {vs : List V} (h : IsFrz H a (kvs.map (·.1)) vs) : locked (.dict kvs) = true := by
  cases kvs with
  | nil => rcases h with ⟨_, _, _, h, _⟩ | ⟨_, _, _, h, _⟩ <;> cases h
  | cons p kvs =>
    obtain ⟨p1, p2⟩ := p
    rcases h with ⟨_, _, _, h, _⟩ | ⟨_, _, _, h, _⟩ <;> (simp only [List.map_cons, List.cons.injEq] at h; rw [h.1]; rfl)
theorem not_nct {H : Hp} {a : Addr} {kvs : List (D × D)} {vs : List V} (h : IsNct H a (kvs.map (·.1)) vs) : locked (.dict kvs) = true := by
  cases kvs with
  | nil => obtain ⟨_, _, h, _⟩ := h; cases h
  | cons p kvs =>
    obtain ⟨p1, p2⟩ := p
    obtain ⟨_, _, h, _⟩ := h
    simp only [List.map_cons, List.cons.injEq] at h; rw [h.1]; rfl
theorem Rp.tyX {K : PySem.W.Frag} {H : Hp} {v : V} {d : D} {f : List Addr} (r : Rp K H v d f) (hl : locked d = false) : TyX K H v (.type (tyN d)) := by
  cases r with
  | non => exact .base .non
  | bl b => exact .base (.bl b)
  | int i => exact .base (.int i)
  | str x => exact .base (.str x)
  | lst h1 h2 h3 => exact .base (.lst h1)
  | tup h1 h2 h3 => exact .base (.tup h1)
  | dct h1 h2 =>
    rcases h1 with ⟨kvs, h, _⟩ | ⟨kvs, h, _⟩
    · exact .base (.dK h)
    · exact .base (.dT h)
  | dcn h1 h2 => rw [not_nct h1] at hl; cases hl
  | dcf h1 h2 => rw [not_frz h1] at hl; cases hl
def isiD (T : String) (d : D) : Option D := if locked d = true then none else (kitB (tyN d) T).map .bool
theorem kb_NoneType_int : kitB "NoneType" "int" = some false := by decide +kernel
theorem kb_bool_int : kitB "bool" "int" = some true := by decide +kernel
theorem kb_int_int : kitB "int" "int" = some true := by decide +kernel
theorem kb_str_int : kitB "str" "int" = some false := by decide +kernel
theorem kb_list_int : kitB "list" "int" = some false := by decide +kernel
theorem kb_tuple_int : kitB "tuple" "int" = some false := by decide +kernel
theorem kb_dict_int : kitB "dict" "int" = some false := by decide +kernel
theorem isi_int (d : D) (h : locked d = false) : isiD "int" d = some (.bool (match d with | .int _ => true | .bool _ => true | _ => false)) := by
  cases d <;> simp only [isiD, h, tyN, kb_NoneType_int, kb_bool_int, kb_int_int, kb_str_int, kb_list_int, kb_tuple_int, kb_dict_int, Option.map_some, Bool.false_eq_true, if_false]
theorem kb_NoneType_bool : kitB "NoneType" "bool" = some false := by decide +kernel
theorem kb_bool_bool : kitB "bool" "bool" = some true := by decide +kernel
theorem kb_int_bool : kitB "int" "bool" = some false := by decide +kernel
theorem kb_str_bool : kitB "str" "bool" = some false := by decide +kernel
theorem kb_list_bool : kitB "list" "bool" = some false := by decide +kernel
theorem kb_tuple_bool : kitB "tuple" "bool" = some false := by decide +kernel
theorem kb_dict_bool : kitB "dict" "bool" = some false := by decide +kernel
theorem isi_bool (d : D) (h : locked d = false) : isiD "bool" d = some (.bool (match d with | .bool _ => true | _ => false)) := by
  cases d <;> simp only [isiD, h, tyN, kb_NoneType_bool, kb_bool_bool, kb_int_bool, kb_str_bool, kb_list_bool, kb_tuple_bool, kb_dict_bool, Option.map_some, Bool.false_eq_true, if_false]
theorem kb_NoneType_str : kitB "NoneType" "str" = some false := by decide +kernel
theorem kb_bool_str : kitB "bool" "str" = some false := by decide +kernel
theorem kb_int_str : kitB "int" "str" = some false := by decide +kernel
theorem kb_str_str : kitB "str" "str" = some true := by decide +kernel
theorem kb_list_str : kitB "list" "str" = some false := by decide +kernel
theorem kb_tuple_str : kitB "tuple" "str" = some false := by decide +kernel
theorem kb_dict_str : kitB "dict" "str" = some false := by decide +kernel
theorem isi_str (d : D) (h : locked d = false) : isiD "str" d = some (.bool (match d with | .str _ => true | _ => false)) := by
  cases d <;> simp only [isiD, h, tyN, kb_NoneType_str, kb_bool_str, kb_int_str, kb_str_str, kb_list_str, kb_tuple_str, kb_dict_str, Option.map_some, Bool.false_eq_true, if_false]
theorem kb_NoneType_tuple : kitB "NoneType" "tuple" = some false := by decide +kernel
theorem kb_bool_tuple : kitB "bool" "tuple" = some false := by decide +kernel
theorem kb_int_tuple : kitB "int" "tuple" = some false := by decide +kernel
theorem kb_str_tuple : kitB "str" "tuple" = some false := by decide +kernel
theorem kb_list_tuple : kitB "list" "tuple" = some false := by decide +kernel
theorem kb_tuple_tuple : kitB "tuple" "tuple" = some true := by decide +kernel
theorem kb_dict_tuple : kitB "dict" "tuple" = some false := by decide +kernel
theorem isi_tuple (d : D) (h : locked d = false) : isiD "tuple" d = some (.bool (match d with | .tuple _ => true | _ => false)) := by
  cases d <;> simp only [isiD, h, tyN, kb_NoneType_tuple, kb_bool_tuple, kb_int_tuple, kb_str_tuple, kb_list_tuple, kb_tuple_tuple, kb_dict_tuple, Option.map_some, Bool.false_eq_true, if_false]
theorem kb_NoneType_list : kitB "NoneType" "list" = some false := by decide +kernel
theorem kb_bool_list : kitB "bool" "list" = some false := by decide +kernel
theorem kb_int_list : kitB "int" "list" = some false := by decide +kernel
theorem kb_str_list : kitB "str" "list" = some false := by decide +kernel
theorem kb_list_list : kitB "list" "list" = some true := by decide +kernel
theorem kb_tuple_list : kitB "tuple" "list" = some false := by decide +kernel
theorem kb_dict_list : kitB "dict" "list" = some false := by decide +kernel
theorem isi_list (d : D) (h : locked d = false) : isiD "list" d = some (.bool (match d with | .list _ => true | _ => false)) := by
  cases d <;> simp only [isiD, h, tyN, kb_NoneType_list, kb_bool_list, kb_int_list, kb_str_list, kb_list_list, kb_tuple_list, kb_dict_list, Option.map_some, Bool.false_eq_true, if_false]
theorem kb_NoneType_dict : kitB "NoneType" "dict" = some false := by decide +kernel
theorem kb_bool_dict : kitB "bool" "dict" = some false := by decide +kernel
theorem kb_int_dict : kitB "int" "dict" = some false := by decide +kernel
theorem kb_str_dict : kitB "str" "dict" = some false := by decide +kernel
theorem kb_list_dict : kitB "list" "dict" = some false := by decide +kernel
theorem kb_tuple_dict : kitB "tuple" "dict" = some false := by decide +kernel
theorem kb_dict_dict : kitB "dict" "dict" = some true := by decide +kernel
theorem isi_dict (d : D) (h : locked d = false) : isiD "dict" d = some (.bool (match d with | .dict _ => true | _ => false)) := by
  cases d <;> simp only [isiD, h, tyN, kb_NoneType_dict, kb_bool_dict, kb_int_dict, kb_str_dict, kb_list_dict, kb_tuple_dict, kb_dict_dict, Option.map_some, Bool.false_eq_true, if_false]
section
variable {X : Cx} {pos p p2 : Pos} {a : Expr} {fa : Bool} {h : Rh → Option D} {T : String}
theorem pe_isi {ta : TE} (hg : Gl X "isinstance") (hm : X.mg "isinstance" = none) (hgT : Gl X (Str.ofString T)) (hmT : X.mg (Str.ofString T) = none) (hb : bootBuiltins (Str.ofString T) = some (.type T)) (hn : Str.ofString T ≠ "__name__") (hd : (Str.ofString T == ("__debug__" : Str)) = false)
    (ha : PE X a ta) (hs1 : starEach [a, .Name (Str.ofString T) p2] X.env = (false, eval a X.env) :: starEach [.Name (Str.ofString T) p2] X.env) (hs2 : starEach [.Name (Str.ofString T) p2] X.env = (false, eval (.Name (Str.ofString T) p2) X.env) :: starEach [] X.env)
    (hpl : (backTo pos (starEach [.Name (Str.ofString T) p2] X.env)).any (·.1) = false) : PE X (.Call (.Name "isinstance" p) [a, .Name (Str.ofString T) p2] [] pos) (tCB (rIsi X.K) (tCons ta (tCons (tC (.ty T)) tNil))) :=
  pe_callB (id := "isinstance") call_isi hg hm (by decide +kernel) (pa_cons ha (pa_cons (pe_bltn hgT hmT hb rfl hn hd) pa_nil hs2) hs1) (by decide) (by decide) hs1 hpl
theorem ep_isi (T : String) (hg : Gl X "isinstance") (hm : X.mg "isinstance" = none) (hgT : Gl X (Str.ofString T)) (hmT : X.mg (Str.ofString T) = none) (hb : bootBuiltins (Str.ofString T) = some (.type T)) (ha : EP fa X a h) (hn : Str.ofString T ≠ "__name__" := by decide) (hd : (Str.ofString T == ("__debug__" : Str)) = false := by decide)
    (hs1 : starEach [a, .Name (Str.ofString T) p2] X.env = (false, eval a X.env) :: starEach [.Name (Str.ofString T) p2] X.env := by rfl) (hs2 : starEach [.Name (Str.ofString T) p2] X.env = (false, eval (.Name (Str.ofString T) p2) X.env) :: starEach [] X.env := by rfl)
    (hpl : (backTo pos (starEach [.Name (Str.ofString T) p2] X.env)).any (·.1) = false := by rfl) : EP true X (.Call (.Name "isinstance" p) [a, .Name (Str.ofString T) p2] [] pos) (u1 (isiD T) h) := by
  obtain ⟨t, pe, hq⟩ := ha
  refine ⟨_, pe_isi hg hm hgT hmT hb hn hd pe hs1 hs2 hpl, fun ρ σ H d Q R hh q => ?_⟩
  unfold u1 at hh
  cases e0 : h ρ with
  | none => simp [e0] at hh
  | some x =>
    simp only [e0, Option.bind_some] at hh
    unfold isiD at hh
    by_cases hlk : locked x = true
    · rw [if_pos hlk] at hh; cases hh
    rw [if_neg hlk] at hh
    have hlk' : locked x = false := by simpa using hlk
    cases e1 : kitB (tyN x) T with
    | none => rw [e1] at hh; cases hh
    | some b =>
      rw [e1] at hh; cases hh
      refine hq ρ σ H x _ R e0 fun v H1 fp s r _ => ?_
      exact ⟨v, .ty T, .type (tyN x), .type T, b, rfl, .ty T, r.tyX hlk', kit_ty e1, q _ H1 [] s (.bl b) fun _ => no_mem⟩
end
end PV

set_option Elab.async false
set_option linter.all false
set_option maxRecDepth 100000
set_option maxHeartbeats 2000000
namespace PV
open PySem PySem.Spec PyProof.Rows L2
variable [TN]

/-! ### statements by short names -/
section
variable {X : Cx} {pos : Pos} {e : Expr} {st : Stmt} {i : Nat} {g : Rh → Option (D × Rh)}
theorem ss_set (ps : ∀ {te : TE}, PE X e te → PS X st (tAsg te (gName i))) (he : EV X e g) : SS X st (sSet (.nm i) g) := by
  obtain ⟨t, pe, hq⟩ := he
  refine ⟨_, ps pe, fun F L ρ σ H fo D0 R gd => ?_⟩
  unfold sSet at gd
  cases e1 : g ρ with
  | none => simp only [e1, Good] at gd
  | some p =>
    obtain ⟨d, ρ1⟩ := p
    simp only [e1] at gd
    refine hq F L ρ σ H fo d ρ1 _ R e1 fun v H1 f1 fp R1 fr k1 => ?_
    cases e2 : patS .own (.nm i) d ρ1 with
    | none => simp only [e2, Good] at gd
    | some ρ2 =>
      simp only [e2] at gd
      exact gd _ H1 _ (R1.setOwn fr (by simpa [patS] using e2)) k1
theorem ss_retN : SS X (.Return none pos) (sRet (lift (cst .none))) :=
  ⟨_, ps_retN, fun F L ρ σ H fo D0 R gd => by
    exact gd .non σ H fo [] R ⟨.non, List.nodup_nil, fun a m => (nomatch m), fun _ _ _ a m => (nomatch m)⟩ Keep.refl⟩
end
/-! ### a part of a new value is new -/
section
variable {X : Cx} {pos : Pos} {a b : Expr} {fb : Bool} {h1 h2 : Rh → Option D} {g1 g2 : Rh → Option (D × Rh)}
theorem RpL.getSub {K : PySem.W.Frag} {H : Hp} : ∀ {ds : List D} {vs : List V} {fp : List Addr}, RpL K H vs ds fp → ∀ {i : Nat} {d : D}, ds[i]? = some d → ∃ v f, vs[i]? = some v ∧ Rp K H v d f ∧ f.Sublist fp
  | [], _, _, h, i, d, e => by simp at e
  | d :: ds, _, _, h, 0, d', e => by
    cases h with
    | cons h1 h2 =>
      simp at e; subst e
      exact ⟨_, _, rfl, h1, List.sublist_append_left ..⟩
  | d :: ds, _, _, h, i + 1, d', e => by
    cases h with
    | cons h1 h2 =>
      obtain ⟨v, f, e1, r, m⟩ := RpL.getSub h2 (i := i) (d := d') (by simpa using e)
      exact ⟨v, f, by simpa using e1, r, m.trans (List.sublist_append_right ..)⟩
theorem RpL.atSub {K : PySem.W.Frag} {H : Hp} {ds : List D} {vs : List V} {fs : List Addr} (r : RpL K H vs ds fs) {k : Int} {d : D} (h : atI ds k = some d) : ∃ v f, atI vs k = some v ∧ Rp K H v d f ∧ f.Sublist fs := by
  unfold atI at h ⊢
  cases e : ixN ds.length k with
  | none => rw [e] at h; cases h
  | some j =>
    rw [e] at h
    obtain ⟨v, f, e1, r1, m⟩ := r.getSub (show ds[j]? = some d from h)
    exact ⟨v, f, by rw [r.length, e]; exact e1, r1, m⟩
theorem ix_sub {K : PySem.W.Frag} {H : Hp} {x y : V} {d e z : D} {fx fy : List Addr} {Q : VK} (rx : Rp K H x d fx) (ry : Rp K H y e fy) (h : ixD d e = some z) (q : ∀ v f, Rp K H v z f → f.Sublist fx → Q v H) : rIxL K x y H Q ∨ rIxT K x y H Q := by
  unfold ixD at h
  split at h
  · cases ry
    cases rx with
    | lst h1 h2 h3 =>
      obtain ⟨v, f, e1, r1, m⟩ := h3.atSub h
      exact .inl ⟨_, _, _, v, rfl, rfl, .inl (.inl h1), e1, q v f r1 (m.trans (List.sublist_cons_self ..))⟩
  · cases ry
    cases rx with
    | tup h1 h2 h3 =>
      obtain ⟨v, f, e1, r1, m⟩ := h3.atSub h
      exact .inr ⟨_, _, _, v, rfl, rfl, sqt h1, e1, q v f r1 m⟩
  · cases h
theorem ep_ixF (ha : EP true X a h1) (hb : EP fb X b h2) (hs : PlainIx b) : EP true X (.Subscript a b pos) (o2 ixD h1 h2) := by
  obtain ⟨ta, pa, qa⟩ := ha
  obtain ⟨tb, pb, qb⟩ := hb
  refine ⟨_, pe_ix (ix_list.or ix_tup) pa pb hs, fun ρ σ H d Q R h q => ?_⟩
  obtain ⟨x, y, e1, e2, e3⟩ := o2_some h
  refine qa ρ σ H x _ R e1 fun v H1 fp s r1 n1 => qb ρ σ H1 y _ (R.same s) e2 fun u H2 fq s2 r2 _ => ?_
  exact ix_sub (r1.same s2) r2 e3 fun w f rw' m => q w H2 f (same_trans s s2) rw' fun _ => ⟨m.nodup (n1 rfl).1, fun c hc => (n1 rfl).2 c (m.subset hc)⟩
theorem ev_ix (ha : EV X a g1) (hb : EV X b g2) (hs : PlainIx b) : EV X (.Subscript a b pos) (v2 ixD g1 g2) := by
  obtain ⟨ta, pa, qa⟩ := ha
  obtain ⟨tb, pb, qb⟩ := hb
  refine ⟨_, pe_ix (ix_list.or ix_tup) pa pb hs, fun F L ρ σ H f d ρ' Q R h q => ?_⟩
  obtain ⟨x, ρ1, y, e1, e2, e3⟩ := v2_some h
  refine qa F L ρ σ H f x ρ1 _ R e1 fun v H1 f1 fp R1 fr1 k1 => qb (F.hold fp) L ρ1 σ H1 f1 y ρ' _ (R1.hold fr1) e2 fun u H2 f2 fq R2 fr2 k2 => ?_
  have fr1' := fr1.over k2 R2
  exact ix_sub fr1'.rp fr2.rp e3 fun w f rw' m => q w H2 f2 f R2.unhold ⟨rw', m.nodup fr1'.nd, fun c hc => fr1'.nf c (m.subset hc), fun i cc ec c hc => fr1'.dj i cc ec c (m.subset hc)⟩ (k1.trans k2.unhold)
/-- name[e], e with effects; what is found is pure -/
def ixV (i : Nat) (g : Rh → Option (D × Rh)) : Rh → Option (D × Rh) := fun ρ => match getS i ρ with
  | some (.list ds) => match pureL ds, g ρ with
    | true, some (k, ρ1) => match getS i ρ1 with
      | some d => match ixD d k with
        | some z => (gd z).map fun z => (z, ρ1)
        | none => none
      | none => none
    | _, _ => none
  | some (.tuple ds) => match pureL ds, g ρ with
    | true, some (k, ρ1) => match getS i ρ1 with
      | some d => match ixD d k with
        | some z => (gd z).map fun z => (z, ρ1)
        | none => none
      | none => none
    | _, _ => none
  | _ => none
theorem ixV_some {i : Nat} {g : Rh → Option (D × Rh)} {ρ ρ' : Rh} {z : D} (h : ixV i g ρ = some (z, ρ')) : ∃ d0 k d, getS i ρ = some d0 ∧ g ρ = some (k, ρ') ∧ getS i ρ' = some d ∧ ixD d k = some z ∧ pureD z = true := by
  have go : ∀ {k : D} {ρ1 : Rh}, (match getS i ρ1 with
      | some d => match ixD d k with
        | some z => (gd z).map fun z => (z, ρ1)
        | none => none
      | none => none) = some (z, ρ') → ρ1 = ρ' ∧ ∃ d, getS i ρ1 = some d ∧ ixD d k = some z ∧ pureD z = true := by
    intro k ρ1 hh
    split at hh
    · rename_i d e1
      split at hh
      · rename_i w e2
        unfold gd at hh
        split at hh
        · rename_i hp; cases hh; exact ⟨rfl, d, e1, e2, hp⟩
        · cases hh
      · cases hh
    · cases hh
  unfold ixV at h
  split at h
  · rename_i ds e0
    split at h
    · rename_i k ρ1 _ e1
      obtain ⟨rfl, d, a, b, c⟩ := go h
      exact ⟨_, k, d, e0, e1, a, b, c⟩
    · cases h
  · rename_i ds e0
    split at h
    · rename_i k ρ1 _ e1
      obtain ⟨rfl, d, a, b, c⟩ := go h
      exact ⟨_, k, d, e0, e1, a, b, c⟩
    · cases h
  · cases h
theorem ev_ixV {i : Nat} (pa : PE X a (tVar i)) (hb : EV X b g2) (hs : PlainIx b) : EV X (.Subscript a b pos) (ixV i g2) := by
  obtain ⟨tb, pb, qb⟩ := hb
  refine ⟨_, pe_ix (ix_list.or ix_tup) pa pb hs, fun F L ρ σ H f z ρ' Q R h q => ?_⟩
  obtain ⟨d0, k, d, e0, e1, e2, e3, e4⟩ := ixV_some h
  obtain ⟨c, ec, _⟩ := getS_some e0
  obtain ⟨v, ev, _⟩ := R.rp i c ec
  refine ⟨v, ev, qb F L ρ σ H f k ρ' _ R e1 fun u H1 f1 fp R1 fr1 k1 => ?_⟩
  obtain ⟨c1, ec1, ed1⟩ := getS_some e2
  obtain ⟨v1, ev1, r1⟩ := R1.rp i c1 ec1
  rw [ev] at ev1; cases ev1
  rw [ed1] at r1
  refine ix_sub r1 fr1.rp e3 fun w fw rw' m => ?_
  have : fw = [] := Rp.pure _ _ _ rw' e4
  subst this
  exact q w H1 f1 [] R1 ⟨rw', List.nodup_nil, fun _ m => (nomatch m), fun _ _ _ _ m => (nomatch m)⟩ k1
end
/-! ### append, extend -/
section
variable {X : Cx} {pos apos : Pos} {o e : Expr} {i : Nat} {g : Rh → Option (D × Rh)}
def lstAt (i : Nat) (ρ : Rh) : Bool := match getS i ρ with
  | some (.list _) => true
  | _ => false
def appendV (i : Nat) (g : Rh → Option (D × Rh)) : Rh → Option (D × Rh) := fun ρ => match lstAt i ρ, g ρ with
  | true, some (d, ρ1) => match wr i ρ1 with
    | some (.list ds, o) => if ds.length + 1 < 1000000 then some (.none, ρ1.set i (some ⟨.list (ds ++ [d]), o⟩)) else none
    | _ => none
  | _, _ => none
def extendV (i : Nat) (g : Rh → Option (D × Rh)) : Rh → Option (D × Rh) := fun ρ => match lstAt i ρ, g ρ with
  | true, some (.list es, ρ1) => match wr i ρ1 with
    | some (.list ds, o) => if ds.length + es.length < 1000000 then some (.none, ρ1.set i (some ⟨.list (ds ++ es), o⟩)) else none
    | _ => none
  | _, _ => none
theorem lstAt_ok {K : PySem.W.Frag} {F : Fm} {L : Nat → Option V} {ρ : Rh} {σ : L2.St} {H : Hp} {f : Nat → List Addr} (R : Rho K F L ρ σ H f) (h : lstAt i ρ = true) : ∃ a xs, σ[i]? = some (some (.ref a)) ∧ H a = some (.lst xs) := by
  unfold lstAt at h
  split at h
  · rename_i ds e
    obtain ⟨c, ec, ed⟩ := getS_some e
    obtain ⟨v, ev, r⟩ := R.rp i c ec
    rw [ed] at r
    revert r
    generalize f i = fi
    intro r
    cases r with
    | lst h1 h2 h3 => exact ⟨_, _, ev, h1⟩
  · cases h
theorem Rp.lstInv {K : PySem.W.Frag} {H : Hp} {a : Addr} {ds : List D} {fp : List Addr} (r : Rp K H (.ref a) (.list ds) fp) : ∃ xs fs, H a = some (.lst xs) ∧ fp = a :: fs ∧ RpL K H xs ds fs := by
  cases r with
  | lst h1 h2 h3 => exact ⟨_, _, h1, rfl, h3⟩
/-- a list in a slot grows -/
theorem grow {K : PySem.W.Frag} {F : Fm} {L : Nat → Option V} {ρ : Rh} {σ : L2.St} {H : Hp} {f : Nat → List Addr} (R : Rho K F L ρ σ H f) {ds es : List D} {ow : Ow} {a : Addr} {ws : List V} {fp : List Addr} (e : wr i ρ = some (.list ds, ow)) (hv : σ[i]? = some (some (.ref a))) (hn : ds.length + es.length < 1000000)
    (rw' : RpL K H ws es fp) (nd : fp.Nodup) (nf : ∀ b ∈ fp, ¬ F.all b) (dj : ∀ j c, ρ[j]? = some (some c) → ∀ b ∈ fp, b ∉ f j) :
    ∃ xs, H a = some (.lst xs) ∧ xs.length = ds.length ∧ Rho K F L (ρ.set i (some ⟨.list (ds ++ es), ow⟩)) σ (upd H a (.lst (xs ++ ws))) (fun j => if j = i then f i ++ fp else f j) ∧ Keep F.all H (upd H a (.lst (xs ++ ws))) := by
  obtain ⟨ec, hw⟩ := wr_some e
  obtain ⟨v, ev, r⟩ := R.rp i _ ec
  rw [hv] at ev; cases ev
  obtain ⟨ndi, nfi⟩ := R.nd i _ ec hw
  obtain ⟨xs, fs, h1, hfi, h3⟩ := r.lstInv
  have hm : Mut (H a) := by rw [h1]; trivial
  have han : a ∉ fs := by rw [hfi] at ndi; exact (List.nodup_cons.mp ndi).1
  have hap : a ∉ fp := fun m => dj i _ ec a m (by rw [hfi]; exact List.mem_cons_self)
  have kp : Keep (fun b => b ≠ a) H (upd H a (.lst (xs ++ ws))) := keep_ne hm
  have r3 := RpL.keep kp _ _ _ h3 fun b m => fun z => han (by rw [← z]; exact m)
  have r4 := RpL.keep kp _ _ _ rw' fun b m => fun z => hap (by rw [← z]; exact m)
  have hl := h3.length
  have hl2 := rw'.length
  refine ⟨xs, h1, hl, ?_⟩
  have rn : Rp K (upd H a (.lst (xs ++ ws))) (.ref a) (.list (ds ++ es)) (f i ++ fp) := by
    rw [hfi]
    exact .lst upd_same (by rw [List.length_append, hl, hl2]; exact mil_line (by omega)) (RpL.append r3 r4)
  exact R.mutate ec hw hv rn (List.nodup_append.mpr ⟨ndi, nd, fun b m c m' z => by subst z; exact dj i _ ec b m' m⟩)
    (fun b m => (List.mem_append.mp m).imp id fun m => ⟨nf b m, fun j cj hj ej => dj j cj ej b m⟩) (keep_upd hm fun z => z (by rw [hfi]; exact List.mem_cons_self))
theorem ev_append (pa : PE X o (tVar i)) (he : EV X e g) (hbase : attributeBase o "append" X.env (eval o X.env) = eval o X.env := by rfl)
    (hfew : ((backTo pos (starEach [e] X.env)).all (fun x => !x.1) && (backToKw pos (keywordEach [] X.env)).all (fun x => x.1.isSome) && decide (([e] : List Expr).length + ([] : List Keyword).length + (if ([] : List Keyword).isEmpty then 0 else 1) < 30)) = true := by rfl)
    (hline : (apos.endLine == pos.line) = true := by rfl) (hs : starEach [e] X.env = (false, eval e X.env) :: starEach [] X.env := by rfl) (hplain : (backTo pos (starEach [] X.env)).any (·.1) = false := by rfl) : EV X (.Call (.Attribute o "append" apos) [e] [] pos) (appendV i g) := by
  obtain ⟨t, pe, hq⟩ := he
  refine ⟨_, pe_bm PySem.F.plainAttrs_list PySem.F.slot_list_append PySem.F.type_list_append mt_append pa (pa_cons pe pa_nil hs) hbase hfew hline hs hplain, fun F L ρ σ H f d ρ' Q R h q => ?_⟩
  unfold appendV at h
  split at h
  · rename_i d1 ρ1 e1 e2
    split at h
    · rename_i ds ow e3
      split at h
      · rename_i hn
        cases h
        obtain ⟨a, xs0, ev, h0⟩ := lstAt_ok R e1
        refine ⟨.ref a, ev, .inl ⟨rfl, xs0, .inl (.inl h0)⟩, hq F L ρ σ H f d1 ρ1 _ R e2 fun v H1 f1 fp R1 fr1 k1 => ?_⟩
        obtain ⟨xs, h1, hl, R2, k2⟩ := grow R1 (es := [d1]) (ws := [v]) e3 ev (by simpa using hn) (by have := RpL.cons fr1.rp (RpL.nil (K := X.K) (H := H1)); rw [List.append_nil] at this; exact this) fr1.nd fr1.nf fr1.dj
        exact ⟨a, xs, v, rfl, rfl, h1, by rw [hl]; have := mil_line (n := ds.length + 1) (by omega); omega, q .non _ _ [] R2 ⟨.non, List.nodup_nil, fun _ m => (nomatch m), fun _ _ _ _ m => (nomatch m)⟩ (k1.trans k2)⟩
      · cases h
    · cases h
  · cases h
theorem ev_extend (pa : PE X o (tVar i)) (he : EV X e g) (hbase : attributeBase o "extend" X.env (eval o X.env) = eval o X.env := by rfl)
    (hfew : ((backTo pos (starEach [e] X.env)).all (fun x => !x.1) && (backToKw pos (keywordEach [] X.env)).all (fun x => x.1.isSome) && decide (([e] : List Expr).length + ([] : List Keyword).length + (if ([] : List Keyword).isEmpty then 0 else 1) < 30)) = true := by rfl)
    (hline : (apos.endLine == pos.line) = true := by rfl) (hs : starEach [e] X.env = (false, eval e X.env) :: starEach [] X.env := by rfl) (hplain : (backTo pos (starEach [] X.env)).any (·.1) = false := by rfl) : EV X (.Call (.Attribute o "extend" apos) [e] [] pos) (extendV i g) := by
  obtain ⟨t, pe, hq⟩ := he
  refine ⟨_, pe_bm PySem.F.plainAttrs_list PySem.F.slot_list_extend PySem.F.type_list_extend mt_extend pa (pa_cons pe pa_nil hs) hbase hfew hline hs hplain, fun F L ρ σ H f d ρ' Q R h q => ?_⟩
  unfold extendV at h
  split at h
  · rename_i es ρ1 e1 e2
    split at h
    · rename_i ds ow e3
      split at h
      · rename_i hn
        cases h
        obtain ⟨a, xs0, ev, h0⟩ := lstAt_ok R e1
        refine ⟨.ref a, ev, .inl ⟨rfl, xs0, .inl (.inl h0)⟩, hq F L ρ σ H f _ ρ1 _ R e2 fun v H1 f1 fp R1 fr1 k1 => ?_⟩
        obtain ⟨r1, n1, nf1, dj1⟩ := fr1
        cases r1 with
        | lst g1 g2 g3 =>
          rename_i b zs fs
          have n1' := (List.nodup_cons.mp n1).2
          obtain ⟨xs, h1, hl, R2, k2⟩ := grow R1 (es := es) (ws := zs) e3 ev hn g3 n1' (fun c m => nf1 c (List.mem_cons_of_mem _ m)) (fun j c ec y m => dj1 j c ec y (List.mem_cons_of_mem _ m))
          exact ⟨a, b, xs, zs, rfl, rfl, h1, g1, by rw [hl, g3.length]; exact mil_line (by omega), q .non _ _ [] R2 ⟨.non, List.nodup_nil, fun _ m => (nomatch m), fun _ _ _ _ m => (nomatch m)⟩ (k1.trans k2)⟩
      · cases h
    · cases h
  · cases h
end
theorem call_lenA {X : Cx} : CallR X (.builtin "len") (fun xs H Q => ∃ p ys, xs = [.ref p] ∧ (SqL X.K H p ys ∨ SqT X.K H p ys) ∧ Q (.int ys.length) H) := call_len_seq
theorem rn_lenA {K : PySem.W.Frag} : RNok true K (fun xs H Q => ∃ p ys, xs = [.ref p] ∧ (SqL K H p ys ∨ SqT K H p ys) ∧ Q (.int ys.length) H) lenF := rn_len
end PV

set_option Elab.async false
set_option linter.all false
set_option maxRecDepth 100000
set_option maxHeartbeats 2000000
namespace PV
open PySem PySem.Spec PyProof.Rows L2
variable [TN]

/-! ### dicts -/
def sKey : D → Option Key
  | .int i => some (.inl i)
  | .str x => some (.inr x)
  | _ => none
def sKeys : List D → Option (List Key)
  | [] => some []
  | d :: ds => match sKey d, sKeys ds with
    | some k, some ks => some (k :: ks)
    | _, _ => none
def tKey : D → Option (List Key)
  | .tuple ds => sKeys ds
  | _ => none
theorem sKey_kD (k : Key) : sKey (kD k) = some k := by cases k <;> rfl
theorem sKey_inv {d : D} {k : Key} (h : sKey d = some k) : d = kD k := by
  cases d <;> simp only [sKey, reduceCtorEq, Option.some.injEq] at h <;> subst h <;> rfl
theorem sKeys_kD (ks : List Key) : sKeys (ks.map kD) = some ks := by
  induction ks with
  | nil => rfl
  | cons k ks ih => simp [sKeys, sKey_kD, ih]
theorem sKeys_inv {ds : List D} {ks : List Key} (h : sKeys ds = some ks) : ds = ks.map kD := by
  induction ds generalizing ks with
  | nil => cases h; rfl
  | cons d ds ih =>
    unfold sKeys at h
    split at h
    · rename_i k ks' e1 e2
      cases h
      rw [List.map_cons, ← ih e2, ← sKey_inv e1]
    · cases h
def tD (ks : List Key) : D := .tuple (ks.map kD)
theorem tKey_tD (ks : List Key) : tKey (tD ks) = some ks := sKeys_kD ks
theorem tKey_inv {d : D} {ks : List Key} (h : tKey d = some ks) : d = tD ks := by
  cases d <;> simp only [tKey, reduceCtorEq] at h
  rw [sKeys_inv h]; rfl
section
variable {κ : Type} [DecidableEq κ]
def findG (kf : D → Option κ) (kvs : List (D × D)) (k : κ) : Option D := (kvs.find? fun p => decide (kf p.1 = some k)).map (·.2)
def putG (kf : D → Option κ) (kvs : List (D × D)) (k : κ) (kd d : D) : List (D × D) :=
  if (kvs.any fun p => decide (kf p.1 = some k)) = true then kvs.map fun p => if kf p.1 = some k then (p.1, d) else p else kvs ++ [(kd, d)]
theorem find_rel {K : PySem.W.Frag} {H : Hp} {c : κ → D} {kf : D → Option κ} (hc : ∀ k, kf (c k) = some k) (k : κ) : ∀ {hk : List (κ × V)} {kvs : List (D × D)} {fs : List Addr}, kvs.map (·.1) = hk.map (fun p => c p.1) → RpL K H (hk.map (·.2)) (kvs.map (·.2)) fs →
    match findG kf kvs k with
    | none => valV hk k = none
    | some z => ∃ u f, valV hk k = some u ∧ Rp K H u z f ∧ f.Sublist fs
  | [], [], _, _, _ => rfl
  | [], _ :: _, _, h, _ => by simp at h
  | _ :: _, [], _, h, _ => by simp at h
  | p :: hk, q :: kvs, fs, h, r => by
    simp only [List.map_cons, List.cons.injEq] at h
    simp only [List.map_cons] at r
    cases r with
    | cons r1 r2 =>
      rename_i f1 fs2
      have ih := find_rel (K := K) (H := H) hc k h.2 r2
      by_cases e : p.1 = k
      · have : findG kf (q :: kvs) k = some q.2 := by
          unfold findG
          rw [List.find?_cons, h.1, hc, e]; simp
        rw [this]
        exact ⟨p.2, f1, valV_pos e, r1, List.sublist_append_left ..⟩
      · have : findG kf (q :: kvs) k = findG kf kvs k := by
          unfold findG
          rw [List.find?_cons, h.1, hc]
          simp [e]
        rw [this, valV_neg e]
        cases e2 : findG kf kvs k with
        | none => rw [e2] at ih; exact ih
        | some z =>
          rw [e2] at ih
          obtain ⟨u, f, a, b, cc⟩ := ih
          exact ⟨u, f, a, b, cc.trans (List.sublist_append_right ..)⟩
theorem any_rel {c : κ → D} {kf : D → Option κ} (hc : ∀ k, kf (c k) = some k) (k : κ) : ∀ {hk : List (κ × V)} {kvs : List (D × D)}, kvs.map (·.1) = hk.map (fun p => c p.1) → (kvs.any fun p => decide (kf p.1 = some k)) = hk.any fun p => decide (p.1 = k)
  | [], [], _ => rfl
  | [], _ :: _, h => by simp at h
  | _ :: _, [], h => by simp at h
  | p :: hk, q :: kvs, h => by
    simp only [List.map_cons, List.cons.injEq] at h
    rw [List.any_cons, List.any_cons, any_rel hc k h.2, h.1, hc]
    simp
theorem repl_rel {K : PySem.W.Frag} {H : Hp} {c : κ → D} {kf : D → Option κ} (hc : ∀ k, kf (c k) = some k) (k : κ) {v : V} {d : D} (rv : Rp K H v d []) : ∀ {hk : List (κ × V)} {kvs : List (D × D)} {fs : List Addr}, kvs.map (·.1) = hk.map (fun p => c p.1) → RpL K H (hk.map (·.2)) (kvs.map (·.2)) fs →
    ∃ fs', fs'.Sublist fs ∧ (kvs.map fun p => if kf p.1 = some k then (p.1, d) else p).map (·.1) = (hk.map fun kv => if kv.1 = k then (kv.1, v) else kv).map (fun p => c p.1) ∧
      RpL K H ((hk.map fun kv => if kv.1 = k then (kv.1, v) else kv).map (·.2)) ((kvs.map fun p => if kf p.1 = some k then (p.1, d) else p).map (·.2)) fs'
  | [], [], fs, _, r => ⟨fs, List.Sublist.refl _, rfl, r⟩
  | [], _ :: _, _, h, _ => by simp at h
  | _ :: _, [], _, h, _ => by simp at h
  | p :: hk, q :: kvs, fs, h, r => by
    simp only [List.map_cons, List.cons.injEq] at h
    simp only [List.map_cons] at r
    cases r with
    | cons r1 r2 =>
      rename_i f1 fs2
      obtain ⟨fs', s, a, b⟩ := repl_rel hc k rv h.2 r2
      simp only [List.map_cons, h.1, hc, Option.some.injEq]
      by_cases e : p.1 = k
      · rw [if_pos e, if_pos e]
        exact ⟨[] ++ fs', s.trans (List.sublist_append_right ..), by rw [a], .cons rv b⟩
      · rw [if_neg e, if_neg e]
        exact ⟨f1 ++ fs', List.Sublist.append (List.Sublist.refl _) s, by rw [a, h.1], .cons r1 b⟩
theorem put_rel {K : PySem.W.Frag} {H : Hp} {c : κ → D} {kf : D → Option κ} (hc : ∀ k, kf (c k) = some k) (k : κ) {v : V} {d : D} (rv : Rp K H v d []) {hk : List (κ × V)} {kvs : List (D × D)} {fs : List Addr} (h : kvs.map (·.1) = hk.map (fun p => c p.1)) (r : RpL K H (hk.map (·.2)) (kvs.map (·.2)) fs) :
    ∃ fs', fs'.Sublist fs ∧ (putG kf kvs k (c k) d).map (·.1) = (putK hk k v).map (fun p => c p.1) ∧ RpL K H ((putK hk k v).map (·.2)) ((putG kf kvs k (c k) d).map (·.2)) fs' := by
  unfold putG putK
  rw [any_rel hc k h]
  by_cases e : (hk.any fun p => decide (p.1 = k)) = true
  · rw [if_pos e, if_pos e]
    exact repl_rel hc k rv h r
  · rw [if_neg e, if_neg e]
    refine ⟨fs, List.Sublist.refl _, by simp [h], ?_⟩
    rw [List.map_append, List.map_append]
    have := RpL.append r (RpL.cons rv (RpL.nil (K := K) (H := H)))
    simpa using this
end
def dlook (d k : D) : Option (Option D) := match d with
  | .dict ((.none, _) :: kvs) => match tKey k with
    | some ks => some (findG tKey kvs ks)
    | none => none
  | .dict ((.tuple _, _) :: _) => none
  | .dict ((.bool _, _) :: (.none, _) :: kvs) => match tKey k with
    | some ks => some (findG tKey kvs ks)
    | none => none
  | .dict ((.bool _, _) :: kvs) => match sKey k with
    | some s => some (findG sKey kvs s)
    | none => none
  | .dict kvs => match sKey k with
    | some s => some (findG sKey kvs s)
    | none => none
  | _ => none
theorem sKey_val {K : PySem.W.Frag} {H : Hp} {y : V} {d : D} {f : List Addr} {s : Key} (r : Rp K H y d f) (h : sKey d = some s) : y = kV s := by
  have := sKey_inv h
  subst this
  cases s <;> cases r <;> rfl
theorem keys_val {K : PySem.W.Frag} {H : Hp} : ∀ {ks : List Key} {xs : List V} {f : List Addr}, RpL K H xs (ks.map kD) f → xs = ks.map kV
  | [], _, _, h => by cases h; rfl
  | k :: ks, _, _, h => by
    cases h with
    | cons h1 h2 => rw [sKey_val h1 (sKey_kD k), List.map_cons, ← keys_val h2]
theorem tKey_val {K : PySem.W.Frag} {H : Hp} {y : V} {d : D} {f : List Addr} {ks : List Key} (r : Rp K H y d f) (h : tKey d = some ks) : ∃ b, y = .ref b ∧ H b = some (.tup (ks.map kV)) := by
  have := tKey_inv h
  subst this
  cases r with
  | tup h1 h2 h3 => rw [keys_val h3] at h1; exact ⟨_, rfl, h1⟩
def OkGet (K : PySem.W.Frag) (H : Hp) (ov : Option V) (o : Option D) (fs : List Addr) : Prop := match o with
  | none => ov = none
  | some z => ∃ u f, ov = some u ∧ Rp K H u z f ∧ f.Sublist fs
theorem not_none_kD {kvs : List (D × D)} {p : D} {hk : List (Key × V)} (h : ((PyData.none, p) :: kvs).map (·.1) = hk.map (fun q => kD q.1)) : False := by
  cases hk with
  | nil => simp at h
  | cons q hk =>
    simp only [List.map_cons, List.cons.injEq] at h
    obtain ⟨k, v⟩ := q
    cases k <;> simp [kD] at h
theorem not_bool_kD {kvs : List (D × D)} {b : Bool} {p : D} {hk : List (Key × V)} (h : ((PyData.bool b, p) :: kvs).map (·.1) = hk.map (fun q => kD q.1)) : False := by
  cases hk with
  | nil => simp at h
  | cons q hk =>
    simp only [List.map_cons, List.cons.injEq] at h
    obtain ⟨k, v⟩ := q
    cases k <;> simp [kD] at h
theorem not_nct_none {H : Hp} {a : Addr} {p : D} {kvs : List (D × D)} {vs : List V} (h : IsNct H a (((PyData.none, p) :: kvs).map (·.1)) vs) : False := by
  obtain ⟨_, _, h, _⟩ := h
  simp at h
theorem not_nct_bool {H : Hp} {a : Addr} {b : Bool} {p : D} {kvs : List (D × D)} {vs : List V} (h : IsNct H a (((PyData.bool b, p) :: kvs).map (·.1)) vs) : False := by
  obtain ⟨_, _, h, _⟩ := h
  simp at h
theorem look_s {K : PySem.W.Frag} {H : Hp} {a : Addr} {y : V} {k : D} {fy fs : List Addr} {s : Key} {hk : List (Key × V)} {kvs : List (D × D)} (g1 : Rd H a (.dK hk)) (g2 : kvs.map (·.1) = hk.map (fun p => kD p.1)) (h2 : RpL K H (hk.map (·.2)) (kvs.map (·.2)) fs) (ry : Rp K H y k fy) (ek : sKey k = some s) :
    DGet H a y (valV hk s) ∧ IsD H a ∧ OkGet K H (valV hk s) (findG sKey kvs s) fs := by
  have ey := sKey_val ry ek
  subst ey
  refine ⟨.inl ⟨hk, s, g1, rfl, rfl⟩, .inl ⟨hk, g1⟩, ?_⟩
  have := find_rel (c := kD) sKey_kD s g2 h2
  unfold OkGet
  split at this
  · exact this
  · exact this
theorem look_t {K : PySem.W.Frag} {H : Hp} {a : Addr} {y : V} {k : D} {fy fs : List Addr} {ks : List Key} {hk : List (List Key × V)} {kvs : List (D × D)} (g1 : Rd H a (.dT hk)) (g2 : kvs.map (·.1) = hk.map (fun p => tD p.1)) (h2 : RpL K H (hk.map (·.2)) (kvs.map (·.2)) fs) (ry : Rp K H y k fy) (ek : tKey k = some ks) :
    DGet H a y (valV hk ks) ∧ IsD H a ∧ OkGet K H (valV hk ks) (findG tKey kvs ks) fs := by
  obtain ⟨b, rfl, hb⟩ := tKey_val ry ek
  refine ⟨.inr ⟨hk, ks, b, g1, rfl, hb, rfl⟩, .inr ⟨hk, g1⟩, ?_⟩
  have := find_rel (c := tD) tKey_tD ks g2 h2
  unfold OkGet
  split at this
  · exact this
  · exact this
theorem OkGet.sub {K : PySem.W.Frag} {H : Hp} {ov : Option V} {o : Option D} {fs fs' : List Addr} (h : OkGet K H ov o fs) (s : fs.Sublist fs') : OkGet K H ov o fs' := by
  unfold OkGet at h ⊢
  split at h
  · exact h
  · obtain ⟨u, f, a, b, c⟩ := h
    exact ⟨u, f, a, b, c.trans s⟩
theorem dlook_ok {K : PySem.W.Frag} {H : Hp} {x y : V} {d k : D} {fx fy : List Addr} {o : Option D} (rx : Rp K H x d fx) (ry : Rp K H y k fy) (h : dlook d k = some o) : ∃ a ov, x = .ref a ∧ DGet H a y ov ∧ IsD H a ∧ OkGet K H ov o fx := by
  unfold dlook at h
  split at h
  · rename_i p kvs
    split at h
    · rename_i ks ek
      cases h
      cases rx with
      | dct h1 h2 =>
        rcases h1 with ⟨hk, g1, g2, g3⟩ | ⟨hk, g1, g2, g3⟩
        · exact (not_none_kD g2).elim
        · simp only [List.map_cons, List.cons.injEq] at g2
          subst g3
          simp only [List.map_cons] at h2
          cases h2 with
          | cons r1 r2 =>
            obtain ⟨a1, a2, a3⟩ := look_t (.inl g1) g2.2 r2 ry ek
            exact ⟨_, _, rfl, a1, a2, a3.sub ((List.sublist_append_right ..).trans (List.sublist_cons_self ..))⟩
      | dcn h1 h2 => exact (not_nct_none h1).elim
      | dcf h1 h2 => have := not_frz h1; cases this
    · cases h
  · cases h
  · rename_i bb p1 p2 kvs
    split at h
    · rename_i ks ek
      cases h
      cases rx with
      | dct h1 h2 =>
        rcases h1 with ⟨hk, g1, g2, g3⟩ | ⟨hk, g1, g2, g3⟩
        · exact (not_bool_kD g2).elim
        · simp at g2
      | dcn h1 h2 => exact (not_nct_bool h1).elim
      | dcf h1 h2 =>
        rcases h1 with ⟨ob, hk, g1, g2, g3⟩ | ⟨ob, hk, g1, g2, g3⟩
        · simp only [List.map_cons, List.cons.injEq] at g2
          exact (not_none_kD (p := p2) (by simpa using g2.2)).elim
        · simp only [List.map_cons, List.cons.injEq] at g2
          subst g3
          simp only [List.map_cons] at h2
          cases h2 with
          | cons r1 r2 =>
            cases r2 with
            | cons r2 r3 =>
              obtain ⟨a1, a2, a3⟩ := look_t (.inr ⟨ob, g1⟩) g2.2.2 r3 ry ek
              exact ⟨_, _, rfl, a1, a2, a3.sub ((List.sublist_append_right ..).trans (List.sublist_append_right ..))⟩
    · cases h
  · rename_i bb p1 kvs hne
    split at h
    · rename_i s ek
      cases h
      cases rx with
      | dct h1 h2 =>
        rcases h1 with ⟨hk, g1, g2, g3⟩ | ⟨hk, g1, g2, g3⟩
        · exact (not_bool_kD g2).elim
        · simp at g2
      | dcn h1 h2 => exact (not_nct_bool h1).elim
      | dcf h1 h2 =>
        rcases h1 with ⟨ob, hk, g1, g2, g3⟩ | ⟨ob, hk, g1, g2, g3⟩
        · simp only [List.map_cons, List.cons.injEq] at g2
          subst g3
          simp only [List.map_cons] at h2
          cases h2 with
          | cons r1 r2 =>
            obtain ⟨a1, a2, a3⟩ := look_s (.inr ⟨ob, g1⟩) g2.2 r2 ry ek
            exact ⟨_, _, rfl, a1, a2, a3.sub (List.sublist_append_right ..)⟩
        · cases kvs with
          | nil => simp at g2
          | cons q kvs =>
            obtain ⟨q1, q2⟩ := q
            simp only [List.map_cons, List.cons.injEq] at g2
            obtain ⟨_, g2, _⟩ := g2
            subst g2
            exact (hne _ _ rfl).elim
    · cases h
  · rename_i kvs hne hnt hb1 hnb
    split at h
    · rename_i s ek
      cases h
      cases rx with
      | dct h1 h2 =>
        rcases h1 with ⟨hk, g1, g2, g3⟩ | ⟨hk, g1, g2, g3⟩
        · subst g3
          obtain ⟨a1, a2, a3⟩ := look_s (.inl g1) g2 h2 ry ek
          exact ⟨_, _, rfl, a1, a2, a3.sub (List.sublist_cons_self ..)⟩
        · cases kvs with
          | nil => simp at g2
          | cons q kvs =>
            obtain ⟨q1, q2⟩ := q
            simp only [List.map_cons, List.cons.injEq] at g2
            obtain ⟨g2, _⟩ := g2
            subst g2
            exact (by first | exact (hne _ _ rfl).elim | exact (hnb _ _ rfl).elim | exact (hnb _ _ _ rfl).elim)
      | dcn h1 h2 =>
        obtain ⟨xs, g1, g2, g3⟩ := h1
        cases kvs with
        | nil => simp at g2
        | cons q kvs =>
          obtain ⟨q1, q2⟩ := q
          simp only [List.map_cons, List.cons.injEq] at g2
          obtain ⟨g2, _⟩ := g2
          subst g2
          exact (by first | exact (hne _ _ rfl).elim | exact (hnb _ _ rfl).elim | exact (hnb _ _ _ rfl).elim | exact (hb1 _ _ rfl).elim | exact (hb1 _ _ _ rfl).elim | exact (hnt _ _ _ rfl).elim)
      | dcf h1 h2 =>
        cases kvs with
        | nil => have := not_frz h1; cases this
        | cons q kvs =>
          obtain ⟨q1, q2⟩ := q
          rcases h1 with ⟨ob, hk, g1, g2, g3⟩ | ⟨ob, hk, g1, g2, g3⟩ <;>
          · simp only [List.map_cons, List.cons.injEq] at g2
            obtain ⟨g2, _⟩ := g2
            subst g2
            exact (by first | exact (hnb _ _ _ rfl).elim | exact (hne _ _ _ rfl).elim | exact (hnb _ _ rfl).elim)
    · cases h
  · cases h
def dgetD (d k : D) : Option D := match dlook d k with
  | some (some z) => some z
  | _ => none
def dgt1D (d k : D) : Option D := match dlook d k with
  | some (some z) => some z
  | some none => some .none
  | none => none
def dinD (k d : D) : Option D := (dlook d k).map fun o => .bool o.isSome
def dninD (k d : D) : Option D := (dlook d k).map fun o => .bool (!o.isSome)
theorem OkGet.isSome {K : PySem.W.Frag} {H : Hp} {ov : Option V} {o : Option D} {fs : List Addr} (h : OkGet K H ov o fs) : ov.isSome = o.isSome := by
  unfold OkGet at h
  split at h
  · rw [h]; rfl
  · obtain ⟨u, f, e, _⟩ := h; rw [e]; rfl
section
variable {X : Cx} {pos apos : Pos} {k : Nat} {o i : Expr} {fa fb : Bool} {h1 h2 : Rh → Option D} {g : Rh → Option (D × Rh)} {e value : Expr}
theorem units1 (hr : Room k X.A) : X.A.units + 1 < cLine := by have := hr.un; omega
theorem ep_dget (hr : Room k X.A) (ha : EP fa X o h1) (hb : EP fb X i h2) (hs : NoSl i) : EP false X (.Subscript o i pos) (o2 dgetD h1 h2) := by
  obtain ⟨ta, pa, qa⟩ := ha
  obtain ⟨tb, pb, qb⟩ := hb
  refine ⟨_, pe_dget (units1 hr) pa pb hs, fun ρ σ H d Q R h q => ?_⟩
  obtain ⟨x, y, e1, e2, e3⟩ := o2_some h
  refine qa ρ σ H x _ R e1 fun v H1 fp s r1 _ => qb ρ σ H1 y _ (R.same s) e2 fun u H2 fq s2 r2 _ => ?_
  unfold dgetD at e3
  split at e3
  · rename_i z e4
    cases e3
    obtain ⟨a, ov, rfl, g1, _, w, f, rfl, r3, _⟩ := dlook_ok (r1.same s2) r2 e4
    exact ⟨a, w, rfl, g1, q w H2 f (same_trans s s2) r3 fun z => nomatch z⟩
  · cases e3
def dgt1 (h1 h2 : Rh → Option D) : Rh → Option D := o2 dgt1D h1 h2
theorem ep_dgt1 (hr : Room k X.A) (ha : EP fa X o h1) (hb : EP fb X e h2) (m : M1 X o "get" apos e pos := by exact ⟨rfl, rfl, rfl, rfl⟩) : EP false X (.Call (.Attribute o "get" apos) [e] [] pos) (dgt1 h1 h2) := by
  obtain ⟨ta, pa, qa⟩ := ha
  obtain ⟨tb, pb, qb⟩ := hb
  refine ⟨_, pe_dget1 (units1 hr) pa pb m, fun ρ σ H d Q R h q => ?_⟩
  obtain ⟨x, y, e1, e2, e3⟩ := o2_some h
  refine qa ρ σ H x _ R e1 fun v H1 fp s r1 _ => ?_
  unfold dgt1D at e3
  have isd : ∃ a, v = .ref a ∧ IsD H1 a := by
    have hd : ∃ kvs, x = .dict kvs := by
      cases x <;> first | exact ⟨_, rfl⟩ | (simp only [dlook, reduceCtorEq] at e3)
    obtain ⟨kvs, rfl⟩ := hd
    cases r1 with
    | dct g1 g2 =>
      rcases g1 with ⟨hk, g1, _⟩ | ⟨hk, g1, _⟩
      · exact ⟨_, rfl, .inl ⟨hk, .inl g1⟩⟩
      · exact ⟨_, rfl, .inr ⟨hk, .inl g1⟩⟩
    | dcn g1 g2 =>
      obtain ⟨xs, g1, g3, _⟩ := g1
      cases kvs with
      | nil => simp at g3
      | cons q kvs =>
        obtain ⟨q1, q2⟩ := q
        simp only [List.map_cons, List.cons.injEq] at g3
        obtain ⟨g3, _⟩ := g3
        subst g3
        simp [dlook] at e3
    | dcf g1 g2 =>
      rcases g1 with ⟨ob, hk, g1, _⟩ | ⟨ob, hk, g1, _⟩
      · exact ⟨_, rfl, .inl ⟨hk, .inr ⟨ob, g1⟩⟩⟩
      · exact ⟨_, rfl, .inr ⟨hk, .inr ⟨ob, g1⟩⟩⟩
  obtain ⟨a0, rfl, isd⟩ := isd
  refine ⟨a0, rfl, isd, qb ρ σ H1 y _ (R.same s) e2 fun u H2 fq s2 r2 _ => ?_⟩
  split at e3
  · rename_i z e4
    cases e3
    obtain ⟨a, ov, ea, g1, _, w, f, rfl, r3, _⟩ := dlook_ok (r1.same s2) r2 e4
    cases ea
    exact ⟨some w, g1, q w H2 f (same_trans s s2) r3 fun z => nomatch z⟩
  · rename_i e4
    cases e3
    obtain ⟨a, ov, ea, g1, _, hn⟩ := dlook_ok (r1.same s2) r2 e4
    cases ea
    have : ov = none := hn
    subst this
    exact ⟨none, g1, q .non H2 [] (same_trans s s2) .non fun z => nomatch z⟩
  · cases e3
theorem ep_din (hr : Room k X.A) (ha : EP fa X i h1) (hb : EP fb X o h2) (hm : behindInMarks .In o = false := by first | exact nobehind _ (by decide) (by decide) | rfl) : EP true X (.Compare i [.In] [o] pos) (o2 dinD h1 h2) := by
  obtain ⟨ta, pa, qa⟩ := ha
  obtain ⟨tb, pb, qb⟩ := hb
  refine ⟨_, pe_cmp (pc_din (units1 hr) pa pb) hm, fun ρ σ H d Q R h q => ?_⟩
  obtain ⟨x, y, e1, e2, e3⟩ := o2_some h
  refine qa ρ σ H x _ R e1 fun v H1 fp s r1 _ => qb ρ σ H1 y _ (R.same s) e2 fun u H2 fq s2 r2 _ => ?_
  unfold dinD at e3
  cases e4 : dlook y x with
  | none => rw [e4] at e3; cases e3
  | some z =>
    rw [e4] at e3; cases e3
    obtain ⟨a, ov, rfl, g1, _, r3⟩ := dlook_ok r2 (r1.same s2) e4
    exact ⟨a, ov, rfl, g1, by rw [r3.isSome]; exact q _ H2 [] (same_trans s s2) (.bl _) fun _ => no_mem⟩
theorem ep_dnotin (hr : Room k X.A) (ha : EP fa X i h1) (hb : EP fb X o h2) (hm : behindInMarks .NotIn o = false := by first | exact nobehind _ (by decide) (by decide) | rfl) : EP true X (.Compare i [.NotIn] [o] pos) (o2 dninD h1 h2) := by
  obtain ⟨ta, pa, qa⟩ := ha
  obtain ⟨tb, pb, qb⟩ := hb
  refine ⟨_, pe_cmp (pc_dnotin (units1 hr) pa pb) hm, fun ρ σ H d Q R h q => ?_⟩
  obtain ⟨x, y, e1, e2, e3⟩ := o2_some h
  refine qa ρ σ H x _ R e1 fun v H1 fp s r1 _ => qb ρ σ H1 y _ (R.same s) e2 fun u H2 fq s2 r2 _ => ?_
  unfold dninD at e3
  cases e4 : dlook y x with
  | none => rw [e4] at e3; cases e3
  | some z =>
    rw [e4] at e3; cases e3
    obtain ⟨a, ov, rfl, g1, _, r3⟩ := dlook_ok r2 (r1.same s2) e4
    exact ⟨a, ov, rfl, g1, by rw [r3.isSome]; exact q _ H2 [] (same_trans s s2) (.bl _) fun _ => no_mem⟩
theorem tp_din (hr : Room k X.A) (ha : EP fa X i h1) (hb : EP fb X o h2) (hm : behindInMarks .In o = false := by first | exact nobehind _ (by decide) (by decide) | rfl) : TP X (.Compare i [.In] [o] pos) (qB (o2 dinD h1 h2)) := by
  obtain ⟨ta, pa, qa⟩ := ha
  obtain ⟨tb, pb, qb⟩ := hb
  refine ⟨_, pt_cmp (pc_din (units1 hr) pa pb) hm, fun ρ σ H b Q R hh q => ?_⟩
  unfold qB at hh
  cases e0 : o2 dinD h1 h2 ρ with
  | none => simp [e0] at hh
  | some z =>
    simp only [e0, Option.bind_some] at hh
    obtain ⟨x, y, e1, e2, e3⟩ := o2_some e0
    refine qa ρ σ H x _ R e1 fun v H1 fp s r1 _ => qb ρ σ H1 y _ (R.same s) e2 fun u H2 fq s2 r2 _ => ?_
    unfold dinD at e3
    cases e4 : dlook y x with
    | none => rw [e4] at e3; cases e3
    | some z =>
      rw [e4] at e3; cases e3; cases hh
      obtain ⟨a, ov, rfl, g1, _, r3⟩ := dlook_ok r2 (r1.same s2) e4
      exact ⟨a, ov, rfl, g1, _, rfl, by rw [r3.isSome]; exact q H2 (same_trans s s2)⟩
theorem tp_dnotin (hr : Room k X.A) (ha : EP fa X i h1) (hb : EP fb X o h2) (hm : behindInMarks .NotIn o = false := by first | exact nobehind _ (by decide) (by decide) | rfl) : TP X (.Compare i [.NotIn] [o] pos) (qB (o2 dninD h1 h2)) := by
  obtain ⟨ta, pa, qa⟩ := ha
  obtain ⟨tb, pb, qb⟩ := hb
  refine ⟨_, pt_cmp (pc_dnotin (units1 hr) pa pb) hm, fun ρ σ H b Q R hh q => ?_⟩
  unfold qB at hh
  cases e0 : o2 dninD h1 h2 ρ with
  | none => simp [e0] at hh
  | some z =>
    simp only [e0, Option.bind_some] at hh
    obtain ⟨x, y, e1, e2, e3⟩ := o2_some e0
    refine qa ρ σ H x _ R e1 fun v H1 fp s r1 _ => qb ρ σ H1 y _ (R.same s) e2 fun u H2 fq s2 r2 _ => ?_
    unfold dninD at e3
    cases e4 : dlook y x with
    | none => rw [e4] at e3; cases e3
    | some z =>
      rw [e4] at e3; cases e3; cases hh
      obtain ⟨a, ov, rfl, g1, _, r3⟩ := dlook_ok r2 (r1.same s2) e4
      exact ⟨a, ov, rfl, g1, _, rfl, by rw [r3.isSome]; exact q H2 (same_trans s s2)⟩
theorem ep_dnewK : EP true X (.Dict [] [] pos) (cst (.dict [])) := ⟨_, pe_dnewK, fun ρ σ H d Q R h q => by
  cases h
  intro p np
  exact q _ _ [p] (same_upd np) (.dct (vs := []) (.inl ⟨[], upd_same, rfl, rfl⟩) .nil) fun _ => one_new np⟩
theorem ep_dnewT : EP true X (.Dict [] [] pos) (cst (.dict [(.none, .none)])) := ⟨_, pe_dnewT, fun ρ σ H d Q R h q => by
  cases h
  intro p np
  exact q _ _ [p] (same_upd np) (.dct (vs := [.non]) (.inr ⟨[], upd_same, rfl, rfl⟩) (.cons .non .nil)) fun _ => one_new np⟩
/-- d[k] = e, the value pure -/
def dputD (kvs : List (D × D)) (k d : D) : Option (List (D × D)) := match kvs with
  | (.bool _, _) :: _ => none
  | (.tuple _, _) :: _ => none
  | (.none, n) :: kvs => match tKey k with
    | some ks => if pureD d = true ∧ kvs.length < 1000000 then some ((.none, n) :: putG tKey kvs ks (tD ks) d) else none
    | none => none
  | kvs => match sKey k with
    | some s => if pureD d = true ∧ kvs.length < 1000000 then some (putG sKey kvs s (kD s) d) else none
    | none => none
def sDput (i : Nat) (hk : Rh → Option D) (g : Rh → Option (D × Rh)) : Rh → Out := fun ρ => match g ρ with
  | some (d, ρ1) => match hk ρ1, wr i ρ1 with
    | some k, some (.dict kvs, ow) => match dputD kvs k d with
      | some kvs' => .nx (ρ1.set i (some ⟨.dict kvs', ow⟩))
      | none => .no
    | _, _ => .no
  | none => .no
theorem dput_free {kvs kvs' : List (D × D)} {k d : D} (h : dputD kvs k d = some kvs') : locked (.dict kvs) = false := by
  cases kvs with
  | nil => rfl
  | cons p kvs =>
    obtain ⟨p1, p2⟩ := p
    cases p1 <;> first | rfl | cases h
theorem Rp.dctInv {K : PySem.W.Frag} {H : Hp} {v : V} {kvs : List (D × D)} {fp : List Addr} (r : Rp K H v (.dict kvs) fp) (hl : locked (.dict kvs) = false) : ∃ a vs fs, v = .ref a ∧ fp = a :: fs ∧ IsDct H a (kvs.map (·.1)) vs ∧ RpL K H vs (kvs.map (·.2)) fs := by
  cases r with
  | dct h1 h2 => exact ⟨_, _, _, rfl, rfl, h1, h2⟩
  | dcn h1 h2 => rw [not_nct h1] at hl; cases hl
  | dcf h1 h2 => rw [not_frz h1] at hl; cases hl
theorem dput_ok {K : PySem.W.Frag} {H : Hp} {a : Addr} {y v : V} {kvs kvs' : List (D × D)} {vs : List V} {k d : D} {fs fy fv : List Addr} (hd : IsDct H a (kvs.map (·.1)) vs) (rl : RpL K H vs (kvs.map (·.2)) fs) (ry : Rp K H y k fy) (rv : Rp K H v d fv) (ha : a ∉ fs) (h : dputD kvs k d = some kvs') :
    ∃ H' fs', DPut H a y v H' ∧ Keep (fun b => b ≠ a) H H' ∧ fs'.Sublist fs ∧ Rp K H' (.ref a) (.dict kvs') (a :: fs') := by
  have hm : Mut (H a) := isDct_mut hd
  have fin : ∀ {o : HO} {kvs2 : List (D × D)} {vs2 : List V} {fs' : List Addr}, IsDct (upd H a o) a (kvs2.map (·.1)) vs2 → RpL K H vs2 (kvs2.map (·.2)) fs' → fs'.Sublist fs → Keep (fun b => b ≠ a) H (upd H a o) ∧ Rp K (upd H a o) (.ref a) (.dict kvs2) (a :: fs') := by
    intro o kvs2 vs2 fs' h1 h2 h3
    have kp : Keep (fun b => b ≠ a) H (upd H a o) := keep_ne hm
    exact ⟨kp, .dct h1 (RpL.keep kp _ _ _ h2 fun b m z => ha (by rw [← z]; exact h3.subset m))⟩
  unfold dputD at h
  split at h
  · cases h
  · cases h
  · rename_i n kvs0
    split at h
    · rename_i ks ek
      split at h
      · rename_i hc
        cases h
        have : fv = [] := Rp.pure _ _ _ rv hc.1
        subst this
        rcases hd with ⟨hk, g1, g2, g3⟩ | ⟨hk, g1, g2, g3⟩
        · exact (not_none_kD g2).elim
        · simp only [List.map_cons, List.cons.injEq] at g2
          subst g3
          simp only [List.map_cons] at rl
          cases rl with
          | cons r1 r2 =>
            rename_i f1 fs0
            obtain ⟨b, rfl, hb⟩ := tKey_val ry ek
            obtain ⟨fs', s, e1, e2⟩ := put_rel (c := tD) tKey_tD ks rv g2.2 r2
            have hlen : hk.length = kvs0.length := by have := congrArg List.length g2.2; simpa using this.symm
            obtain ⟨k1, k2⟩ := fin (o := .dT (putK hk ks v)) (kvs2 := (.none, n) :: putG tKey kvs0 ks (tD ks) d) (vs2 := .non :: (putK hk ks v).map (·.2)) (fs' := f1 ++ fs') (.inr ⟨_, upd_same, by simp only [List.map_cons, e1]; rfl, rfl⟩) (.cons r1 e2) (List.Sublist.append (List.Sublist.refl _) s)
            exact ⟨_, _, DPut.t g1 hb (by rw [hlen]; have := mil_line (n := kvs0.length + 1) (by omega); omega), k1, List.Sublist.append (List.Sublist.refl _) s, k2⟩
      · cases h
    · cases h
  · rename_i kvs0 hnb hnt hne
    split at h
    · rename_i s ek
      split at h
      · rename_i hc
        cases h
        have : fv = [] := Rp.pure _ _ _ rv hc.1
        subst this
        rcases hd with ⟨hk, g1, g2, g3⟩ | ⟨hk, g1, g2, g3⟩
        · subst g3
          have ey := sKey_val ry ek
          subst ey
          obtain ⟨fs', sl, e1, e2⟩ := put_rel (c := kD) sKey_kD s rv g2 rl
          have hlen : hk.length = kvs.length := by have := congrArg List.length g2; simpa using this.symm
          obtain ⟨k1, k2⟩ := fin (o := .dK (putK hk s v)) (kvs2 := putG sKey kvs s (kD s) d) (.inl ⟨_, upd_same, e1, rfl⟩) e2 sl
          exact ⟨_, _, DPut.k g1 (by rw [hlen]; have := mil_line (n := kvs.length + 1) (by omega); omega), k1, sl, k2⟩
        · cases kvs with
          | nil => simp at g2
          | cons q kvs =>
            obtain ⟨q1, q2⟩ := q
            simp only [List.map_cons, List.cons.injEq] at g2
            obtain ⟨g2, _⟩ := g2
            subst g2
            exact (hne _ _ rfl).elim
      · cases h
    · cases h
theorem ss_dput {x : Nat} {spos pos' : Pos} (hr : Room k X.A) (po : PE X o (tVar x)) (hi : EP fb X i h2) (hv : EV X value g) (hs : swapsWith value (some (.Subscript o i pos')) spos.line X.env = pure false := by rfl) : SS X (.Assign [.Subscript o i pos'] value spos) (sDput x h2 g) := by
  obtain ⟨tv, pv, qv⟩ := hv
  obtain ⟨ti, pi, qi⟩ := hi
  refine ⟨_, ps_dput (units1 hr) po pi pv hs, fun F L ρ σ H fo D0 R gd => ?_⟩
  unfold sDput at gd
  split at gd
  · rename_i d ρ1 e1
    split at gd
    · rename_i kd kvs ow e2 e3
      split at gd
      · rename_i kvs' e4
        refine qv F L ρ σ H fo d ρ1 _ R e1 fun v H1 f1 fp R1 fr1 k1 => ?_
        obtain ⟨ec, hw⟩ := wr_some e3
        obtain ⟨u, eu, ru⟩ := R1.rp x _ ec
        refine ⟨u, eu, qi ρ1 σ H1 kd _ R1.rd e2 fun y H2 fy s2 ry _ => ?_⟩
        have R2 := R1.same s2
        obtain ⟨a, vs, fs, rfl, hf, hd, rl⟩ := (ru.same s2).dctInv (dput_free e4)
        obtain ⟨ndx, nfx⟩ := R2.nd x _ ec hw
        rw [hf] at ndx
        obtain ⟨H4, fs', g1, kp, sl, r4⟩ := dput_ok hd rl ry (fr1.rp.same s2) (List.nodup_cons.mp ndx).1 e4
        obtain ⟨R4, k4⟩ := R2.mutate ec hw eu r4 (List.nodup_cons.mpr ⟨fun m => (List.nodup_cons.mp ndx).1 (sl.subset m), sl.nodup (List.nodup_cons.mp ndx).2⟩)
          (fun b m => .inl (by rw [hf]; rcases List.mem_cons.mp m with m | m; exact (by rw [m]; exact List.mem_cons_self); exact List.mem_cons_of_mem _ (sl.subset m)))
          (kp.mono fun b hb z => hb (by rw [hf, z]; exact List.mem_cons_self))
        exact ⟨a, H4, rfl, g1, gd σ H4 _ R4 (k1.trans ((Keep.of_same s2).trans k4))⟩
      · exact gd.elim
    · exact gd.elim
  · exact gd.elim
end
end PV

set_option Elab.async false
set_option linter.all false
set_option maxRecDepth 100000
set_option maxHeartbeats 2000000
namespace PV
open PySem PySem.Spec PyProof.Rows L2
variable [TN]
section
variable {P : Program} {w : World} {K : PySem.W.Frag} {mg : Str → Option Value} {base : Heap}
theorem KnP.zero {x qual : Str} {st : Stmt} {f : Addr} {fd : FuncData} {ps : List Str} {k n : Nat} (F : FnD K x qual st f fd) (hm : mg x = some (.ref f)) (hb : Binds K fd ps []) (hn : ps.length = n) : KnP P w K mg base k x n fun _ => none := by
  subst hn
  exact ⟨⟨f, fd, ps, hm, F.kp, hb, rfl, fn_zero⟩, fun ds d e => nomatch e⟩
theorem KnM.zero {x qual : Str} {st : Stmt} {f : Addr} {fd : FuncData} {ps : List Str} {k n m : Nat} (F : FnD K x qual st f fd) (hm : mg x = some (.ref f)) (hb : Binds K fd ps []) (hn : ps.length = n) : KnM P w K mg base k x n m fun _ => none := by
  subst hn
  exact ⟨⟨f, fd, ps, hm, F.kp, hb, rfl, fn_zeroM⟩⟩
end
section
variable {X : Cx} {pos : Pos} {o i value : Expr} {x : Nat} {gi gv : Rh → Option (D × Rh)}
theorem ep_globI {y : Str} {i : Int} (hg : Gl X y) (h : ∃ t, X.mg y = some (.int i t)) (hd : (y == ("__debug__" : Str)) = false := by decide) : EP true X (.Name y pos) (cst (.int i)) :=
  let ⟨t, hm⟩ := h
  ep_glob hg hm (v := .int i) ⟨t, rfl⟩ (fun _ => .int i) hd
/-! ### xs[e] = value, e with effects -/
def sSetIx (x : Nat) (gi gv : Rh → Option (D × Rh)) : Rh → Out := fun ρ => match gv ρ with
  | some (d, ρ1) => match getS x ρ1, gi ρ1 with
    | some _, some (k, ρ2) => match wr x ρ2 with
      | some (.list ds, ow) => match ixSet ds k d with
        | some ds' => .nx (ρ2.set x (some ⟨.list ds', ow⟩))
        | none => .no
      | _ => .no
    | _, _ => .no
  | none => .no
theorem ixset_ok {K : PySem.W.Frag} {F : Fm} {L : Nat → Option V} {ρ : Rh} {σ : L2.St} {H1 : Hp} {f : Nat → List Addr} {v u iv : V} {d k : D} {ds ds' : List D} {ow : Ow} {fp fi : List Addr} (R1 : Rho K F L ρ σ H1 f) (fr : Fresh K F ρ f v d fp H1) (e2 : wr x ρ = some (.list ds, ow)) (e4 : ixSet ds k d = some ds') (ri : Rp K H1 iv k fi) (eu : σ[x]? = some (some u)) :
    ∃ a xs i0 j, u = .ref a ∧ iv = .int i0 ∧ H1 a = some (.lst xs) ∧ ixN xs.length i0 = some j ∧ ∃ f', Rho K F L (ρ.set x (some ⟨.list ds', ow⟩)) σ (upd H1 a (.lst (xs.set j v))) f' ∧ Keep F.all H1 (upd H1 a (.lst (xs.set j v))) := by
  obtain ⟨i0, j, rfl, e5, rfl⟩ := ixSet_some e4
  obtain ⟨ex, wx⟩ := wr_some e2
  obtain ⟨u', eu', ru⟩ := R1.rp x _ ex
  rw [eu] at eu'; cases eu'
  obtain ⟨ndx, nfx⟩ := R1.nd x _ ex wx
  cases ri
  have djx : ∀ b ∈ fp, b ∉ f x := fun b m => fr.dj x _ ex b m
  generalize hfx : f x = fx at *
  cases ru with
  | lst h1 h2 h3 =>
    rename_i a xs fs
    obtain ⟨na, ndf⟩ := List.nodup_cons.mp ndx
    obtain ⟨fs', r', n', s'⟩ := RpL.setAt fr.rp fr.nd j h3 ndf fun b m m' => djx b m (List.mem_cons_of_mem _ m')
    have na' : a ∉ fs' := fun m => (s' a m).elim na fun m' => djx a m' List.mem_cons_self
    have kne : Keep (fun b => b ≠ a) H1 (upd H1 a (.lst (xs.set j v))) := keep_ne (by rw [h1]; trivial)
    have := R1.mutate (H' := upd H1 a (.lst (xs.set j v))) (d' := .list (ds.set j d)) (fp' := a :: fs') ex wx eu
      (.lst upd_same (by rw [List.length_set]; exact h2) (RpL.keep kne _ _ _ r' fun b m e => by subst e; exact na' m)) (List.nodup_cons.mpr ⟨na', n'⟩)
      (fun b m => by
        rw [hfx]
        rcases List.mem_cons.mp m with m | m
        · rw [m]; exact .inl List.mem_cons_self
        · rcases s' b m with m | m
          · exact .inl (List.mem_cons_of_mem _ m)
          · exact .inr ⟨fr.nf b m, fun l c hl ec => fr.dj l c ec b m⟩)
      (kne.mono fun b hb e => by subst e; rw [hfx] at hb; exact hb List.mem_cons_self)
    exact ⟨a, xs, i0, j, rfl, rfl, h1, by rw [h3.length]; exact e5, _, this.1, this.2⟩
theorem ss_setIx {st : Stmt} (ps : ∀ {te : TE} {gg : TG}, PE X value te → PG X (.Subscript o i pos) gg → PS X st (tAsg te gg)) (ho : PE X o (tVar x)) (hi : EV X i gi) (hv : EV X value gv) (ha : ∀ v, assign (.Subscript o i pos) X.env v = (do
      let ov ← holding [v] (eval o X.env)
      let iv ← holding [v, ov] (eval i X.env)
      standAt pos
      holding [v, ov, iv] (setItem ov iv v)
      release [v, ov, iv] []) := by intro _; rfl) : SS X st (sSetIx x gi gv) := by
  obtain ⟨tv, pv, qv⟩ := hv
  obtain ⟨ti, pi, qi⟩ := hi
  refine ⟨_, ps pv (pg_sub ho pi set_list ha), fun F L ρ σ H fo D0 R gd => ?_⟩
  unfold sSetIx at gd
  split at gd
  · rename_i d ρ1 e1
    split at gd
    · rename_i d0 k ρ2 e0 e2
      split at gd
      · rename_i ds ow e3
        split at gd
        · rename_i ds' e4
          refine qv F L ρ σ H fo d ρ1 _ R e1 fun v H1 f1 fp R1 fr1 k1 => ?_
          obtain ⟨c0, ec0, _⟩ := getS_some e0
          obtain ⟨u, eu, _⟩ := R1.rp x _ ec0
          refine ⟨u, eu, qi (F.hold fp) L ρ1 σ H1 f1 k ρ2 _ (R1.hold fr1) e2 fun iv H2 f2 fi R2 fr2 k2 => ?_⟩
          have fr1' := fr1.over k2 R2
          obtain ⟨a, xs, i0, j, rfl, rfl, h1, h2, f3, R3, k3⟩ := ixset_ok R2.unhold fr1' e3 e4 fr2.rp eu
          exact ⟨a, xs, i0, j, rfl, rfl, h1, h2, gd σ _ f3 R3 (k1.trans (k2.unhold.trans k3))⟩
        · exact gd.elim
      · exact gd.elim
    · exact gd.elim
  · exact gd.elim
end
end PV

set_option Elab.async false
set_option linter.all false
set_option maxRecDepth 100000
set_option maxHeartbeats 2000000
namespace PV
open PySem PySem.Spec PyProof.Rows L2
variable [TN]

/-! ### the law's script, and the box that is made of it -/
def intL (ns : List Int) : List D := ns.map .int
theorem RpL.ofInts {K : PySem.W.Frag} {H : Hp} : ∀ ns : List Int, RpL K H (ns.map V.int) (intL ns) []
  | [] => .nil
  | n :: ns => .cons (f := []) (fs := []) (.int n) (RpL.ofInts ns)
def boxD (ns : List Int) : D := .list [.list (intL ns), .int 0, .int (4711 + ns.length)]
def spBox (K : PySem.W.Frag) (d : List Int → D) : Sp := fun vs H Q _ => ∃ (a : Addr) (ns : List Int), vs = [.ref a] ∧ SqL K H a (ns.map V.int) ∧ ns.length ≤ 63 ∧ ∀ v H' fp, Same H H' → Rp K H' v (d ns) fp → fp.Nodup → (∀ b ∈ fp, H b = none) → Q v H'
theorem cut_all (ns : List Int) (c : Nat) (h : ns.length ≤ c) : cutV (ns.map V.int) none (some (c : Int)) = ns.map V.int := by
  unfold cutV
  rw [HT.sIx_none, HT.sIx_nat, List.length_map, Nat.min_eq_right h, List.drop_zero, Nat.sub_zero]
  exact List.take_of_length_le (by rw [List.length_map]; exact Nat.le_refl _)
theorem seq_keep {K : PySem.W.Frag} {H H' : Hp} {a : Addr} {xs : List V} (h : SqL K H a xs) (s : Same H H') : SqL K H' a xs := by
  rcases h with (h | ⟨o, h⟩) | h
  · exact .inl (.inl (s.at_ _ _ h trivial))
  · exact .inl (.inr ⟨o, s.at_ _ _ h trivial⟩)
  · exact .inr h
theorem box_run {K : PySem.W.Frag} {σ : L2.St} {H : Hp} {Q : VK} {a : Addr} {ns : List Int} (e : σ[0]? = some (some (.ref a))) (hs : SqL K H a (ns.map V.int)) (hl : ns.length ≤ 63)
    (q : ∀ v H' fp, Same H H' → Rp K H' v (boxD ns) fp → fp.Nodup → (∀ b ∈ fp, H b = none) → Q v H') :
    tLst (tCons (tCB (fun xs H Q => ∃ p ys, xs = [.ref p] ∧ (SqL K H p ys ∨ SqT K H p ys) ∧ ∀ l, H l = none → Q (.ref l) (upd H l (.lst ys))) (tCons (tSl (rSlL K) (tVar 0) tNoPart (tPart (tC (.int 63)))) tNil))
      (tCons (tC (.int 0)) (tCons (tOp (rI0 fun i j => .int (i + j)) (tC (.int 4711)) (tCB (fun xs H Q => ∃ p ys, xs = [.ref p] ∧ (SqL K H p ys ∨ SqT K H p ys) ∧ Q (.int ys.length) H) (tCons (tVar 0) tNil))) tNil))) σ H Q := by
  refine ⟨.ref a, e, 63, rfl, a, _, rfl, hs, fun p np => ?_⟩
  rw [show cutV (ns.map V.int) none (some 63) = ns.map V.int from cut_all ns 63 hl]
  refine ⟨p, ns.map V.int, rfl, .inl (.inl (.inl upd_same)), fun l nl => ?_⟩
  have s1 : Same H (upd H p (.lst (ns.map V.int))) := PV.same_upd np
  have s2 : Same (upd H p (.lst (ns.map V.int))) (upd (upd H p (.lst (ns.map V.int))) l (.lst (ns.map V.int))) := PV.same_upd nl
  have nl' : H l = none := Same.new s1 nl
  refine ⟨.ref a, e, ⟨a, _, rfl, .inl (seq_keep hs (same_trans s1 s2)), 4711, ((ns.map V.int).length : Int), rfl, rfl, ?_⟩⟩
  refine ⟨by show 3 ≤ sizeLine; decide, fun x nx => ?_⟩
  have s3 := PV.same_upd (o := .lst [V.ref l, V.int 0, V.int (4711 + ((ns.map V.int).length : Int))]) nx
  have hlx : l ≠ x := fun z => by rw [← z, upd_same] at nx; cases nx
  refine q _ _ [x, l] (same_trans s1 (same_trans s2 s3)) ?_ ?_ fun b m => ?_
  · have rl : Rp K (upd (upd (upd H p (.lst (ns.map V.int))) l (.lst (ns.map V.int))) x (.lst [V.ref l, V.int 0, V.int (4711 + ((ns.map V.int).length : Int))])) (.ref l) (.list (intL ns)) [l] :=
      .lst (by rw [upd_ne hlx]; exact upd_same) (by rw [List.length_map]; exact mil_line (by omega)) (RpL.ofInts ns)
    refine .lst upd_same (by show 3 ≤ sizeLine; decide) (.cons (f := [l]) (fs := []) rl (.cons (f := []) (fs := []) (.int 0) (.cons (f := []) (fs := []) ?_ .nil)))
    rw [List.length_map]; exact .int _
  · simp [Ne.symm hlx]
  · simp only [List.mem_cons, List.not_mem_nil, or_false] at m
    rcases m with m | m
    · rw [m]; exact Same.new (same_trans s1 s2) nx
    · rw [m]; exact nl'
def rhoL (n : Nat) (d : D) : Rh := none :: some ⟨d, .own⟩ :: List.replicate (n - 2) none
def BoxOk (K : PySem.W.Frag) (d : List Int → D) (t : TE) : Prop := ∀ (σ : L2.St) (H : Hp) (a : Addr) (ns : List Int) (Q : VK), σ[0]? = some (some (.ref a)) → SqL K H a (ns.map V.int) → ns.length ≤ 63 → (∀ v H' fp, Same H H' → Rp K H' v (d ns) fp → fp.Nodup → (∀ b ∈ fp, H b = none) → Q v H') → t σ H Q
theorem boxOk_call {K : PySem.W.Frag} {d : List Int → D} {E : XK} : BoxOk K d (tCall (spBox K d) [] E (tCons (tVar 0) tNil)) := by
  intro σ H a ns Q e hs hl q
  exact ⟨.ref a, e, a, ns, rfl, hs, hl, q⟩
def spLaw (K : PySem.W.Frag) : Sp := fun vs H Q _ => ∃ (a : Addr) (ns : List Int), vs = [.ref a] ∧ SqL K H a (ns.map V.int) ∧ ns.length ≤ 63 ∧ TabI H ∧ ∀ H', Q (.bl true) H'
section
variable {P : Program} {w : World} {K : PySem.W.Frag} {mg : Str → Option Value} {base : Heap}
theorem law_of {st : Stmt} {f : Addr} {fd : FuncData} {N : List Str} {k : Nat} {d : List Int → D} {B : Rh → Out} (F : FnD K "law" "law" st f fd) (S : FnScope N ["script"] (defScope st)) (hN : 2 ≤ N.length)
    (hb : ∀ (cdv : Value) (A : Around) (outer : List Env) (s : Shared) (H : Hp) (E : XK), Room k (A.deeper (envOfC "law" (defScope st) s.heap.objs.size f cdv)) →
      ∃ (st1 : Stmt) (rest : List Stmt) (t1 : TE), defBody st = st1 :: rest ∧ PS (cxOf CX0 P w K mg base N "law" (defScope st) f cdv A outer s H E).nox st1 (tAsg t1 (gName 1)) ∧ BoxOk K d t1 ∧ BS (cxOf CX0 P w K mg base N "law" (defScope st) f cdv A outer s H E).nox rest B)
    (hm : ∀ ns : List Int, ns.length ≤ 63 → ∃ ρ', B (rhoL N.length (d ns)) = .rt (.bool true) ρ') : FnOk P w K mg base CX0 (k + 1) f fd ["script"] (spLaw K) := by
  refine F.walk S (fun vs H Q E h => by obtain ⟨a, ns, rfl, _⟩ := h; rfl) fun cdv A outer s H vs Q E hr h => ?_
  obtain ⟨a, ns, rfl, hS, hlen, tb, q⟩ := h
  obtain ⟨st1, rest, t1, hst, p1, b1, t2, p2, q2⟩ := hb cdv A outer s H E hr
  rw [hst]
  refine ⟨_, pss_cons p1 p2, ?_⟩
  have e0 : (start N [V.ref a])[0]? = some (some (.ref a)) := start_get rfl
  have hlenS : (start N [V.ref a]).length = N.length := by unfold L2.start; simp; omega
  refine b1 _ H a ns _ e0 hS hlen fun v H1 fp s1 r nd nw => ?_
  obtain ⟨ρ', hB⟩ := hm ns hlen
  have hl2 : (rhoL N.length (d ns)).length = N.length := by unfold rhoL; simp; omega
  have hg : ∀ (i : Nat) (c : Cl), (rhoL N.length (d ns))[i]? = some (some c) → i = 1 ∧ c = ⟨d ns, .own⟩ := fun i c e => by
    unfold rhoL at e
    match i, e with
    | 0, e => simp at e
    | 1, e => simp at e; exact ⟨rfl, e.symm⟩
    | i + 2, e =>
      simp only [List.getElem?_cons_succ] at e
      have := List.mem_of_getElem? e
      rw [List.mem_replicate] at this
      cases this.2
  have R : Rho K ⟨fun b => H b ≠ none, fun _ => False⟩ (fun _ => none) (rhoL N.length (d ns)) ((start N [V.ref a]).set 1 (some v)) H1 (fun _ => fp) := by
    refine ⟨s1.tab tb, by rw [List.length_set, hl2, hlenS], fun b h z => ?_, fun i c e => ?_, fun i c e wr => ?_, fun i c e b m z => z, fun i j c c' hij e wr e' => ?_, fun i v z => nomatch z⟩
    · rcases h with h | h
      · exact h (s1.dom b z)
      · exact h
    · obtain ⟨rfl, rfl⟩ := hg i c e
      exact ⟨v, by rw [List.getElem?_set_self (by omega)], r⟩
    · exact ⟨nd, fun b m z => z (nw b m)⟩
    · exact absurd ((hg i c e).1.trans (hg j c' e').1.symm) hij
  refine q2 _ _ _ _ H1 _ _ R ?_
  rw [hB]
  intro v2 σ2 H2 f2 fp2 R2 fr2 k2
  have hv : v2 = .bl true := by have := fr2.rp; cases this; rfl
  subst hv
  exact q H2
end
end PV

set_option Elab.async false
set_option linter.all false
set_option maxRecDepth 100000
set_option maxHeartbeats 2000000
namespace PV
open PySem PySem.Spec PyProof.Rows L2
variable [TN]

/-! ### the next number of the script: a pop from a list within the box -/
def Ev (t : TE) (σ : L2.St) (H : Hp) (v : V) : Prop := ∀ Q : VK, Q v H → t σ H Q
abbrev tI (i : Int) : TE := tC (.int i)
abbrev tAddO (a b : TE) : TE := tOp (rI0 fun i j => .int (i + j)) a b
abbrev tSubO (a b : TE) : TE := tOp (rI0 fun i j => .int (i - j)) a b
abbrev tMulO (a b : TE) : TE := tOp (rI CMul fun i j => .int (i * j)) a b
abbrev tModO (a b : TE) : TE := tOp (rI (fun _ j => 0 < j) fun i j => .int (i % j)) a b
abbrev tIntO (a : TE) : TE := tCB (fun xs H Q => (∃ i, xs = [.int i] ∧ Q (.int i) H) ∨ ∃ k, xs = [.bl k] ∧ Q (.int (if k then 1 else 0)) H) (tCons a tNil)
abbrev tBox (K : PySem.W.Frag) (i : Int) : TE := tOp (rIxL K) (tVar 0) (tI i)
section
variable {σ : L2.St} {H : Hp} {ta tb : TE} {i j : Int}
theorem Ev.c {v : V} : Ev (tC v) σ H v := fun Q q => q
theorem Ev.var {n : Nat} {v : V} (h : σ[n]? = some (some v)) : Ev (tVar n) σ H v := fun Q q => ⟨v, h, q⟩
theorem Ev.add (ha : Ev ta σ H (.int i)) (hb : Ev tb σ H (.int j)) : Ev (tAddO ta tb) σ H (.int (i + j)) := fun Q q => ha _ (hb _ ⟨i, j, rfl, rfl, q⟩)
theorem Ev.sub (ha : Ev ta σ H (.int i)) (hb : Ev tb σ H (.int j)) : Ev (tSubO ta tb) σ H (.int (i - j)) := fun Q q => ha _ (hb _ ⟨i, j, rfl, rfl, q⟩)
theorem Ev.mul (ha : Ev ta σ H (.int i)) (hb : Ev tb σ H (.int j)) (hc : CMul i j) : Ev (tMulO ta tb) σ H (.int (i * j)) := fun Q q => ha _ (hb _ ⟨i, j, rfl, rfl, hc, q⟩)
theorem Ev.mod (ha : Ev ta σ H (.int i)) (hb : Ev tb σ H (.int j)) (hc : 0 < j) : Ev (tModO ta tb) σ H (.int (i % j)) := fun Q q => ha _ (hb _ ⟨i, j, rfl, rfl, hc, q⟩)
theorem Ev.toInt (ha : Ev ta σ H (.int i)) : Ev (tIntO ta) σ H (.int i) := fun Q q => ha _ (.inl ⟨i, rfl, q⟩)
theorem Ev.box {K : PySem.W.Frag} {a : Addr} {xs : List V} {v : V} (h0 : σ[0]? = some (some (.ref a))) (hH : H a = some (.lst xs)) (hv : atI xs i = some v) : Ev (tBox K i) σ H v := fun Q q => ⟨.ref a, h0, a, xs, i, v, rfl, rfl, .inl (.inl hH), hv, q⟩
end
def ldFst (h : Int) : Int := (h * 48271 + 17) % 2147483629
def ldSnd (h : Int) : Int := (ldFst h * 69621 + 5) % 2147483587
def ldThd (h : Int) : Int := (ldSnd h * 40692 + 3) % 2147483563
def ldOut (h : Int) : Int := ldFst h * 4611686014132420609 + ldSnd h * 2147483647 + ldThd h
def ldSize (c : Int) : Int := if 0 ≤ c then 2 * c else -2 * c - 1
def ldMix (h s : Int) : Int := (h * 69621 + s * 48271 + 11) % 2147483647
def boxOf (cs : List Int) (z h : Int) : D := .list [.list (intL cs), .int z, .int h]
def ldI (cs : List Int) (z h : Int) : Int × D := match cs with
  | [] => (ldOut h, boxOf [] z (ldThd h))
  | c :: r => if 1000000000000000000 ≤ ldSize c then (ldSize c, boxOf r z h) else (ldOut (ldMix h (ldSize c)), boxOf r z (ldThd (ldMix h (ldSize c))))
def F__law_load : List D → Option (D × D)
  | [.list [.list ds, .int z, .int h]] => match intsOf ds with
    | some cs => some (.int (ldI cs z h).1, (ldI cs z h).2)
    | none => none
  | _ => none
abbrev tEnd (K : PySem.W.Frag) : TS :=
  tSeq (tAsg (tModO (tIntO (tAddO (tMulO (tBox K 2) (tI 48271)) (tI 17))) (tI 2147483629)) (gName 4))
  (tSeq (tAsg (tModO (tIntO (tAddO (tMulO (tVar 4) (tI 69621)) (tI 5))) (tI 2147483587)) (gName 5))
  (tSeq (tAsg (tModO (tIntO (tAddO (tMulO (tVar 5) (tI 40692)) (tI 3))) (tI 2147483563)) (gSub (tVar 0) (tI 2) rSetL))
    (tRet (tAddO (tAddO (tMulO (tVar 4) (tI 4611686014132420609)) (tMulO (tVar 5) (tI 2147483647))) (tBox K 2)))))
theorem cm {i j : Int} (h1 : -(2 ^ 64) < j := by decide) (h2 : j < 2 ^ 64 := by decide) : CMul i j := .inr ⟨h1, h2⟩
theorem set6 {σ : L2.St} {n : Nat} {v : Option V} (hl : n < σ.length) : (σ.set n v)[n]? = some v := List.getElem?_set_self hl
theorem load_end {K : PySem.W.Frag} {σ : L2.St} {H : Hp} {a b : Addr} {z h : Int} {Q : VK} {nx : L2.St → Hp → Prop} (hl : σ.length = 6) (h0 : σ[0]? = some (some (.ref a))) (hH : H a = some (.lst [.ref b, .int z, .int h]))
    (q : Q (.int (ldOut h)) (upd H a (.lst [.ref b, .int z, .int (ldThd h)]))) : tEnd K { nx := nx, rt := Q } σ H := by
  have e1 : Ev (tModO (tIntO (tAddO (tMulO (tBox K 2) (tI 48271)) (tI 17))) (tI 2147483629)) σ H (.int (ldFst h)) :=
    .mod (.toInt (.add (.mul (.box h0 hH rfl) .c cm) .c)) .c (by decide)
  refine e1 _ ?_
  have l1 : (σ.set 4 (some (V.int (ldFst h)))).length = 6 := by rw [List.length_set]; exact hl
  have g4 : (σ.set 4 (some (V.int (ldFst h))))[4]? = some (some (.int (ldFst h))) := set6 (by omega)
  have e2 : Ev (tModO (tIntO (tAddO (tMulO (tVar 4) (tI 69621)) (tI 5))) (tI 2147483587)) (σ.set 4 (some (V.int (ldFst h)))) H (.int (ldSnd h)) :=
    .mod (.toInt (.add (.mul (.var g4) .c cm) .c)) .c (by decide)
  refine e2 _ ?_
  have g5 : ((σ.set 4 (some (V.int (ldFst h)))).set 5 (some (V.int (ldSnd h))))[5]? = some (some (.int (ldSnd h))) := set6 (by omega)
  have g4' : ((σ.set 4 (some (V.int (ldFst h)))).set 5 (some (V.int (ldSnd h))))[4]? = some (some (.int (ldFst h))) := by rw [get_set_ne (by decide)]; exact g4
  have g0' : ((σ.set 4 (some (V.int (ldFst h)))).set 5 (some (V.int (ldSnd h))))[0]? = some (some (.ref a)) := by rw [get_set_ne (by decide), get_set_ne (by decide)]; exact h0
  have e3 : Ev (tModO (tIntO (tAddO (tMulO (tVar 5) (tI 40692)) (tI 3))) (tI 2147483563)) ((σ.set 4 (some (V.int (ldFst h)))).set 5 (some (V.int (ldSnd h)))) H (.int (ldThd h)) :=
    .mod (.toInt (.add (.mul (.var g5) .c cm) .c)) .c (by decide)
  refine e3 _ ⟨.ref a, g0', a, _, 2, 2, rfl, rfl, hH, rfl, ?_⟩
  have e4 : Ev (tAddO (tAddO (tMulO (tVar 4) (tI 4611686014132420609)) (tMulO (tVar 5) (tI 2147483647))) (tBox K 2)) ((σ.set 4 (some (V.int (ldFst h)))).set 5 (some (V.int (ldSnd h)))) (upd H a (.lst [.ref b, .int z, .int (ldThd h)])) (.int (ldOut h)) :=
    .add (.add (.mul (.var g4') .c cm) (.mul (.var g5) .c cm)) (.box g0' upd_same rfl)
  exact e4 _ q
abbrev tLoad (K : PySem.W.Frag) : TS :=
  tSeq (tAsg (tOp (rIxL K) (tVar 0) (tI 0)) (gName 1))
  (tSeq (tIfS (tTest (tOp (rI0 fun i j => .bl (decide (j < i))) (tCB (fun xs H Q => ∃ p ys, xs = [.ref p] ∧ (SqL K H p ys ∨ SqT K H p ys) ∧ Q (.int ys.length) H) (tCons (tVar 1) tNil)) (tI 0)))
      (tSeq (tAsg (tIntO (tBM K "list" rPopAt (tVar 1) (tCons (tI 0) tNil))) (gName 2))
      (tSeq (tAsg (tIf (tTest (tOp (rI0 fun i j => .bl (decide (j ≤ i))) (tVar 2) (tI 0))) (tMulO (tI 2) (tVar 2)) (tSubO (tMulO (tUn (rU fun i => .int (-i)) (tI 2)) (tVar 2)) (tI 1))) (gName 3))
      (tSeq (tIfS (tTest (tOp (rI0 fun i j => .bl (decide (j ≤ i))) (tVar 3) (tI 1000000000000000000))) (tRet (tVar 3)) tNext)
        (tAsg (tModO (tIntO (tAddO (tAddO (tMulO (tBox K 2) (tI 69621)) (tMulO (tVar 3) (tI 48271))) (tI 11))) (tI 2147483647)) (gSub (tVar 0) (tI 2) rSetL))))) tNext)
    (tEnd K))
theorem ite_eq {p : Prop} [Decidable p] {A B : Prop} (h1 : p → A) (h2 : ¬ p → B) : if decide p = true then A else B := by
  by_cases h : p
  · rw [if_pos (decide_eq_true h)]; exact h1 h
  · rw [if_neg (by simpa using h)]; exact h2 h
theorem load_run {K : PySem.W.Frag} {H : Hp} {a b : Addr} {cs : List Int} {z h : Int} {Q : VK} {nx : L2.St → Hp → Prop} {N : List Str} (hN : N.length = 6) (hab : a ≠ b) (hH : H a = some (.lst [.ref b, .int z, .int h])) (hB : H b = some (.lst (cs.map V.int)))
    (q : ∀ v H' cs' z' h', (ldI cs z h).1 = v → (ldI cs z h).2 = boxOf cs' z' h' → cs'.length ≤ cs.length → H' a = some (.lst [.ref b, .int z', .int h']) → H' b = some (.lst (cs'.map V.int)) → (∀ x, x ≠ a → x ≠ b → H' x = H x) → Q (.int v) H') :
    tLoad K { nx := nx, rt := Q } (start N [.ref a]) H := by
  have hs : start N [V.ref a] = [some (.ref a), none, none, none, none, none] := by unfold L2.start; rw [hN]; rfl
  rw [hs]
  refine ⟨.ref a, rfl, a, _, 0, .ref b, rfl, rfl, .inl (.inl hH), rfl, ?_⟩
  refine ⟨.ref b, rfl, b, _, rfl, .inl (.inl (.inl hB)), ((cs.map V.int).length : Int), 0, rfl, rfl, _, rfl, ?_⟩
  refine ite_eq (fun hl => ?_) fun hl => ?_
  · cases cs with
    | nil => simp at hl
    | cons c r =>
      refine ⟨.ref b, rfl, .inl ⟨rfl, _, .inl (.inl hB)⟩, b, _, 0, 0, .int c, rfl, rfl, hB, by decide, by decide, ?_, rfl, .inl ⟨c, rfl, ?_⟩⟩
      · unfold seqIndex?; simp
      have hH1 : (upd H b (.lst ((List.map V.int (c :: r)).eraseIdx 0))) a = some (.lst [.ref b, .int z, .int h]) := by rw [upd_ne hab]; exact hH
      generalize hHe : upd H b (.lst ((List.map V.int (c :: r)).eraseIdx 0)) = H1 at *
      have hB1 : H1 b = some (.lst (r.map V.int)) := by rw [← hHe, upd_same]; rfl
      have hO1 : ∀ x, x ≠ b → H1 x = H x := fun x hx => by rw [← hHe, upd_ne hx]
      -- size
      have hsz : Ev (tIf (tTest (tOp (rI0 fun i j => .bl (decide (j ≤ i))) (tVar 2) (tI 0))) (tMulO (tI 2) (tVar 2)) (tSubO (tMulO (tUn (rU fun i => .int (-i)) (tI 2)) (tVar 2)) (tI 1))) [some (.ref a), some (.ref b), some (.int c), none, none, none] H1 (.int (ldSize c)) := fun Q' q' => by
        refine ⟨.int c, rfl, c, 0, rfl, rfl, _, rfl, ite_eq (fun h1 => ?_) fun h1 => ?_⟩
        · have : ldSize c = 2 * c := if_pos h1
          rw [this] at q'
          exact ⟨.int c, rfl, 2, c, rfl, rfl, .inl ⟨by decide, by decide⟩, q'⟩
        · have : ldSize c = -2 * c - 1 := if_neg h1
          rw [this] at q'
          exact ⟨2, rfl, .int c, rfl, -2, c, rfl, rfl, .inl ⟨by decide, by decide⟩, _, _, rfl, rfl, q'⟩
      refine hsz _ ?_
      refine ⟨.int (ldSize c), rfl, _, _, rfl, rfl, _, rfl, ite_eq (fun h1 => ?_) fun h1 => ?_⟩
      · refine ⟨.int (ldSize c), rfl, ?_⟩
        refine q (ldSize c) H1 r z h ?_ ?_ (by simp) hH1 hB1 fun x h1 h2 => hO1 x h2
        · simp only [ldI, if_pos h1]
        · simp only [ldI, if_pos h1]
      · have hmx : Ev (tModO (tIntO (tAddO (tAddO (tMulO (tBox K 2) (tI 69621)) (tMulO (tVar 3) (tI 48271))) (tI 11))) (tI 2147483647)) [some (.ref a), some (.ref b), some (.int c), some (.int (ldSize c)), none, none] H1 (.int (ldMix h (ldSize c))) :=
          .mod (.toInt (.add (.add (.mul (.box rfl hH1 rfl) .c cm) (.mul (.var rfl) .c cm)) .c)) .c (by decide)
        refine hmx _ ⟨.ref a, rfl, a, _, 2, 2, rfl, rfl, hH1, rfl, ?_⟩
        refine load_end (a := a) (b := b) (z := z) (h := ldMix h (ldSize c)) rfl rfl upd_same ?_
        refine q _ _ r z _ ?_ ?_ (by simp) upd_same ?_ fun x h1 h2 => ?_
        · simp only [ldI, if_neg h1]
        · simp only [ldI, if_neg h1]
        · rw [upd_ne (Ne.symm hab), upd_ne (Ne.symm hab)]; exact hB1
        · rw [upd_ne h1, upd_ne h1]; exact hO1 x h2
  · have hc : cs = [] := by
      cases cs with
      | nil => rfl
      | cons c r => exact absurd (by simp <;> omega) hl
    subst hc
    refine load_end (a := a) (b := b) (z := z) (h := h) rfl rfl hH ?_
    refine q _ _ [] z _ rfl rfl (by simp) upd_same ?_ fun x h1 h2 => ?_
    · rw [upd_ne (Ne.symm hab)]; exact hB
    · rw [upd_ne h1]
theorem pureL_ints (cs : List Int) : pureL (cs.map PyData.int) = true := pureL_iff.mpr fun d m => by
  obtain ⟨c, _, rfl⟩ := List.mem_map.mp m; rfl
theorem load_sp {K : PySem.W.Frag} {vs : List V} {H : Hp} {Q : VK} {E : XK} {nx : L2.St → Hp → Prop} {N : List Str} (hN : N.length = 6) (hp : spM K 1 0 F__law_load vs H Q E) : tLoad K { nx := nx, rt := Q } (start N vs) H := by
  obtain ⟨hl, ds, f, r, d', vm, hld, hvm, hf, nd, dj, hF, tb, q⟩ := hp
  unfold F__law_load at hF
  split at hF
  · rename_i dcs z h
    split at hF
    · rename_i cs ei
      cases hF
      have ecs := intsOf_map ei
      subst ecs
      obtain ⟨v, hv, rv⟩ := hf 0 _ rfl
      have hvs : vs = [v] := by
        cases vs with
        | nil => simp at hl
        | cons x xs =>
          cases xs with
          | nil => simp at hv; rw [hv]
          | cons y ys => simp at hl
      subst hvs
      simp at hvm; subst hvm
      generalize f 0 = f0 at *
      cases rv with
      | lst h1 h2 h3 =>
        rename_i a xs fs
        cases h3 with
        | cons r1 r2 =>
          rename_i v1 vs1 f1 fs1
          cases r2 with
          | cons r2 r3 =>
            cases r2
            cases r3 with
            | cons r3 r4 =>
              cases r3
              cases r4
              cases r1 with
              | lst g1 g2 g3 =>
                rename_i b ys fs2
                have hys := g3.ints
                subst hys
                have hfs2 : fs2 = [] := RpL.pure _ _ _ g3 (pureL_ints cs)
                subst hfs2
                simp only [List.append_nil, List.nil_append, List.nodup_cons, List.mem_cons, List.not_mem_nil, or_false, not_false_eq_true, List.nodup_nil, and_true] at nd
                refine load_run hN nd h1 g1 fun v H' cs' z' h' e1 e2 el hA hB' hO => ?_
                subst e1
                refine q (.int _) H' [a, b] [] (Keep.of0 fun x o ex hx => ?_) ?_ (by simp [nd]) (fun x m => .inl (by simpa using m)) (.int _) List.nodup_nil fun x m => nomatch m
                · by_cases hxa : x = a
                  · subst hxa
                    rcases hx with hx | hx
                    · exact absurd (by simp) hx.2
                    · rw [h1] at ex; cases ex; exact absurd trivial hx
                  · by_cases hxb : x = b
                    · subst hxb
                      rcases hx with hx | hx
                      · exact absurd (by simp) hx.2
                      · rw [g1] at ex; cases ex; exact absurd trivial hx
                    · rw [hO x hxa hxb]; exact ex
                · rw [e2]
                  have hlen : (cs'.map V.int).length ≤ sizeLine := by
                    rw [List.length_map] at g2 ⊢; omega
                  exact .lst hA (by show 3 ≤ sizeLine; decide) (.cons (f := [b]) (fs := []) (.lst hB' hlen (RpL.ofInts cs')) (.cons (f := []) (fs := []) (.int _) (.cons (f := []) (fs := []) (.int _) .nil)))
    · cases hF
  · cases hF
end PV

set_option Elab.async false
set_option linter.all false
set_option maxRecDepth 100000
set_option maxHeartbeats 2000000
namespace PV
open PySem PySem.Spec PyProof.Rows L2
variable [TN]

/-! ### [.. for k in d]: the dict is locked meanwhile -/
def shortK (kvs : List (D × D)) : Bool := kvs.all fun p => match p.1 with
  | .tuple ds => decide (ds.length ≤ 1000000)
  | _ => true
def keysL : D → Option (List D)
  | .dict ((.bool _, _) :: (.none, _) :: kvs) => if shortK kvs = true then some (kvs.map (·.1)) else none
  | .dict ((.bool _, _) :: kvs) => if shortK kvs = true then some (kvs.map (·.1)) else none
  | _ => none
def lockR (i : Nat) (kvs : List (D × D)) (ρ : Rh) : Rh := ρ.mapIdx fun j c => if j = i then some ⟨.dict ((.bool true, .none) :: kvs), .ro⟩ else match c with
  | some c => if pureD c.d = true then some c else none
  | none => none
def eLcD (i : Nat) (p : Pat) (vs : List Nat) (t : Rh → Option Bool) (e : Rh → Option D) : Rh → Option D := fun ρ => match getS i ρ with
  | some (.dict kvs) => if locked (.dict kvs) = false ∧ pureL (kvs.map (·.2)) = true then match eLc p vs (fun ρ => (getS i ρ).bind keysL) t e (lockR i kvs ρ) with
      | some (.list r) => if pureL r = true then some (.list r) else none
      | _ => none
    else none
  | _ => none
theorem kD_rp {K : PySem.W.Frag} {H : Hp} (k : Key) : Rp K H (kV k) (kD k) [] := by
  cases k with
  | inl i => exact .int i
  | inr x => exact .str x
theorem kDs_rp {K : PySem.W.Frag} {H : Hp} : ∀ ks : List Key, RpL K H (ks.map kV) (ks.map kD) []
  | [] => .nil
  | k :: ks => .cons (f := []) (fs := []) (kD_rp k) (kDs_rp ks)
theorem wkOk_keys {K : PySem.W.Frag} {H : Hp} {d : Addr} {o : Obj} {hk : List (Key × V)} (h : H d = some (.frz o (.dK hk))) : WkOk K H (Itk d o hk) (hk.map fun p => kD p.1) [] := by
  refine ⟨⟨_, _, by rw [List.length_map]; exact walk_keys, h, fun H2 k => k.at_ _ _ h (.inr id) trivial, fun i H2 x H3 hi k y => ?_⟩, fun b m => nomatch m⟩
  obtain ⟨rfl, k0, v, e, rfl⟩ := y
  exact ⟨Same.refl, kD k0, [], by rw [List.getElem?_map, e]; rfl, kD_rp k0, fun a m => nomatch m⟩
theorem wkOk_keysT {K : PySem.W.Frag} {H : Hp} {d : Addr} {o : Obj} {hk : List (List Key × V)} (h : H d = some (.frz o (.dT hk))) (hs : ∀ p ∈ hk, p.1.length ≤ 1000000) : WkOk K H (Itkt d o hk) (hk.map fun p => tD p.1) [] := by
  refine ⟨⟨_, _, by rw [List.length_map]; exact walk_keysT, h, fun H2 k => k.at_ _ _ h (.inr id) trivial, fun i H2 x H3 hi k y => ?_⟩, fun b m => nomatch m⟩
  obtain ⟨rfl, k0, v, q, e, rfl, hq⟩ := y
  exact ⟨Same.refl, tD k0, [], by rw [List.getElem?_map, e]; rfl, .tup hq (by rw [List.length_map]; exact mil_line (hs _ (List.mem_of_getElem? e))) (kDs_rp k0), fun a m => nomatch m⟩
theorem shortK_t {hk : List (List Key × V)} {kvs : List (D × D)} (h : kvs.map (·.1) = hk.map (fun p => tD p.1)) (hs : shortK kvs = true) : ∀ p ∈ hk, p.1.length ≤ 1000000 := by
  intro p hp
  have : tD p.1 ∈ kvs.map (·.1) := by rw [h]; exact List.mem_map.mpr ⟨p, hp, rfl⟩
  obtain ⟨q, hq, e⟩ := List.mem_map.mp this
  have := List.all_eq_true.mp hs q hq
  rw [e] at this
  simpa [tD] using this
section
variable {X : Cx} {tg it elt : Expr} {ifs : List Expr} {scope : Scope} {own : List (Str × Nat)} {pos : Pos} {i : Nat}
theorem ip_keys (pe : PE X it (tVar i)) : IP X tg it [] (fun ρ => (getS i ρ).bind keysL) := by
  refine ⟨_, pi_keys pe, fun ρ σ H f ds R Rf hd q => ?_⟩
  cases e1 : getS i ρ with
  | none => simp [e1] at hd
  | some d =>
    simp only [e1, Option.bind_some] at hd
    obtain ⟨c, ec, rfl⟩ := getS_some e1
    obtain ⟨v, ev, r⟩ := Rf.rp i c ec
    refine ⟨v, ev, ?_⟩
    unfold keysL at hd
    split at hd
    · rename_i b x y kvs ed
      split at hd
      · rename_i hs
        cases hd
        rw [ed] at r
        generalize f i = fi at r
        cases r with
        | dct h1 h2 =>
          rcases h1 with ⟨hk, g1, g2, g3⟩ | ⟨hk, g1, g2, g3⟩
          · exact (not_bool_kD g2).elim
          · simp at g2
        | dcn h1 h2 => exact (not_nct_bool h1).elim
        | dcf h1 h2 =>
          rcases h1 with ⟨ob, hk, g1, g2, g3⟩ | ⟨ob, hk, g1, g2, g3⟩
          · simp only [List.map_cons, List.cons.injEq] at g2
            exact (not_none_kD (p := y) (by simpa using g2.2)).elim
          · simp only [List.map_cons, List.cons.injEq] at g2
            have g4 : kvs.map (·.1) = hk.map (fun p => tD p.1) := g2.2.2
            refine ⟨_, ob, rfl, .inr ⟨hk, g1, ?_⟩⟩
            rw [g4] at q
            exact q _ H [] Same.refl (wkOk_keysT g1 (shortK_t g4 hs)) fun a m => nomatch m
      · cases hd
    · rename_i b x kvs hne ed
      split at hd
      · cases hd
        rw [ed] at r
        generalize f i = fi at r
        cases r with
        | dct h1 h2 =>
          rcases h1 with ⟨hk, g1, g2, g3⟩ | ⟨hk, g1, g2, g3⟩
          · exact (not_bool_kD g2).elim
          · simp at g2
        | dcn h1 h2 => exact (not_nct_bool h1).elim
        | dcf h1 h2 =>
          rcases h1 with ⟨ob, hk, g1, g2, g3⟩ | ⟨ob, hk, g1, g2, g3⟩
          · simp only [List.map_cons, List.cons.injEq] at g2
            have g4 := g2.2
            refine ⟨_, ob, rfl, .inl ⟨hk, g1, ?_⟩⟩
            rw [g4] at q
            exact q _ H [] Same.refl (wkOk_keys g1) fun a m => nomatch m
          · cases kvs with
            | nil => simp at g2
            | cons q0 kvs =>
              obtain ⟨q1, q2⟩ := q0
              simp only [List.map_cons, List.cons.injEq] at g2
              obtain ⟨_, g2, _⟩ := g2
              subst g2
              exact (hne _ _ rfl).elim
      · cases hd
    · cases hd
/-! what is pure needs tuples alone -/
mutual
theorem Rp.move {K : PySem.W.Frag} {H H' : Hp} (h : ∀ a xs, H a = some (.tup xs) → H' a = some (.tup xs)) : ∀ (d : D) (v : V) (fp : List Addr), Rp K H v d fp → pureD d = true → Rp K H' v d []
  | .none, _, _, r, _ => by cases r; exact .non
  | .bool b, _, _, r, _ => by cases r; exact .bl b
  | .int b, _, _, r, _ => by cases r; exact .int b
  | .str b, _, _, r, _ => by cases r; exact .str b
  | .list ds, _, _, r, p => by cases p
  | .dict ds, _, _, r, p => by cases p
  | .tuple ds, _, _, r, p => by
    cases r with
    | tup h1 h2 h3 => exact .tup (h _ _ h1) h2 (RpL.move h ds _ _ h3 (by simpa [pureD] using p))
theorem RpL.move {K : PySem.W.Frag} {H H' : Hp} (h : ∀ a xs, H a = some (.tup xs) → H' a = some (.tup xs)) : ∀ (ds : List D) (vs : List V) (fp : List Addr), RpL K H vs ds fp → pureL ds = true → RpL K H' vs ds []
  | [], _, _, r, _ => by cases r; exact .nil
  | d :: ds, _, _, r, p => by
    cases r with
    | cons h1 h2 =>
      simp only [pureL, Bool.and_eq_true] at p
      exact .cons (f := []) (fs := []) (Rp.move h d _ _ h1 p.1) (RpL.move h ds _ _ h2 p.2)
end
theorem ep_lcD {p : Pat} {t : Rh → Option Bool} {e : Rh → Option D} (hc : X.calm = true) (hN : X.N.Nodup) (pi : PE X it (tVar i)) (ok : BlkOk X.N X.env.scope scope own)
    (hg : ∀ (s : Shared) (H : Hp) (C : Addr) (cl : List (Str × Addr)) (fp : List Addr), PatC (X.blk s H scope (compEnvC scope cl C X.env) fp) tg p (own.map (·.2)))
    (ht : ∀ (s : Shared) (H : Hp) (C : Addr) (cl : List (Str × Addr)) (fp : List Addr), TPs (X.blk s H scope (compEnvC scope cl C X.env) fp) ifs t)
    (he : ∀ (s : Shared) (H : Hp) (C : Addr) (cl : List (Str × Addr)) (fp : List Addr), EP true (X.blk s H scope (compEnvC scope cl C X.env) fp) elt e) (hs : ∀ x, foldedSetIterable it X.env x = pure x := by intro _; rfl) :
    EP true X (.ListComp elt [⟨tg, it, ifs, 0⟩] scope pos) (eLcD i p (own.map (·.2)) t e) := by
  obtain ⟨wi, pi2, hiq⟩ := ip_keys (tg := tg) pi
  refine ⟨_, pe_lock (pe_lc (g := cP X.K p (own.map (·.2))) (tt := cT X.K t) (te := cE X.K e) hc hN pi2 ok (fun s H C cl fp => (hg s H C cl fp).canon) (fun s H C cl fp => (ht s H C cl fp).canon) (fun s H C cl fp => (he s H C cl fp).canon) hs), fun ρ σ H d Q R h q => ?_⟩
  unfold eLcD at h
  split at h
  · rename_i kvs e1
    split at h
    · rename_i hcond
      split at h
      · rename_i r e2
        split at h
        · rename_i hpure
          cases h
          obtain ⟨c, ec, ed⟩ := getS_some e1
          obtain ⟨v, fv, ev, rv⟩ := R.rp i c ec
          rw [ed] at rv
          obtain ⟨a, vs, fs, rfl, rfl, hd, rl⟩ := rv.dctInv hcond.1
          have hfs : fs = [] := RpL.pure _ _ _ rl hcond.2
          subst hfs
          -- what stands there
          obtain ⟨u, hu, mu, hfz⟩ : ∃ u, H a = some u ∧ Mut (some u) ∧ ∀ o, IsFrz (upd H a (.frz o u)) a (.bool true :: kvs.map (·.1)) (.non :: vs) := by
            rcases hd with ⟨hk, g1, g2, g3⟩ | ⟨hk, g1, g2, g3⟩
            · exact ⟨_, g1, trivial, fun o => .inl ⟨o, hk, upd_same, by rw [g2], by rw [g3]⟩⟩
            · exact ⟨_, g1, trivial, fun o => .inr ⟨o, hk, upd_same, by rw [g2], by rw [g3]⟩⟩
          refine ⟨a, u, hu, mu, fun od => ?_⟩
          have tupL : ∀ b xs, H b = some (.tup xs) → (upd H a (.frz od u)) b = some (.tup xs) := fun b xs hb => by
            rw [upd_ne (fun z => by subst z; rw [hu] at hb; cases hb; exact mu)]; exact hb
          have RL : RhR X.K (lockR i kvs ρ) σ (upd H a (.frz od u)) := by
            refine ⟨(keep_ne (o := .frz od u) (by rw [hu]; exact mu)).tab R.tb, by rw [R.len]; simp [lockR], fun j c2 e3 => ?_⟩
            unfold lockR at e3
            rw [List.getElem?_mapIdx] at e3
            cases e4 : ρ[j]? with
            | none => rw [e4] at e3; cases e3
            | some c3 =>
              rw [e4] at e3
              simp only [Option.map_some, Option.some.injEq] at e3
              by_cases hj : j = i
              · subst hj
                rw [if_pos rfl] at e3
                cases e3
                exact ⟨.ref a, [], ev, .dcf (vs := .non :: vs) (hfz od) (.cons (f := []) (fs := []) .non (RpL.move tupL _ _ _ rl hcond.2))⟩
              · rw [if_neg hj] at e3
                cases c3 with
                | none => cases e3
                | some c4 =>
                  simp only at e3
                  split at e3
                  · rename_i hp
                    cases e3
                    obtain ⟨v4, f4, ev4, r4⟩ := R.rp j c2 e4
                    exact ⟨v4, [], ev4, Rp.move tupL _ _ _ r4 hp⟩
                  · cases e3
          refine lc_sound (elt := elt) (tg := tg) (iter := it) hiq (lockR i kvs ρ) σ (upd H a (.frz od u)) (.list r) _ RL e2 fun v2 H2 fp2 s2 r2 n2 => ?_
          have hz : H2 a = some (.frz od u) := s2.at_ _ _ upd_same trivial
          refine ⟨hz, ?_⟩
          cases r2 with
          | lst k1 k2 k3 =>
            rename_i l xs fs2
            have hf2 : fs2 = [] := RpL.pure _ _ _ k3 hpure
            subst hf2
            have hla : l ≠ a := fun z => by rw [z, hz] at k1; cases k1
            have hl0 : H l = none := by have := n2.2 l (by simp); rw [upd_ne hla] at this; exact this
            refine q (.ref l) _ [l] ⟨fun b o hb nt => ?_, fun b z => ?_, fun t => TabI.unlock (s2.tab ((keep_ne (o := .frz od u) (by rw [hu]; exact mu)).tab t)) hz mu⟩ (.lst (by rw [upd_ne hla]; exact k1) k2 (RpL.move (fun b ys hb => ?_) _ _ _ k3 hpure)) fun _ => ⟨by simp, fun b m => by rw [List.mem_singleton] at m; rw [m]; exact hl0⟩
            · by_cases hba : b = a
              · subst hba; rw [upd_same, ← hu, hb]
              · rw [upd_ne hba]; exact s2.at_ b o (by rw [upd_ne hba]; exact hb) nt
            · by_cases hba : b = a
              · rw [hba, upd_same] at z; cases z
              · rw [upd_ne hba] at z; have := s2.dom b z; rw [upd_ne hba] at this; exact this
            · rw [upd_ne (fun z => by rw [z, hz] at hb; cases hb)]; exact hb
        · cases h
      · cases h
    · cases h
  · cases h
end
end PV

set_option Elab.async false
set_option linter.all false
set_option maxRecDepth 100000
set_option maxHeartbeats 1000000
/-! dicts of nested tuple keys -/
namespace PV
open PySem PySem.Spec PyProof.Rows L2
variable [TN]
mutual
def nkD : D → Option NestedKey
  | .none => some .none
  | .int i => some (.num i)
  | .str x => some (.text x)
  | .tuple ds => match nkDs ds with
    | some ks => some (.tup ks)
    | none => none
  | .bool _ => none
  | .list _ => none
  | .dict _ => none
def nkDs : List D → Option (List NestedKey)
  | [] => some []
  | d :: ds => match nkD d, nkDs ds with
    | some k, some ks => some (k :: ks)
    | _, _ => none
end
mutual
theorem nkD_data : ∀ k : NestedKey, nkD k.data = some k
  | .none => rfl
  | .num _ => rfl
  | .text _ => rfl
  | .tup ks => by simp only [NestedKey.data, nkD, nkDs_data ks]
theorem nkDs_data : ∀ ks : List NestedKey, nkDs (NestedKey.datas ks) = some ks
  | [] => rfl
  | k :: ks => by simp only [NestedKey.datas, nkDs, nkD_data k, nkDs_data ks]
end
mutual
theorem nkD_inv : ∀ (d : D) (k : NestedKey), nkD d = some k → d = k.data
  | .none, k, h => by cases h; rfl
  | .int i, k, h => by cases h; rfl
  | .str x, k, h => by cases h; rfl
  | .bool _, k, h => by cases h
  | .list _, k, h => by cases h
  | .dict _, k, h => by cases h
  | .tuple ds, k, h => by
    simp only [nkD] at h
    split at h
    · rename_i ks e
      cases h
      rw [nkDs_inv ds ks e]; rfl
    · cases h
theorem nkDs_inv : ∀ (ds : List D) (ks : List NestedKey), nkDs ds = some ks → ds = NestedKey.datas ks
  | [], ks, h => by cases h; rfl
  | d :: ds, ks, h => by
    simp only [nkDs] at h
    split at h
    · rename_i k ks' e1 e2
      cases h
      rw [nkD_inv d k e1, nkDs_inv ds ks' e2]; rfl
    · cases h
end
mutual
theorem nk_val {K : PySem.W.Frag} {H : Hp} : ∀ (d : D) (k : NestedKey) (v : V) (f : List Addr), Rp K H v d f → nkD d = some k → NK H k v
  | .none, k, v, f, r, h => by cases h; cases r; exact .non
  | .int i, k, v, f, r, h => by cases h; cases r; exact .num i
  | .str x, k, v, f, r, h => by cases h; cases r; exact .text x
  | .bool _, k, v, f, r, h => by cases h
  | .list _, k, v, f, r, h => by cases h
  | .dict _, k, v, f, r, h => by cases h
  | .tuple ds, k, v, f, r, h => by
    simp only [nkD] at h
    split at h
    · rename_i ks e
      cases h
      cases r with
      | tup h1 h2 h3 => exact .tup h1 (nk_vals ds ks _ _ h3 e)
    · cases h
theorem nk_vals {K : PySem.W.Frag} {H : Hp} : ∀ (ds : List D) (ks : List NestedKey) (v : List V) (f : List Addr), RpL K H v ds f → nkDs ds = some ks → NKs H ks v
  | [], ks, v, f, r, h => by cases h; cases r; exact .nil
  | d :: ds, ks, v, f, r, h => by
    simp only [nkDs] at h
    split at h
    · rename_i k ks' e1 e2
      cases h
      cases r with
      | cons r1 r2 => exact .cons (nk_val d k _ _ r1 e1) (nk_vals ds ks' _ _ r2 e2)
    · cases h
end
/-- a key that may be looked for: a tuple, no text in it, not too deep -/
def goodD (d : D) : Option NestedKey := match d with
  | .tuple ds => match nkDs ds with
    | some ks => if flatKs ks = true ∧ NestedKey.depthAll ks ≤ 7 then some (.tup ks) else none
    | none => none
  | _ => none
theorem goodD_some {d : D} {k : NestedKey} (h : goodD d = some k) : nkD d = some k ∧ GoodK k ∧ ∃ ks, k = .tup ks := by
  unfold goodD at h
  split at h
  · split at h
    · rename_i ds ks e
      split at h
      · rename_i hc
        cases h
        exact ⟨by simp only [nkD, e], ⟨hc.1, by have := hc.2; simp only [NestedKey.depth]; omega⟩, _, rfl⟩
      · cases h
    · cases h
  · cases h
theorem good_val {K : PySem.W.Frag} {H : Hp} {y : V} {d : D} {f : List Addr} {k : NestedKey} (r : Rp K H y d f) (h : goodD d = some k) : ∃ b, y = .ref b ∧ NK H k (.ref b) ∧ GoodK k := by
  obtain ⟨h1, h2, ks, rfl⟩ := goodD_some h
  have := nk_val d _ y f r h1
  cases this with
  | tup a b => exact ⟨_, rfl, .tup a b, h2⟩
def prN (xs : NX) : List (NestedKey × V) := xs.map fun x => (x.1, x.2.2)
theorem valV_prN (xs : NX) (k : NestedKey) : valV (prN xs) k = valN xs k := by
  unfold valV valN prN
  induction xs with
  | nil => rfl
  | cons x xs ih =>
    by_cases h : x.1 = k
    · simp [h]
    · simp only [List.map_cons, List.find?_cons, h, decide_false]; exact ih
theorem prN_putN (xs : NX) (k : NestedKey) (b : Addr) (v : V) : prN (putN xs k b v) = putK (prN xs) k v := by
  unfold putN putK
  have e : ((prN xs).any fun kv => decide (kv.1 = k)) = (valN xs k).isSome := by
    rw [← valV_prN]; exact valV_any (kvs := prN xs) (k := k)
  rw [e]
  by_cases q : (valN xs k).isSome = true
  · rw [if_pos q, if_pos q]
    unfold prN
    rw [List.map_map, List.map_map]
    refine List.map_congr_left fun x _ => ?_
    by_cases h : x.1 = k <;> simp [h]
  · rw [if_neg q, if_neg q]; simp [prN]
def nlook (d k : D) : Option (Option D) := match d with
  | .dict ((.tuple _, _) :: kvs) => match goodD k with
    | some ks => some (findG nkD kvs ks)
    | none => none
  | _ => none
theorem nct_inv {K : PySem.W.Frag} {H : Hp} {x : V} {t : List D} {p : D} {kvs : List (D × D)} {fx : List Addr} (rx : Rp K H x (.dict ((.tuple t, p) :: kvs)) fx) : ∃ a xs fs, x = .ref a ∧ fx = a :: fs ∧ IsN H a xs ∧ t = [] ∧ p = .none ∧ kvs.map (·.1) = (prN xs).map (fun p => p.1.data) ∧ RpL K H ((prN xs).map (·.2)) (kvs.map (·.2)) fs := by
  cases rx with
  | dct h1 h2 =>
    rcases h1 with ⟨hk, g1, g2, g3⟩ | ⟨hk, g1, g2, g3⟩
    · cases hk with
      | nil => simp at g2
      | cons q hk =>
        obtain ⟨q1, q2⟩ := q
        cases q1 <;> simp [kD] at g2
    · simp at g2
  | dcf h1 h2 =>
    rcases h1 with ⟨ob, hk, g1, g2, g3⟩ | ⟨ob, hk, g1, g2, g3⟩ <;> simp at g2
  | dcn h1 h2 =>
    obtain ⟨xs, g1, g2, g3⟩ := h1
    simp only [List.map_cons, List.cons.injEq] at g2
    subst g3
    simp only [List.map_cons] at h2
    cases h2 with
    | cons r1 r2 =>
      cases r1
      rename_i fs
      refine ⟨_, xs, fs, rfl, rfl, g1, by simpa using g2.1, rfl, ?_, ?_⟩
      · rw [g2.2]; simp [prN]
      · simpa [prN, Function.comp_def] using r2
theorem nlook_ok {K : PySem.W.Frag} {H : Hp} {x y : V} {d k : D} {fx fy : List Addr} {o : Option D} (rx : Rp K H x d fx) (ry : Rp K H y k fy) (h : nlook d k = some o) : ∃ a ov, x = .ref a ∧ NGet H a y ov ∧ OkGet K H ov o fx := by
  unfold nlook at h
  split at h
  · rename_i t p kvs
    split at h
    · rename_i ks ek
      cases h
      obtain ⟨a, xs, fs, rfl, rfl, g1, rfl, rfl, g2, g3⟩ := nct_inv rx
      obtain ⟨b, rfl, g4, g5⟩ := good_val ry ek
      refine ⟨a, valN xs ks, rfl, ⟨xs, ks, b, g1, rfl, g4, g5, rfl⟩, ?_⟩
      have := find_rel (c := NestedKey.data) nkD_data ks g2 g3
      rw [valV_prN] at this
      refine OkGet.sub (fs := fs) ?_ (List.sublist_cons_self ..)
      unfold OkGet
      split at this
      · exact this
      · exact this
    · cases h
  · cases h
def ngetD (d k : D) : Option D := match nlook d k with
  | some (some z) => some z
  | _ => none
def ninD (k d : D) : Option D := (nlook d k).map fun o => .bool o.isSome
def nninD (k d : D) : Option D := (nlook d k).map fun o => .bool (!o.isSome)
section
variable {X : Cx} {pos apos : Pos} {k : Nat} {o i : Expr} {fa fb : Bool} {h1 h2 : Rh → Option D} {g : Rh → Option (D × Rh)} {e value : Expr}
theorem units20 (hr : Room k X.A) : X.A.units + 20 < cLine := by have := hr.un; omega
theorem ep_nget (hr : Room k X.A) (ha : EP fa X o h1) (hb : EP fb X i h2) (hs : NoSl i) : EP false X (.Subscript o i pos) (o2 ngetD h1 h2) := by
  obtain ⟨ta, pa, qa⟩ := ha
  obtain ⟨tb, pb, qb⟩ := hb
  refine ⟨_, pe_nget (units20 hr) pa pb hs, fun ρ σ H d Q R h q => ?_⟩
  obtain ⟨x, y, e1, e2, e3⟩ := o2_some h
  refine qa ρ σ H x _ R e1 fun v H1 fp s r1 _ => qb ρ σ H1 y _ (R.same s) e2 fun u H2 fq s2 r2 _ => ?_
  unfold ngetD at e3
  split at e3
  · rename_i z e4
    cases e3
    obtain ⟨a, ov, rfl, g1, w, f, rfl, r3, _⟩ := nlook_ok (r1.same s2) r2 e4
    exact ⟨a, w, rfl, g1, q w H2 f (same_trans s s2) r3 fun z => nomatch z⟩
  · cases e3
theorem ep_nin (hr : Room k X.A) (ha : EP fa X i h1) (hb : EP fb X o h2) (hm : behindInMarks .In o = false := by first | exact nobehind _ (by decide) (by decide) | rfl) : EP true X (.Compare i [.In] [o] pos) (o2 ninD h1 h2) := by
  obtain ⟨ta, pa, qa⟩ := ha
  obtain ⟨tb, pb, qb⟩ := hb
  refine ⟨_, pe_cmp (pc_nin (units20 hr) pa pb) hm, fun ρ σ H d Q R h q => ?_⟩
  obtain ⟨x, y, e1, e2, e3⟩ := o2_some h
  refine qa ρ σ H x _ R e1 fun v H1 fp s r1 _ => qb ρ σ H1 y _ (R.same s) e2 fun u H2 fq s2 r2 _ => ?_
  unfold ninD at e3
  cases e4 : nlook y x with
  | none => rw [e4] at e3; cases e3
  | some z =>
    rw [e4] at e3; cases e3
    obtain ⟨a, ov, rfl, g1, r3⟩ := nlook_ok r2 (r1.same s2) e4
    exact ⟨a, ov, rfl, g1, by rw [r3.isSome]; exact q _ H2 [] (same_trans s s2) (.bl _) fun _ => no_mem⟩
theorem ep_nnotin (hr : Room k X.A) (ha : EP fa X i h1) (hb : EP fb X o h2) (hm : behindInMarks .NotIn o = false := by first | exact nobehind _ (by decide) (by decide) | rfl) : EP true X (.Compare i [.NotIn] [o] pos) (o2 nninD h1 h2) := by
  obtain ⟨ta, pa, qa⟩ := ha
  obtain ⟨tb, pb, qb⟩ := hb
  refine ⟨_, pe_cmp (pc_nnotin (units20 hr) pa pb) hm, fun ρ σ H d Q R h q => ?_⟩
  obtain ⟨x, y, e1, e2, e3⟩ := o2_some h
  refine qa ρ σ H x _ R e1 fun v H1 fp s r1 _ => qb ρ σ H1 y _ (R.same s) e2 fun u H2 fq s2 r2 _ => ?_
  unfold nninD at e3
  cases e4 : nlook y x with
  | none => rw [e4] at e3; cases e3
  | some z =>
    rw [e4] at e3; cases e3
    obtain ⟨a, ov, rfl, g1, r3⟩ := nlook_ok r2 (r1.same s2) e4
    exact ⟨a, ov, rfl, g1, by rw [r3.isSome]; exact q _ H2 [] (same_trans s s2) (.bl _) fun _ => no_mem⟩
theorem tp_nin (hr : Room k X.A) (ha : EP fa X i h1) (hb : EP fb X o h2) (hm : behindInMarks .In o = false := by first | exact nobehind _ (by decide) (by decide) | rfl) : TP X (.Compare i [.In] [o] pos) (qB (o2 ninD h1 h2)) := by
  obtain ⟨ta, pa, qa⟩ := ha
  obtain ⟨tb, pb, qb⟩ := hb
  refine ⟨_, pt_cmp (pc_nin (units20 hr) pa pb) hm, fun ρ σ H b Q R hh q => ?_⟩
  unfold qB at hh
  cases e0 : o2 ninD h1 h2 ρ with
  | none => simp [e0] at hh
  | some z =>
    simp only [e0, Option.bind_some] at hh
    obtain ⟨x, y, e1, e2, e3⟩ := o2_some e0
    refine qa ρ σ H x _ R e1 fun v H1 fp s r1 _ => qb ρ σ H1 y _ (R.same s) e2 fun u H2 fq s2 r2 _ => ?_
    unfold ninD at e3
    cases e4 : nlook y x with
    | none => rw [e4] at e3; cases e3
    | some z =>
      rw [e4] at e3; cases e3; cases hh
      obtain ⟨a, ov, rfl, g1, r3⟩ := nlook_ok r2 (r1.same s2) e4
      exact ⟨a, ov, rfl, g1, _, rfl, by rw [r3.isSome]; exact q H2 (same_trans s s2)⟩
theorem tp_nnotin (hr : Room k X.A) (ha : EP fa X i h1) (hb : EP fb X o h2) (hm : behindInMarks .NotIn o = false := by first | exact nobehind _ (by decide) (by decide) | rfl) : TP X (.Compare i [.NotIn] [o] pos) (qB (o2 nninD h1 h2)) := by
  obtain ⟨ta, pa, qa⟩ := ha
  obtain ⟨tb, pb, qb⟩ := hb
  refine ⟨_, pt_cmp (pc_nnotin (units20 hr) pa pb) hm, fun ρ σ H b Q R hh q => ?_⟩
  unfold qB at hh
  cases e0 : o2 nninD h1 h2 ρ with
  | none => simp [e0] at hh
  | some z =>
    simp only [e0, Option.bind_some] at hh
    obtain ⟨x, y, e1, e2, e3⟩ := o2_some e0
    refine qa ρ σ H x _ R e1 fun v H1 fp s r1 _ => qb ρ σ H1 y _ (R.same s) e2 fun u H2 fq s2 r2 _ => ?_
    unfold nninD at e3
    cases e4 : nlook y x with
    | none => rw [e4] at e3; cases e3
    | some z =>
      rw [e4] at e3; cases e3; cases hh
      obtain ⟨a, ov, rfl, g1, r3⟩ := nlook_ok r2 (r1.same s2) e4
      exact ⟨a, ov, rfl, g1, _, rfl, by rw [r3.isSome]; exact q H2 (same_trans s s2)⟩
theorem ep_dnewN : EP true X (.Dict [] [] pos) (cst (.dict [(.tuple [], .none)])) := ⟨_, pe_nnew, fun ρ σ H d Q R h q => by
  cases h
  intro p np
  exact q _ _ [p] (same_upd np) (.dcn (vs := [.non]) ⟨[], ⟨upd_same, (fun _ m => nomatch m), List.nodup_nil⟩, rfl, rfl⟩ (.cons .non .nil)) fun _ => one_new np⟩
/-- d[k] = e, the value pure -/
def nputD (kvs : List (D × D)) (k d : D) : Option (List (D × D)) := match kvs with
  | (.tuple t, n) :: kvs => match goodD k with
    | some ks => if pureD d = true ∧ kvs.length < 1000000 then some ((.tuple t, n) :: putG nkD kvs ks ks.data d) else none
    | none => none
  | _ => none
def sNputR (i : Nat) (hk : Rh → Option D) (g : Rh → Option (D × Rh)) : Rh → Out := fun ρ => match g ρ with
  | some (d, ρ1) => match hk ρ1, wr i ρ1 with
    | some k, some (.dict kvs, ow) => match nputD kvs k d with
      | some kvs' => .nx (ρ1.set i (some ⟨.dict kvs', ow⟩))
      | none => .no
    | _, _ => .no
  | none => .no
theorem nput_ok {K : PySem.W.Frag} {H : Hp} {x y v : V} {kvs kvs' : List (D × D)} {k d : D} {fx fy fv : List Addr} (rx : Rp K H x (.dict kvs) fx) (ndx : fx.Nodup) (ry : Rp K H y k fy) (rv : Rp K H v d fv) (h : nputD kvs k d = some kvs') :
    ∃ a fs H' fs', x = .ref a ∧ fx = a :: fs ∧ NPut H a y v H' ∧ Keep (fun b => b ≠ a) H H' ∧ fs'.Sublist fs ∧ Rp K H' (.ref a) (.dict kvs') (a :: fs') := by
  unfold nputD at h
  split at h
  · rename_i t n kvs0
    split at h
    · rename_i ks ek
      split at h
      · rename_i hc
        cases h
        have : fv = [] := Rp.pure _ _ _ rv hc.1
        subst this
        obtain ⟨a, xs, fs, rfl, rfl, g1, rfl, rfl, g2, g3⟩ := nct_inv rx
        obtain ⟨b, rfl, g4, g5⟩ := good_val ry ek
        obtain ⟨fs', s, e1, e2⟩ := put_rel (c := NestedKey.data) nkD_data ks rv g2 g3
        have hlen : xs.length = kvs0.length := by have := congrArg List.length g2; simpa [prN] using this.symm
        have hm : Mut (H a) := by rw [g1.at_]; exact True.intro
        have kp : Keep (fun c => c ≠ a) H (upd H a (DN a (putN xs ks b v))) := keep_ne hm
        have na := (List.nodup_cons.mp ndx).1
        refine ⟨a, fs, _, fs', rfl, rfl, ⟨xs, ks, b, g1, rfl, g4, g5, by rw [hlen]; have := mil_line (n := kvs0.length + 1) (by omega); omega, rfl⟩, kp, s, ?_⟩
        refine .dcn (vs := .non :: (prN (putN xs ks b v)).map (·.2)) ⟨putN xs ks b v, g1.put v g4 g5, ?_, ?_⟩ ?_
        · simp only [List.map_cons, e1, ← prN_putN xs ks b v]; simp [prN]
        · simp [prN]
        · rw [prN_putN]
          simp only [List.map_cons]
          exact .cons (f := []) .non (RpL.keep kp _ _ _ e2 fun c m z => na (by rw [← z]; exact s.subset m))
      · cases h
    · cases h
  · cases h
theorem ss_nput {x : Nat} {spos pos' : Pos} (hr : Room k X.A) (po : PE X o (tVar x)) (hi : EP fb X i h2) (hv : EV X value g) (hs : swapsWith value (some (.Subscript o i pos')) spos.line X.env = pure false := by rfl) : SS X (.Assign [.Subscript o i pos'] value spos) (sNputR x h2 g) := by
  obtain ⟨tv, pv, qv⟩ := hv
  obtain ⟨ti, pi, qi⟩ := hi
  refine ⟨_, ps_nput (units20 hr) po pi pv hs, fun F L ρ σ H fo D0 R gd => ?_⟩
  unfold sNputR at gd
  split at gd
  · rename_i d ρ1 e1
    split at gd
    · rename_i kd kvs ow e2 e3
      split at gd
      · rename_i kvs' e4
        refine qv F L ρ σ H fo d ρ1 _ R e1 fun v H1 f1 fp R1 fr1 k1 => ?_
        obtain ⟨ec, hw⟩ := wr_some e3
        obtain ⟨u, eu, ru⟩ := R1.rp x _ ec
        refine ⟨u, eu, qi ρ1 σ H1 kd _ R1.rd e2 fun y H2 fy s2 ry _ => ?_⟩
        have R2 := R1.same s2
        obtain ⟨ndx, nfx⟩ := R2.nd x _ ec hw
        obtain ⟨a, fs, H4, fs', rfl, hf, g1, kp, sl, r4⟩ := nput_ok (ru.same s2) ndx ry (fr1.rp.same s2) e4
        rw [hf] at ndx
        obtain ⟨R4, k4⟩ := R2.mutate ec hw eu r4 (List.nodup_cons.mpr ⟨fun m => (List.nodup_cons.mp ndx).1 (sl.subset m), sl.nodup (List.nodup_cons.mp ndx).2⟩)
          (fun b m => .inl (by rw [hf]; rcases List.mem_cons.mp m with m | m; exact (by rw [m]; exact List.mem_cons_self); exact List.mem_cons_of_mem _ (sl.subset m)))
          (kp.mono fun b hb z => hb (by rw [hf, z]; exact List.mem_cons_self))
        exact ⟨a, H4, rfl, g1, gd σ H4 _ R4 (k1.trans ((Keep.of_same s2).trans k4))⟩
      · exact gd.elim
    · exact gd.elim
  · exact gd.elim
/-! ### what is never run -/
theorem ss_dead {st : Stmt} : SS X st (fun _ => .no) := ⟨fun _ _ _ => False, ⟨fun _ _ _ _ _ _ h => h.elim⟩, fun _ _ _ _ _ _ _ _ g => g.elim⟩
theorem bs_dead {st : List Stmt} : BS X st (fun _ => .no) := ⟨fun _ _ _ => False, ⟨fun _ _ _ _ _ _ h => h.elim⟩, fun _ _ _ _ _ _ _ _ g => g.elim⟩
end
end PV

set_option Elab.async false
set_option linter.all false
set_option maxRecDepth 100000
set_option maxHeartbeats 1000000
/-! sorted(set(t)); a call that changes an argument that nobody keeps -/
namespace PV
open PySem PySem.Spec PyProof.Rows L2
variable [TN]
def insU (x : Int) : List Int → List Int
  | [] => [x]
  | y :: ys => if x < y then x :: y :: ys else if x = y then y :: ys else y :: insU x ys
def sdd : List Int → List Int
  | [] => []
  | x :: xs => insU x (sdd xs)
theorem insU_mem (x k : Int) : ∀ ys : List Int, k ∈ insU x ys ↔ k = x ∨ k ∈ ys
  | [] => by simp [insU]
  | y :: ys => by
    unfold insU
    split
    · simp
    · split
      · rename_i h; subst h; simp
      · simp only [List.mem_cons, insU_mem x k ys]
        constructor
        · rintro (h | h | h)
          · exact .inr (.inl h)
          · exact .inl h
          · exact .inr (.inr h)
        · rintro (h | h | h)
          · exact .inr (.inl h)
          · exact .inl h
          · exact .inr (.inr h)
theorem insU_pw (x : Int) : ∀ ys : List Int, ys.Pairwise (· < ·) → (insU x ys).Pairwise (· < ·)
  | [], _ => by simp [insU]
  | y :: ys, h => by
    have hc := List.pairwise_cons.mp h
    unfold insU
    split
    · rename_i h1
      refine List.pairwise_cons.mpr ⟨fun a ha => ?_, h⟩
      rcases List.mem_cons.mp ha with e | m
      · rw [e]; exact h1
      · exact Int.lt_trans h1 (hc.1 a m)
    · split
      · exact h
      · refine List.pairwise_cons.mpr ⟨fun a ha => ?_, insU_pw x ys hc.2⟩
        rcases (insU_mem x a ys).mp ha with e | m
        · rw [e]; omega
        · exact hc.1 a m
theorem sdd_mem (k : Int) : ∀ xs : List Int, k ∈ sdd xs ↔ k ∈ xs
  | [] => by simp [sdd]
  | x :: xs => by rw [sdd, insU_mem, sdd_mem k xs]; simp
theorem sdd_pw : ∀ xs : List Int, (sdd xs).Pairwise (· < ·)
  | [] => .nil
  | x :: xs => insU_pw x _ (sdd_pw xs)
theorem pw_unique : ∀ {xs ys : List Int}, xs.Pairwise (· < ·) → ys.Pairwise (· < ·) → (∀ k, k ∈ xs ↔ k ∈ ys) → xs = ys
  | [], [], _, _, _ => rfl
  | [], y :: ys, _, _, h => by have := (h y).mpr List.mem_cons_self; cases this
  | x :: xs, [], _, _, h => by have := (h x).mp List.mem_cons_self; cases this
  | x :: xs, y :: ys, hx, hy, h => by
    have cx := List.pairwise_cons.mp hx
    have cy := List.pairwise_cons.mp hy
    have e : x = y := by
      rcases List.mem_cons.mp ((h x).mp List.mem_cons_self) with e | m
      · exact e
      · rcases List.mem_cons.mp ((h y).mpr List.mem_cons_self) with e | m'
        · exact e.symm
        · have := cy.1 x m; have := cx.1 y m'; omega
    subst e
    congr 1
    refine pw_unique cx.2 cy.2 fun k => ⟨fun m => ?_, fun m => ?_⟩
    · rcases List.mem_cons.mp ((h k).mp (List.mem_cons_of_mem _ m)) with e | m'
      · have := cx.1 k m; omega
      · exact m'
    · rcases List.mem_cons.mp ((h k).mpr (List.mem_cons_of_mem _ m)) with e | m'
      · have := cy.1 k m; omega
      · exact m'
def rSetI (w : World) (K : PySem.W.Frag) : List V → Hp → VK → Prop := fun vs H Q => ∃ (p : Addr) (ns : List Int), vs = [.ref p] ∧ SqT K H p (ns.map V.int) ∧ ns.length ≤ 60 ∧ ∀ (a : Addr) (c : Nat), c ≤ ns.length → H a = none → Q (.ref a) (upd H a (SetO w a (fun j => decide (j ∈ ns)) c))
theorem cr_setI {X : Cx} (hc : X.calm = true) : CallR X (.type "set") (rSetI X.w X.K) := by
  intro pins s σ H xs us Q I r h
  obtain ⟨p, ns, rfl, hq, hl, q⟩ := h
  rw [Vals.ref1 r]
  obtain ⟨its, rv, pt, hz⟩ := I.tuple hq
  have hi : IntsAre its.toArray.toList ns := ints_of_vals rv
  have hd := I.ok.hd hc
  refine call_set_tupI ns hd (show s.heap.IsTuple p its.toArray from pt) hi (by unfold scanBound; omega) fun h' tk c R1 hcn k => ?_
  exact ⟨.ref _, _, I.laid (t' := tk) k (Nat.le_refl _) (setO_new R1), rfl, q _ c hcn (I.hok.fresh (Nat.le_refl _))⟩
def sortSetD : D → Option D
  | .tuple ds => match intsOf ds with
    | some ns => if ns.length ≤ 60 then some (.list ((sdd ns).map .int)) else none
    | none => none
  | _ => none
section
variable {X : Cx} {fa : Bool} {a : Expr} {h : Rh → Option D} {p p2 q pos : Pos}
theorem ep_sortSet (hc : X.calm = true) (hg : Gl X "sorted") (hm : X.mg "sorted" = none) (hg2 : Gl X "set") (hm2 : X.mg "set" = none) (ha : EP fa X a h) (na : starEach [a] X.env = (false, eval a X.env) :: starEach [] X.env := by rfl)
    (na2 : starEach [.Call (.Name "set" p2) [a] [] q] X.env = (false, eval (.Call (.Name "set" p2) [a] [] q) X.env) :: starEach [] X.env := by rfl) : EP true X (.Call (.Name "sorted" p) [.Call (.Name "set" p2) [a] [] q] [] pos) (u1 sortSetD h) := by
  obtain ⟨t, pe, hq⟩ := ha
  refine ⟨_, pe_callB (cr_sortedSet hc) hg hm (by decide +kernel) (pa_cons (pe_callTy (cr_setI hc) hg2 hm2 (by decide +kernel) (pa_cons pe pa_nil na) (he := na)) pa_nil na2) (he := na2), fun ρ σ H d Q R hd q => ?_⟩
  unfold u1 at hd
  cases e1 : h ρ with
  | none => rw [e1] at hd; cases hd
  | some x =>
    rw [e1] at hd
    replace hd : sortSetD x = some d := hd
    refine hq ρ σ H x _ R e1 fun v H1 fp s1 r1 _ => ?_
    unfold sortSetD at hd
    split at hd
    · rename_i ds
      split at hd
      · rename_i ns en
        split at hd
        · rename_i hl
          cases hd
          have ei := intsOf_map en
          subst ei
          cases r1 with
          | tup h1 h2 h3 =>
            have hv := h3.ints
            subst hv
            refine ⟨_, ns, rfl, sqt h1, hl, fun a0 c hcn na0 => ?_⟩
            refine ⟨a0, _, c, rfl, upd_same, by omega, fun ms p0 hp hm hl2 np => ?_⟩
            have e2 : ms = sdd ns := pw_unique hp (sdd_pw ns) fun k => by rw [hm k, sdd_mem, decide_eq_true_eq]
            subst e2
            have np1 : H1 p0 = none := Same.new (same_upd na0) np
            have na1 : H a0 = none := Same.new s1 na0
            refine q _ _ [p0] (same_trans s1 (same_trans (same_upd na0) (same_upd np))) (.lst upd_same (by rw [List.length_map, hl2]; exact mil_line (by omega)) ?_) fun _ => ⟨by simp, fun a1 m => by rw [List.mem_singleton] at m; rw [m]; exact Same.new s1 np1⟩
            exact RpL.ofInts _
        · cases hd
      · cases hd
    · cases hd
end
theorem RpL.parts {K : PySem.W.Frag} {H : Hp} : ∀ {ds : List D} {vs : List V} {fs : List Addr}, RpL K H vs ds fs → ∃ g : Nat → List Addr, (∀ j d, ds[j]? = some d → ∃ v, vs[j]? = some v ∧ Rp K H v d (g j)) ∧ (∀ j, ∀ a ∈ g j, a ∈ fs) ∧ (fs.Nodup → ∀ j, (g j).Nodup ∧ ∀ j', j' ≠ j → ∀ a ∈ g j, a ∉ g j')
  | [], _, _, h => by
    cases h
    exact ⟨fun _ => [], fun j d e => by simp at e, (fun j a m => nomatch m), fun _ j => ⟨List.nodup_nil, (fun _ _ _ m => nomatch m)⟩⟩
  | d :: ds, _, _, h => by
    cases h with
    | @cons v vs _ _ f fs h1 h2 =>
      obtain ⟨g, g1, g2, g3⟩ := RpL.parts h2
      refine ⟨fun j => match j with | 0 => f | j + 1 => g j, fun j d' e => ?_, fun j a m => ?_, fun nd j => ?_⟩
      · cases j with
        | zero => simp at e; subst e; exact ⟨v, rfl, h1⟩
        | succ j => simp only [List.getElem?_cons_succ] at e ⊢; exact g1 j d' e
      · cases j with
        | zero => exact List.mem_append_left _ m
        | succ j => exact List.mem_append_right _ (g2 j a m)
      · obtain ⟨n1, n2, n3⟩ := List.nodup_append.mp nd
        cases j with
        | zero =>
          refine ⟨n1, fun j' hj a m => ?_⟩
          cases j' with
          | zero => exact (hj rfl).elim
          | succ j' => exact fun m' => n3 a m a (g2 j' a m') rfl
        | succ j =>
          refine ⟨(g3 n2 j).1, fun j' hj a m => ?_⟩
          cases j' with
          | zero => exact fun m' => n3 a m' a (g2 j a m) rfl
          | succ j' => exact (g3 n2 j).2 j' (fun z => hj (by rw [z])) a m
theorem Rho.kept {K : PySem.W.Frag} {F : Fm} {L : Nat → Option V} {ρ : Rh} {σ : L2.St} {H H' : Hp} {f : Nat → List Addr} {S : Addr → Prop} (R : Rho K F L ρ σ H f) (k : Keep S H H') (h1 : ∀ a, F.all a → S a) (h2 : ∀ i c, ρ[i]? = some (some c) → ∀ a ∈ f i, S a) : Rho K F L ρ σ H' f := by
  exact ⟨k.tab R.tb, R.len, fun a h e => R.fok a h (k.dom a (h1 a h) e), fun i c e => let ⟨v, e1, r⟩ := R.rp i c e; ⟨v, e1, Rp.keep k _ _ _ r (h2 i c e)⟩, R.nd, R.pv, R.dj, R.pin⟩
def callT (F : List D → Option (D × D)) (g : Rh → Option (List D × Rh)) : Rh → Option (D × Rh) := fun ρ => match g ρ with
  | some (ds, ρ1) => match F ds with
    | some (r, _) => some (r, ρ1)
    | none => none
  | none => none
section
variable {X : Cx} {k n m : Nat} {x : Str} {e : Expr} {es : List Expr} {p pos : Pos} {F : List D → Option (D × D)}
theorem ev_callT {g : Rh → Option (List D × Rh)} (G : KnM X.prog X.w X.K X.mg X.base k x n m F) (hlen : ∀ ds z, F ds = some z → ds.length = n) (hmn : m < n) (hr : Room k X.A) (hg : Gl X x) (ha : AV X (e :: es) g)
    (hdb : (x == ("__debug__" : Str)) = false := by decide) (he : starEach (e :: es) X.env = (false, eval e X.env) :: starEach es X.env := by rfl) (hpl : (backTo pos (starEach es X.env)).any (·.1) = false := by rfl) : EV X (.Call (.Name x p) (e :: es) [] pos) (callT F g) := by
  obtain ⟨f, fd, ps, hm, hk, hb, hps, G1⟩ := G.ex
  obtain ⟨t, pe, hq⟩ := ha
  refine ⟨_, pe_call G1 hr hg hm hk hb .nil pass0 pe hdb he hpl, fun Fm L ρ σ H fo r ρ' Q R hd q => ?_⟩
  unfold callT at hd
  split at hd
  · rename_i ds ρ1 e1
    split at hd
    · rename_i r' d' e2
      cases hd
      refine hq Fm L ρ σ H fo ds _ _ R e1 fun vs H1 f1 fs R1 fr k1 => ?_
      show spM X.K n m F (vs ++ []) H1 Q _
      rw [List.append_nil]
      obtain ⟨g1, p1, p2, p3⟩ := fr.rp.parts
      have hl := hlen ds _ e2
      have hvl := fr.rp.length
      obtain ⟨dm, edm⟩ : ∃ d, ds[m]? = some d := ⟨_, List.getElem?_eq_getElem (by omega)⟩
      obtain ⟨vm, evm, rm⟩ := p1 m dm edm
      refine ⟨by omega, ds, g1, r, d', vm, hl, evm, p1, (p3 fr.nd m).1, fun j d hj ej a ma => (p3 fr.nd m).2 j hj a ma, e2, R1.tb, fun v H2 fm fp K2 rm2 ndm sm rr ndr sr => ?_⟩
      have hall : ∀ a, Fm.all a → H1 a ≠ none ∧ a ∉ g1 m := fun a h => ⟨R1.fok a h, fun z => fr.nf a (p2 m a z) h⟩
      have hown : ∀ i c, ρ'[i]? = some (some c) → ∀ a ∈ f1 i, H1 a ≠ none ∧ a ∉ g1 m := fun i c ei a ma => ⟨R1.domf ei ma, fun z => fr.dj i c ei a (p2 m a z) ma⟩
      refine q v H2 f1 fp (R1.kept K2 hall hown) ⟨rr, ndr, fun a ma hF => ?_, fun i c ei a ma m' => ?_⟩ (k1.trans (K2.mono hall))
      · rcases (sr a ma).1 with z | z
        · exact fr.nf a (p2 m a z) hF
        · exact R1.fok a hF z
      · rcases (sr a ma).1 with z | z
        · exact fr.dj i c ei a (p2 m a z) m'
        · exact R1.domf ei m' z
    · cases hd
  · cases hd
theorem runN_len {np nn mm : Nat} {B : Rh → Out} {ds : List D} {z : D × D} (h : runN np nn mm B ds = some z) : ds.length = np := by
  unfold runN at h
  split at h
  · assumption
  · cases h
end
end PV

set_option Elab.async false
set_option linter.all false
set_option maxRecDepth 100000
set_option maxHeartbeats 1000000
/-! the script's tape -/
namespace PV
open PySem PySem.Spec PyProof.Rows L2
variable [TN]
def tapeD (ns : List Int) : D := .list [.list (intL ns), .int 0, .int 0, .int (1 + ns.length)]
theorem tape_run {K : PySem.W.Frag} {σ : L2.St} {H : Hp} {Q : VK} {a : Addr} {ns : List Int} (e : σ[0]? = some (some (.ref a))) (hs : SqL K H a (ns.map V.int)) (hl : ns.length ≤ 63)
    (q : ∀ v H' fp, Same H H' → Rp K H' v (tapeD ns) fp → fp.Nodup → (∀ b ∈ fp, H b = none) → Q v H') :
    tLst (tCons (tCB (fun xs H Q => ∃ p ys, xs = [.ref p] ∧ (SqL K H p ys ∨ SqT K H p ys) ∧ ∀ l, H l = none → Q (.ref l) (upd H l (.lst ys))) (tCons (tSl (rSlL K) (tVar 0) tNoPart (tPart (tC (.int 80)))) tNil))
      (tCons (tC (.int 0)) (tCons (tC (.int 0)) (tCons (tOp (rI0 fun i j => .int (i + j)) (tC (.int 1)) (tCB (fun xs H Q => ∃ p ys, xs = [.ref p] ∧ (SqL K H p ys ∨ SqT K H p ys) ∧ Q (.int ys.length) H) (tCons (tVar 0) tNil))) tNil)))) σ H Q := by
  refine ⟨.ref a, e, 80, rfl, a, _, rfl, hs, fun p np => ?_⟩
  rw [show cutV (ns.map V.int) none (some 80) = ns.map V.int from cut_all ns 80 (by omega)]
  refine ⟨p, ns.map V.int, rfl, .inl (.inl (.inl upd_same)), fun l nl => ?_⟩
  have s1 : Same H (upd H p (.lst (ns.map V.int))) := PV.same_upd np
  have s2 : Same (upd H p (.lst (ns.map V.int))) (upd (upd H p (.lst (ns.map V.int))) l (.lst (ns.map V.int))) := PV.same_upd nl
  have nl' : H l = none := Same.new s1 nl
  refine ⟨.ref a, e, ⟨a, _, rfl, .inl (seq_keep hs (same_trans s1 s2)), 1, ((ns.map V.int).length : Int), rfl, rfl, ?_⟩⟩
  refine ⟨by show 4 ≤ sizeLine; decide, fun x nx => ?_⟩
  have s3 := PV.same_upd (o := .lst [V.ref l, V.int 0, V.int 0, V.int (1 + ((ns.map V.int).length : Int))]) nx
  have hlx : l ≠ x := fun z => by rw [← z, upd_same] at nx; cases nx
  refine q _ _ [x, l] (same_trans s1 (same_trans s2 s3)) ?_ ?_ fun b m => ?_
  · have rl : Rp K (upd (upd (upd H p (.lst (ns.map V.int))) l (.lst (ns.map V.int))) x (.lst [V.ref l, V.int 0, V.int 0, V.int (1 + ((ns.map V.int).length : Int))])) (.ref l) (.list (intL ns)) [l] :=
      .lst (by rw [upd_ne hlx]; exact upd_same) (by rw [List.length_map]; exact mil_line (by omega)) (RpL.ofInts ns)
    refine .lst upd_same (by show 4 ≤ sizeLine; decide) (.cons (f := [l]) (fs := []) rl (.cons (f := []) (fs := []) (.int 0) (.cons (f := []) (fs := []) (.int 0) (.cons (f := []) (fs := []) ?_ .nil))))
    rw [List.length_map]; exact .int _
  · simp [Ne.symm hlx]
  · simp only [List.mem_cons, List.not_mem_nil, or_false] at m
    rcases m with m | m
    · rw [m]; exact Same.new (same_trans s1 s2) nx
    · rw [m]; exact nl'
end PV

set_option Elab.async false
set_option linter.all false
set_option maxRecDepth 100000
set_option maxHeartbeats 1000000
/-! dicts of the module whose values are defs; split; displays of dicts; sorted(d), len(d) -/
namespace PV
open PySem PySem.Spec PyProof.Rows L2
variable [TN]
/-- the world with one answer written out -/
def fixW (b : Bool) (w : World) : World := { w with params := { w.params with followText := fun r => match decide (r = "special-get-raises") with
  | true => b
  | false => w.params.followText r } }
theorem fixW_eq (w : World) : fixW (w.params.followText "special-get-raises") w = w := by
  unfold fixW
  have : (fun r => match decide (r = "special-get-raises") with
    | true => w.params.followText "special-get-raises"
    | false => w.params.followText r) = w.params.followText := by
    funext r
    by_cases h : r = "special-get-raises"
    · simp [h]
    · simp [h]
  rw [this]
section
variable {P : Program} {w : World} {K : PySem.W.Frag} {mg : Str → Option Value} {base : Heap}
/-- a def under another name -/
theorem KnP.ofA {x y qual : Str} {st : Stmt} {f : Addr} {fd : FuncData} {N ps : List Str} {k : Nat} {B : Rh → Out} (F : FnD K x qual st f fd) (S : FnScope N ps (defScope st)) (hm : mg y = some (.ref f)) (hb : Binds K fd ps [])
    (h : ∀ (cdv : Value) (A : Around) (outer : List Env) (s : Shared) (H : Hp) (E : XK), Room k (A.deeper (envOfC qual (defScope st) s.heap.objs.size f cdv)) → BS (cxOf CX0 P w K mg base N qual (defScope st) f cdv A outer s H E).nox (defBody st) B) :
    KnP P w K mg base (k + 1) y ps.length (runF ps.length N.length B) :=
  ⟨⟨f, fd, ps, hm, F.kp, hb, rfl, fnP_imp (fnP F S h) fun ds d e => by unfold runF at e; split at e <;> first | exact e | cases e⟩, fun ds d e => by unfold runF at e; split at e <;> first | assumption | cases e⟩
/-- a dict of the module: texts to defs -/
structure KnT (P : Program) (w : World) (K : PySem.W.Frag) (mg : Str → Option Value) (base : Heap) (k : Nat) (x : Str) (n : Nat) (keys : List Str) (F : Str → List D → Option D) : Prop where
  ex : ∃ d es m, mg x = some (.ref d) ∧ KDict K w d es m ∧ (∀ z, z ∉ keys → PySem.W.nsIn K d z = some none) ∧
    ∀ z ∈ keys, ∃ f fd ps, PySem.W.nsIn K d z = some (some (.ref f)) ∧ PySem.W.keepIn K (.ref f) = true ∧ Binds K fd ps [] ∧ ps.length = n ∧ FnOk P w K mg base CX0 k f fd ps (spP K n (F z))
  ar : ∀ z ds d, F z ds = some d → z ∈ keys ∧ ds.length = n
theorem tabX {fa : List He.Fa} {fn : List He.DefD} {ts : List He.Tab} {w : World} {K : PySem.W.Frag} (c : He.SaysT fa fn ts w K) (i : Nat) {t : He.Tab} (h : ts[i]? = some t) : He.dicW K (t.1 K) = some (He.keysIn w.params t.2) := by
  have e : ts.map (fun t => He.dicW K (t.1 K)) = ts.map fun t => some (He.keysIn w.params t.2) := congrArg (fun z : He.AlT => z.2) c
  have e2 : (ts.map fun t => He.dicW K (t.1 K))[i]? = (ts.map fun t => some (He.keysIn w.params t.2))[i]? := by rw [e]
  rw [List.getElem?_map, List.getElem?_map, h] at e2
  exact Option.some.inj e2
theorem tab_none {d : Addr} {ks : List Str} {PP : Params} (h : He.dicW K d = some (He.keysIn PP ks)) {z : Str} (hz : z ∉ ks) : PySem.W.nsIn K d z = some none := by
  unfold He.dicW at h
  split at h
  · rename_i c es n sl e1
    split at h
    · have h2 := Option.some.inj h
      have key : ∀ e ∈ es.toList, ∃ x t, e.key = .str x t ∧ x ∈ ks := fun e he => by
        have m : He.keyOf e ∈ He.keysIn PP ks := by rw [← h2]; exact List.mem_map_of_mem he
        obtain ⟨x, hx, ex⟩ := List.mem_map.mp m
        unfold He.keyOf at ex
        split at ex
        · rename_i y t ey
          have e5 := Option.some.inj ex
          have e6 : x = y := (Prod.mk.inj e5).1
          exact ⟨y, t, ey, e6 ▸ hx⟩
        · cases ex
      unfold PySem.W.nsIn
      rw [e1]
      have n1 : es.toList.find? (fun e => e.key.isStr z) = none := by
        rw [List.find?_eq_none]
        intro e he hs
        obtain ⟨x, t, ex, hx⟩ := key e he
        rw [ex] at hs
        have : x = z := by simpa [Value.isStr] using hs
        exact hz (this ▸ hx)
      have n2 : es.toList.any (fun e => e.refKey) = false := by
        rw [List.any_eq_false]
        intro e he
        obtain ⟨x, t, ex, hx⟩ := key e he
        simp [DictEntry.refKey, ex]
      simp only [n1, n2]
      rfl
    · cases h
  · cases h
end
def strIn (keys : List Str) (d : D) : Option D := match d with
  | .str z => some (.bool (decide (z ∈ keys)))
  | _ => none
section
variable {X : Cx} {k n : Nat} {x : Str} {keys : List Str} {F : Str → List D → Option D} {fa fr : Bool} {a e : Expr} {es : List Expr} {h : Rh → Option D} {p p2 pos : Pos}
theorem KnT.inR (G : KnT X.prog X.w X.K X.mg X.base k x n keys F) : ∃ d, X.mg x = some (.ref d) ∧ OpR X (compareOp .In) (fun u y H Q => ∃ z : Str, u = .str z ∧ y = .ref d ∧ Q (.bl (decide (z ∈ keys))) H) := by
  obtain ⟨d, es, m, hm, kd, h1, h2⟩ := G.ex
  refine ⟨d, hm, fun pins s σ H u y v w Q I ru ry ⟨z, hu, hy, q⟩ => op_in_kd kd pins s σ H u y v w Q I ru ry ?_⟩
  by_cases hz : z ∈ keys
  · obtain ⟨f, fd, ps, e1, _⟩ := h2 z hz
    exact ⟨z, _, hu, hy, e1, by simpa [hz] using q⟩
  · exact ⟨z, _, hu, hy, h1 z hz, by simpa [hz] using q⟩
theorem ep_tin (G : KnT X.prog X.w X.K X.mg X.base k x n keys F) (hg : Gl X x) (ha : EP fa X a h) (hdb : (x == ("__debug__" : Str)) = false := by decide) (hm : behindInMarks .In (.Name x p) = false := by rfl) : EP true X (.Compare a [.In] [.Name x p] pos) (u1 (strIn keys) h) := by
  obtain ⟨d, hmg, op⟩ := G.inR
  obtain ⟨t, pe, hq⟩ := ha
  refine ⟨_, pe_cmpR op pe (pe_glob hg hmg (v := .ref d) rfl hdb) hm, fun ρ σ H z Q R hd q => ?_⟩
  unfold u1 at hd
  cases e1 : h ρ with
  | none => rw [e1] at hd; cases hd
  | some y =>
    rw [e1] at hd
    replace hd : strIn keys y = some z := hd
    refine hq ρ σ H y _ R e1 fun v H1 fp s1 r1 _ => ?_
    cases y <;> try cases hd
    cases r1
    exact ⟨_, rfl, rfl, q _ H1 [] s1 (.bl _) fun _ => no_mem⟩
theorem tp_tin (G : KnT X.prog X.w X.K X.mg X.base k x n keys F) (hg : Gl X x) (ha : EP fa X a h) (hdb : (x == ("__debug__" : Str)) = false := by decide) (hm : behindInMarks .In (.Name x p) = false := by rfl) : TP X (.Compare a [.In] [.Name x p] pos) (qB (u1 (strIn keys) h)) := by
  obtain ⟨d, hmg, op⟩ := G.inR
  obtain ⟨t, pe, hq⟩ := ha
  refine ⟨_, pt_cmpR op pe (pe_glob hg hmg (v := .ref d) rfl hdb) hm, fun ρ σ H b Q R hb q => ?_⟩
  unfold qB u1 at hb
  cases e1 : h ρ with
  | none => simp [e1] at hb
  | some y =>
    simp only [e1, Option.bind_some] at hb
    refine hq ρ σ H y _ R e1 fun v H1 fp s1 r1 _ => ?_
    cases y <;> try cases hb
    cases r1
    exact ⟨_, rfl, rfl, _, rfl, q H1 s1⟩
/-- d[w](e, ..) -/
def tblE (F : Str → List D → Option D) (hw : Rh → Option D) (hs : Rh → Option (List D)) : Rh → Option D := fun ρ => match hw ρ, hs ρ with
  | some (.str z), some ds => F z ds
  | _, _ => none
theorem ep_tcall (G : KnT X.prog X.w X.K X.mg X.base k x n keys F) (hr : Room k X.A) (hg : Gl X x) (ha : EP fa X a h) {hs : Rh → Option (List D)} (hb : AP fr X (e :: es) hs) (hsl : NoSl a)
    (hdb : (x == ("__debug__" : Str)) = false := by decide) (he : starEach (e :: es) X.env = (false, eval e X.env) :: starEach es X.env := by rfl) (hpl : (backTo pos (starEach es X.env)).any (·.1) = false := by rfl)
    (hc : eval (.Call (.Subscript (.Name x p) a p2) (e :: es) [] pos) X.env = (do callWith pos (← eval (.Subscript (.Name x p) a p2) X.env) [] (backTo pos (starEach (e :: es) X.env)) (backToKw pos (keywordEach [] X.env))) := by rfl) : EP true X (.Call (.Subscript (.Name x p) a p2) (e :: es) [] pos) (tblE F h hs) := by
  obtain ⟨d, es0, m, hm, kd, h1, h2⟩ := G.ex
  obtain ⟨t, pe, hq⟩ := ha
  obtain ⟨t2, pe2, hq2⟩ := hb
  refine ⟨fun σ H Q => t σ H fun v H1 => ∃ z, v = .str z ∧ z ∈ keys ∧ t2 σ H1 fun vs H2 => spP X.K n (F z) vs H2 Q (fun _ _ _ => False), ⟨fun pins s σ H Q I hh => ?_⟩, fun ρ σ H d0 Q R hd q => ?_⟩
  · refine Call_ (E := X.xe) ?_ hc
    refine subD_of PySem.F.slot_dict_getitem.lookup hsl (ld_glob I hg hm (thn (pe.run pins s σ H _ I hh) fun u s1 ⟨v, H1, I1, r1, z, ez, hz, q1⟩ => ?_) hdb)
    subst ez
    obtain ⟨tk, rfl⟩ := r1
    obtain ⟨f, fd, ps, e1, hk, hb, hps, Fn⟩ := h2 z hz
    refine ⟨kd_type kd I1, ?_⟩
    refine thn (op_item_kd kd pins s1 σ H1 (.ref d) (.str z) (.ref d) (.str z tk) (fun v H2 => v = .ref f ∧ H2 = H1) I1 rfl ⟨tk, rfl⟩ ⟨z, _, .ref f, rfl, rfl, e1, rfl, rfl, rfl⟩) fun u2 s2 ⟨v2, H2, I2, r2, ev, eH⟩ => ?_
    subst ev
    subst eH
    cases r2
    refine PySem.W.callWith_K (h₀ := X.base) I.ok.mod.kin hk (thn (pe2.run pos pins s2 σ H2 _ I2 q1) fun us s3 ⟨vs, H3, I3, r3, q3⟩ => ⟨I3.kIn, ?_⟩) he hpl
    refine run_fn Fn hr hb .nil pass0 I3 r3 ?_
    rw [List.append_nil]
    obtain ⟨a1, ds, fs, dd, a2, a3, a4⟩ := q3
    exact ⟨a1, ds, fs, dd, a2, a3, a4⟩
  · unfold tblE at hd
    split at hd
    · rename_i z ds e1 e2
      refine hq ρ σ H _ _ R e1 fun v H1 fp s1 r1 _ => ?_
      cases r1
      obtain ⟨hz, hl⟩ := G.ar z ds d0 hd
      refine ⟨z, rfl, hz, hq2 ρ σ H1 ds _ (R.same s1) e2 fun vs H2 fs s2 r2 _ => ?_⟩
      exact ⟨r2.length.trans hl, ds, fs, d0, r2, hd, s2.tab (s1.tab R.tb), fun v H' fp s3 rv nd nw => q v H' fp (same_trans s1 (same_trans s2 s3)) rv fun _ => ⟨nd, fun a m => Same.new s1 (Same.new s2 (nw a m))⟩⟩
    · cases hd
end
end PV

set_option Elab.async false
set_option linter.all false
set_option maxRecDepth 100000
set_option maxHeartbeats 1000000
/-! split; displays of dicts; sorted(d), len(d) -/
namespace PV
open PySem PySem.Spec PyProof.Rows L2
variable [TN]
/-! ### texts in order -/
def ltT (a b : Str) : Bool := ltCps a.cps.toList b.cps.toList
def insT (x : Str) : List Str → List Str
  | [] => [x]
  | y :: ys => if ltT y x = true then y :: insT x ys else x :: y :: ys
def sortT : List Str → List Str
  | [] => []
  | x :: xs => insT x (sortT xs)
theorem ltT_iff (a b : Str) : ltT a b = true ↔ a.cps.toList < b.cps.toList := by unfold ltT; rw [ltCps_eq, decide_eq_true_eq]
theorem strL_inj {a b : Str} (h : a.cps.toList = b.cps.toList) : a = b := by
  cases a; cases b
  simp only at h
  congr 1
  exact Array.toList_inj.mp h
def leT (a b : Str) : Prop := ltT b a = false
theorem leT_iff (a b : Str) : leT a b ↔ a.cps.toList ≤ b.cps.toList := by
  unfold leT
  rw [← Bool.not_eq_true, ltT_iff]
  exact List.not_lt
theorem leT_antisymm {a b : Str} (h : leT a b) (k : leT b a) : a = b := strL_inj (List.le_antisymm ((leT_iff _ _).mp h) ((leT_iff _ _).mp k))
theorem leT_trans {a b c : Str} (h : leT a b) (k : leT b c) : leT a c := (leT_iff _ _).mpr (List.le_trans ((leT_iff _ _).mp h) ((leT_iff _ _).mp k))
theorem leT_total (a b : Str) : leT a b ∨ leT b a := by
  rcases List.le_total a.cps.toList b.cps.toList with h | h
  · exact .inl ((leT_iff _ _).mpr h)
  · exact .inr ((leT_iff _ _).mpr h)
theorem insT_perm (x : Str) : ∀ ys : List Str, (insT x ys).Perm (x :: ys)
  | [] => List.Perm.refl _
  | y :: ys => by
    unfold insT
    split
    · exact ((insT_perm x ys).cons y).trans (List.Perm.swap x y ys)
    · exact List.Perm.refl _
theorem sortT_perm : ∀ xs : List Str, (sortT xs).Perm xs
  | [] => List.Perm.refl _
  | x :: xs => (insT_perm x _).trans ((sortT_perm xs).cons x)
theorem insT_pw (x : Str) : ∀ ys : List Str, ys.Pairwise leT → (insT x ys).Pairwise leT
  | [], _ => by simp [insT]
  | y :: ys, h => by
    have hc := List.pairwise_cons.mp h
    unfold insT
    split
    · rename_i h1
      refine List.pairwise_cons.mpr ⟨fun a ha => ?_, insT_pw x ys hc.2⟩
      rcases List.mem_cons.mp ((insT_perm x ys).subset ha) with e | m
      · rw [e]
        rcases leT_total y x with z | z
        · exact z
        · unfold leT at z; rw [h1] at z; cases z
      · exact hc.1 a m
    · rename_i h1
      have hxy : leT x y := by unfold leT; simpa using h1
      refine List.pairwise_cons.mpr ⟨fun a ha => ?_, h⟩
      rcases List.mem_cons.mp ha with e | m
      · rw [e]; exact hxy
      · exact leT_trans hxy (hc.1 a m)
theorem sortT_pw : ∀ xs : List Str, (sortT xs).Pairwise leT
  | [] => .nil
  | x :: xs => insT_pw x _ (sortT_pw xs)
theorem rising_pw : ∀ (x : Str) (r : List Str), risingS x r = true → (x :: r).Pairwise leT
  | x, [], _ => by simp
  | x, y :: r, h => by
    have h' : (!ltCps y.cps.toList x.cps.toList && risingS y r) = true := h
    simp only [Bool.and_eq_true, Bool.not_eq_true'] at h'
    have ih := rising_pw y r h'.2
    have hxy : leT x y := h'.1
    refine List.pairwise_cons.mpr ⟨fun a ha => ?_, ih⟩
    rcases List.mem_cons.mp ha with e | m
    · rw [e]; exact hxy
    · exact leT_trans hxy ((List.pairwise_cons.mp ih).1 a m)
theorem sortedS_pw {l : List Str} (h : sortedS l = true) : l.Pairwise leT := by
  cases l with
  | nil => exact .nil
  | cons x r => exact rising_pw x r h
theorem sortT_eq {ys ks : List Str} (hp : ys.Perm ks) (hs : sortedS ys = true) : ys = sortT ks :=
  List.Perm.eq_of_pairwise (fun a b _ _ h k => leT_antisymm h k) (sortedS_pw hs) (sortT_pw ks) (hp.trans (sortT_perm ks).symm)
def strsOf : List D → Option (List Str)
  | [] => some []
  | .str x :: ds => match strsOf ds with
    | some r => some (x :: r)
    | none => none
  | _ => none
theorem strsOf_map : ∀ {ds : List D} {xs : List Str}, strsOf ds = some xs → ds = xs.map .str
  | [], xs, h => by cases h; rfl
  | d :: ds, xs, h => by
    cases d <;> first | (cases h; done) | skip
    simp only [strsOf] at h
    split at h
    · rename_i r e
      cases h
      rw [strsOf_map e]; rfl
    · cases h
theorem strsOf_strs : ∀ xs : List Str, strsOf (xs.map .str) = some xs
  | [] => rfl
  | x :: xs => by simp [strsOf, strsOf_strs xs]
theorem RpL.ofStrs {K : PySem.W.Frag} {H : Hp} : ∀ xs : List Str, RpL K H (xs.map V.str) (xs.map .str) []
  | [] => .nil
  | x :: xs => .cons (f := []) (fs := []) (.str x) (RpL.ofStrs xs)
def sortKF : List D → Option D
  | [.dict kvs] => match strsOf (kvs.map (·.1)) with
    | some ks => if ks.length < 64 then some (.list ((sortT ks).map .str)) else none
    | none => none
  | _ => none
def lenKF : List D → Option D
  | [.dict kvs] => match strsOf (kvs.map (·.1)) with
    | some ks => some (.int ks.length)
    | none => none
  | _ => none
theorem dct_strs {K : PySem.W.Frag} {H : Hp} {v : V} {kvs : List (D × D)} {fp : List Addr} {ks : List Str} (r : Rp K H v (.dict kvs) fp) (h : strsOf (kvs.map (·.1)) = some ks) : ks = [] ∨ ∃ a hk, v = .ref a ∧ H a = some (.dK hk) ∧ hk.map (·.1) = ks.map Sum.inr := by
  have hk := strsOf_map h
  cases r with
  | dct h1 h2 =>
    rcases h1 with ⟨hk0, g1, g2, g3⟩ | ⟨hk0, g1, g2, g3⟩
    · right
      refine ⟨_, hk0, rfl, g1, ?_⟩
      rw [hk] at g2
      clear g1 g3 h h2 hk
      induction hk0 generalizing ks with
      | nil => cases ks with
        | nil => rfl
        | cons _ _ => simp at g2
      | cons q hk0 ih =>
        cases ks with
        | nil => simp at g2
        | cons x ks =>
          simp only [List.map_cons, List.cons.injEq] at g2
          rw [List.map_cons, List.map_cons, ih g2.2]
          congr 1
          obtain ⟨q1, q2⟩ := q
          cases q1 with
          | inl i => simp [kD] at g2
          | inr y => simp only [kD, PyData.str.injEq] at g2; rw [g2.1]
    · rw [hk] at g2; cases ks <;> simp at g2
  | dcn h1 h2 =>
    obtain ⟨_, _, g2, _⟩ := h1
    rw [hk] at g2; cases ks <;> simp at g2
  | dcf h1 h2 =>
    rcases h1 with ⟨_, _, _, g2, _⟩ | ⟨_, _, _, g2, _⟩ <;> (rw [hk] at g2; cases ks <;> simp at g2)
theorem dct_strs2 {K : PySem.W.Frag} {H : Hp} {v : V} {kvs : List (D × D)} {fp : List Addr} {ks : List Str} (r : Rp K H v (.dict kvs) fp) (h : strsOf (kvs.map (·.1)) = some ks) : ∃ a hk, v = .ref a ∧ H a = some (.dK hk) ∧ hk.map (·.1) = ks.map Sum.inr := by
  rcases dct_strs r h with e | e
  · subst e
    have hk := strsOf_map h
    have : kvs = [] := by simpa using hk
    subst this
    cases r with
    | dct h1 h2 =>
      rcases h1 with ⟨hk0, g1, g2, g3⟩ | ⟨hk0, g1, g2, g3⟩
      · refine ⟨_, hk0, rfl, g1, ?_⟩
        have : hk0 = [] := by simpa using g2.symm
        rw [this]; rfl
      · simp at g2
    | dcn h1 h2 => obtain ⟨_, _, g2, _⟩ := h1; simp at g2
    | dcf h1 h2 => rcases h1 with ⟨_, _, _, g2, _⟩ | ⟨_, _, _, g2, _⟩ <;> simp at g2
  · exact e
section
variable {X : Cx} {fa fb : Bool} {a b : Expr} {h h2 : Rh → Option D} {p pos apos : Pos}
theorem ep_sortK (hc : X.calm = true) (hg : Gl X "sorted") (hm : X.mg "sorted" = none) (ha : EP fa X a h) (na : starEach [a] X.env = (false, eval a X.env) :: starEach [] X.env := by rfl) : EP true X (.Call (.Name "sorted" p) [a] [] pos) (fnE sortKF (aCons h aNil)) := by
  obtain ⟨t, pe, hq⟩ := ha
  refine ⟨_, pe_callB (call_sortedD hc) hg hm (by decide +kernel) (pa_cons pe pa_nil na) (he := na), fun ρ σ H d Q R hd q => ?_⟩
  unfold fnE aCons aNil at hd
  cases e1 : h ρ with
  | none => simp [e1] at hd
  | some y =>
    simp only [e1] at hd
    refine hq ρ σ H y _ R e1 fun v H1 fp s1 r1 _ => ?_
    unfold sortKF at hd
    split at hd
    · rename_i kvs ey
      cases ey
      split at hd
      · rename_i ks ek
        split at hd
        · rename_i hl
          cases hd
          obtain ⟨a0, hk, rfl, g1, g2⟩ := dct_strs2 r1 ek
          refine ⟨a0, hk, ks, rfl, .inl g1, g2, hl, fun ys p0 hp hs np => ?_⟩
          have e2 := sortT_eq hp hs
          subst e2
          refine q _ _ [p0] (same_trans s1 (same_upd np)) (.lst upd_same (by rw [List.length_map, (sortT_perm ks).length_eq]; exact mil_line (by omega)) (RpL.ofStrs _)) fun _ => ⟨by simp, fun a1 m => by rw [List.mem_singleton] at m; rw [m]; exact Same.new s1 np⟩
        · cases hd
      · cases hd
    · cases hd
theorem cr_lenK {X : Cx} : CallR X (.builtin "len") (fun xs H Q => ∃ (a : Addr) (kvs : List (Key × V)), xs = [.ref a] ∧ H a = some (.dK kvs) ∧ Q (.int kvs.length) H) := by
  intro pins s σ H xs us Q I r q
  obtain ⟨a, kvs, rfl, hd, q⟩ := q
  rw [Vals.ref1 r]
  exact d_len I (.inl hd) fun t s' I' => ⟨.int kvs.length, H, I', ⟨t, rfl⟩, q⟩
theorem ep_lenK (hg : Gl X "len") (hm : X.mg "len" = none) (ha : EP fa X a h) (na : starEach [a] X.env = (false, eval a X.env) :: starEach [] X.env := by rfl) : EP true X (.Call (.Name "len" p) [a] [] pos) (fnE lenKF (aCons h aNil)) := by
  obtain ⟨t, pe, hq⟩ := ha
  refine ⟨_, pe_callB cr_lenK hg hm PySem.boot_len (pa_cons pe pa_nil na) (he := na), fun ρ σ H d Q R hd q => ?_⟩
  unfold fnE aCons aNil at hd
  cases e1 : h ρ with
  | none => simp [e1] at hd
  | some y =>
    simp only [e1] at hd
    refine hq ρ σ H y _ R e1 fun v H1 fp s1 r1 _ => ?_
    unfold lenKF at hd
    split at hd
    · rename_i kvs ey
      cases ey
      split at hd
      · rename_i ks ek
        cases hd
        obtain ⟨a0, hk, rfl, g1, g2⟩ := dct_strs2 r1 ek
        refine ⟨a0, hk, rfl, g1, ?_⟩
        have hl : hk.length = ks.length := by have := congrArg List.length g2; simpa using this
        rw [hl]
        exact q _ H1 [] s1 (.int _) fun _ => no_mem
      · cases hd
    · cases hd
def splitD : D → D → Option D
  | .str x, .str y => if (y.length == 0) = false ∧ x.length ≤ 100000 ∧ (Txt.split x y).length ≤ 1000000 then some (.list ((Txt.split x y).map .str)) else none
  | _, _ => none
theorem ep_split (ha : EP fa X a h) (hb : EP fb X b h2) (hs : starEach [b] X.env = [(false, eval b X.env)] := by rfl) (hbase : attributeBase a "split" X.env (eval a X.env) = eval a X.env := by rfl) (hline : (apos.endLine == pos.line) = true := by rfl) : EP true X (.Call (.Attribute a "split" apos) [b] [] pos) (o2 splitD h h2) := by
  obtain ⟨ta, pa, qa⟩ := ha
  obtain ⟨tb, pb, qb⟩ := hb
  refine ⟨_, pe_split pa pb hs hbase hline, fun ρ σ H d Q R hd q => ?_⟩
  obtain ⟨x, y, e1, e2, e3⟩ := o2_some hd
  unfold splitD at e3
  split at e3
  · split at e3
    · rename_i x y hc
      cases e3
      refine qa ρ σ H _ _ R e1 fun v H1 fp s1 r1 _ => ?_
      cases r1
      refine ⟨⟨_, rfl⟩, qb ρ σ H1 _ _ (R.same s1) e2 fun u H2 fq s2 r2 _ => ?_⟩
      cases r2
      refine ⟨_, _, rfl, rfl, hc.1, by rw [sizeLine_eq]; have := hc.2.1; omega, fun p0 np => ?_⟩
      exact q _ _ [p0] (same_trans s1 (same_trans s2 (same_upd np))) (.lst upd_same (by rw [List.length_map]; exact mil_line hc.2.2) (RpL.ofStrs _)) fun _ => ⟨by simp, fun a1 m => by rw [List.mem_singleton] at m; rw [m]; exact Same.new s1 (Same.new s2 np)⟩
    · cases e3
  · cases e3
end
section
variable {X : Cx} {k : Nat} {x : Str} {p pos : Pos} {F : List D → Option D}
theorem ep_callK0 (G : KnP X.prog X.w X.K X.mg X.base k x 0 F) (hr : Room k X.A) (hg : Gl X x) (hdb : (x == ("__debug__" : Str)) = false := by decide) : EP true X (.Call (.Name x p) [] [] pos) (fnE F aNil) := by
  obtain ⟨⟨f, fd, ps, hm, hk, hb, hps, G1⟩, har⟩ := G
  refine ⟨_, pe_call0 G1 hr hg hm hk hb .nil pass0 hdb, fun ρ σ H d Q R hd q => ?_⟩
  exact ⟨rfl, [], [], d, .nil, hd, R.tb, fun v H' fp s2 rv nd nw => q v H' fp s2 rv fun _ => ⟨nd, nw⟩⟩
end
/-! ### displays of dicts, keys ints and texts, values pure -/
def dpNil : Rh → Option (List (D × D)) := fun _ => some []
def dpCons (hk hv : Rh → Option D) (hs : Rh → Option (List (D × D))) : Rh → Option (List (D × D)) := fun ρ => match hk ρ, hv ρ, hs ρ with
  | some k, some v, some r => match sKey k with
    | some _ => if pureD v = true then some ((k, v) :: r) else none
    | none => none
  | _, _, _ => none
inductive PrL (K : PySem.W.Frag) (H : Hp) : List (V × V) → List (D × D) → Prop
  | nil : PrL K H [] []
  | cons {s : Key} {v : V} {d : D} {ps : List (V × V)} {ds : List (D × D)} : Rp K H v d [] → PrL K H ps ds → PrL K H ((kV s, v) :: ps) ((kD s, d) :: ds)
theorem PrL.same {K : PySem.W.Frag} {H H' : Hp} (s : Same H H') : ∀ {ps : List (V × V)} {ds : List (D × D)}, PrL K H ps ds → PrL K H' ps ds
  | _, _, .nil => .nil
  | _, _, .cons r t => .cons (r.same s) (PrL.same s t)
def DPs (X : Cx) (pos : Pos) (keys : List (Option Expr)) (vals : List Expr) (h : Rh → Option (List (D × D))) : Prop := ∃ trs : List (TE × TE), PPs X pos keys vals trs ∧
  ∀ (ρ : Rh) (σ : L2.St) (H : Hp) (ds : List (D × D)) (Q : List (V × V) → Hp → Prop), RhR X.K ρ σ H → h ρ = some ds → (∀ ps H', Same H H' → PrL X.K H' ps ds → Q ps H') → tPairs trs σ H Q
def mrgD (acc : List (D × D)) : List (D × D) → List (D × D)
  | [] => acc
  | (k, v) :: r => match sKey k with
    | some s => mrgD (putG sKey acc s (kD s) v) r
    | none => acc
def dspD (h : Rh → Option (List (D × D))) : Rh → Option D := fun ρ => match h ρ with
  | some ds => if ds.length ≤ 15 then some (.dict (mrgD [] ds)) else none
  | none => none
theorem mrg_rel {K : PySem.W.Frag} {H : Hp} : ∀ {ps : List (V × V)} {ds : List (D × D)}, PrL K H ps ds → ∃ kvs : List (Key × V), ps = kvs.map (fun kv => (kV kv.1, kv.2)) ∧ kvs.length = ds.length ∧
    ∀ {hk : List (Key × V)} {acc : List (D × D)}, acc.map (·.1) = hk.map (fun p => kD p.1) → RpL K H (hk.map (·.2)) (acc.map (·.2)) [] → (mrgD acc ds).map (·.1) = (mergeK hk kvs).map (fun p => kD p.1) ∧ RpL K H ((mergeK hk kvs).map (·.2)) ((mrgD acc ds).map (·.2)) []
  | _, _, .nil => ⟨[], rfl, rfl, fun h1 h2 => ⟨h1, h2⟩⟩
  | _, _, @PrL.cons _ _ s v d ps ds r t => by
    obtain ⟨kvs, e1, e2, h⟩ := mrg_rel t
    refine ⟨(s, v) :: kvs, by rw [e1]; rfl, by simp [e2], fun {hk acc} h1 h2 => ?_⟩
    obtain ⟨fs', sl, a1, a2⟩ := put_rel (c := kD) sKey_kD s r h1 h2
    have : fs' = [] := List.sublist_nil.mp sl
    subst this
    have em : mrgD acc ((kD s, d) :: ds) = mrgD (putG sKey acc s (kD s) d) ds := by
      show (match sKey (kD s) with | some s' => mrgD (putG sKey acc s' (kD s') d) ds | none => acc) = _
      rw [sKey_kD]
    rw [em]
    exact h a1 a2
section
variable {X : Cx} {pos : Pos}
theorem dps_nil : DPs X pos [] [] dpNil := ⟨[], pps_nil, fun ρ σ H ds Q R h q => by cases h; exact q [] H Same.refl .nil⟩
theorem dps_cons {k v : Expr} {ks : List (Option Expr)} {vs : List Expr} {hk hv : Rh → Option D} {hs : Rh → Option (List (D × D))} {fa fb : Bool} (ha : EP fa X k hk) (hb : EP fb X v hv) (hr : DPs X pos ks vs hs) : DPs X pos (some k :: ks) (v :: vs) (dpCons hk hv hs) := by
  obtain ⟨ta, pa, qa⟩ := ha
  obtain ⟨tb, pb, qb⟩ := hb
  obtain ⟨trs, pp, qr⟩ := hr
  refine ⟨_, pps_cons pa pb pp, fun ρ σ H ds Q R h q => ?_⟩
  unfold dpCons at h
  split at h
  · rename_i kd vd r e1 e2 e3
    split at h
    · rename_i s es
      split at h
      · rename_i pv
        cases h
        refine qa ρ σ H kd _ R e1 fun x H1 f1 s1 r1 _ => qb ρ σ H1 vd _ (R.same s1) e2 fun y H2 f2 s2 r2 _ => qr ρ σ H2 r _ ((R.same s1).same s2) e3 fun ps H3 s3 r3 => ?_
        have ek := sKey_inv es
        subst ek
        have ex := sKey_val r1 es
        subst ex
        have e0 : f2 = [] := Rp.pure _ _ _ r2 pv
        subst e0
        exact q _ H3 (same_trans s1 (same_trans s2 s3)) (.cons (r2.same s3) r3)
      · cases h
    · cases h
  · cases h
theorem ep_dsp {keys : List (Option Expr)} {vals : List Expr} {h : Rh → Option (List (D × D))} (hp : DPs X pos keys vals h) (hall : keys.all (·.isSome) = true := by rfl) (hl : keys.length = vals.length := by rfl) (h0 : keys ≠ [] := by simp) (h15 : keys.length ≤ 15 := by decide) : EP true X (.Dict keys vals pos) (dspD h) := by
  obtain ⟨trs, pp, hq⟩ := hp
  refine ⟨_, pe_disp pp hall hl h0 h15, fun ρ σ H d Q R hd q => ?_⟩
  unfold dspD at hd
  split at hd
  · rename_i ds e1
    split at hd
    · rename_i hn
      cases hd
      intro p0 np
      refine hq ρ σ _ ds _ (R.same (same_upd np)) e1 fun ps H2 s2 r2 => ?_
      obtain ⟨kvs, e2, e3, h4⟩ := mrg_rel r2
      obtain ⟨a1, a2⟩ := h4 (hk := []) (acc := []) rfl .nil
      have at0 : H2 p0 = some (.dK []) := s2.at_ _ _ upd_same trivial
      have kp : Keep (fun b => b ≠ p0) H2 (upd H2 p0 (.dK (mergeK [] kvs))) := keep_ne (by rw [at0]; trivial)
      refine ⟨at0, kvs, e2, by omega, ?_⟩
      refine q _ _ [p0] (same_updD (same_trans (same_upd np) s2) np kp) (.dct (vs := (mergeK [] kvs).map (·.2)) (.inl ⟨_, upd_same, a1, rfl⟩) (RpL.keep kp _ _ _ a2 fun _ m => nomatch m)) fun _ => ⟨by simp, fun a1 m => by rw [List.mem_singleton] at m; rw [m]; exact np⟩
    · cases hd
  · cases hd
end
end PV

set_option Elab.async false
set_option linter.all false
set_option maxRecDepth 100000
set_option maxHeartbeats 4000000
namespace PV
open PySem PySem.Spec PyProof.Rows L2
variable [TN]

/-! ### tuple * 1: the tuple itself -/
theorem tuple_mul1 (l : Addr) (items : Array Value) (n : Nat) (dd : Option Addr) (sl : Array (Option Value)) (u : Tok) :
    Meets (Builtin.«tuple.__mul__» ⟨[.ref l, .int 1 u], []⟩) (fun _ R s => s.heap.get? l = some { cls := .type "tuple", dict := dd, data := .seq items n, slots := sl } ∧
      R (.ok (.ret (Value.ref l))) s) :=
  .of_wp fun prog w A R s h => by
    obtain ⟨hp, g, d, tk, os⟩ := s
    obtain ⟨hl, h⟩ := h
    have f1 := AutoSeq1.idx_int
    have c1 : (items.isEmpty || (1 : Int) == 1) = true := by simp
    wp_walk using wpAny_loadPart' hl
    exact ⟨_, rfl, h⟩
def rRepT1 (K : PySem.W.Frag) : R2 := fun x y H Q => ∃ l xs, x = .ref l ∧ y = .int 1 ∧ SqT K H l xs ∧ Q (.ref l) H
def repT1 : D → D → Option D
  | .tuple a, .int k => if pureL a = true ∧ k = 1 then some (.tuple a) else none
  | _, _ => none
section
variable {X : Cx} {K : PySem.W.Frag}
theorem op_repT1 : OpR X (binaryOp .Mult) (rRepT1 X.K) := by
  intro pins s σ H x y v u Q I rx ry h
  obtain ⟨l, xs, rfl, rfl, hT, q⟩ := h
  cases rx
  obtain ⟨t, rfl⟩ := ry
  obtain ⟨its, r, ⟨⟨cls, dd, data, sl⟩, ho, hc, n, hd⟩, hs⟩ := I.tuple hT
  simp only at hc hd
  subst hc hd
  refine wpAny_binaryOp_repeat_ref (T := "tuple") (U := "int") (by decide) ⟨_, ho, rfl⟩ (fun s' => typeIs_int s' 1 t) noFill_tuple_mul F.fills_int_mul F.slot_int_rmul repeat_tuple F.slot_int_index.lookup
    (call_meets F.slot_int_rmul (typeIs_int s 1 t) F.entry_int_rmul (F.args_int_rmul_2 _ _) (int_rmul_tuple 1 t l its.toArray n dd sl)
      ⟨ho, rfl, ⟨_, ho, rfl⟩, call_meets F.slot_tuple_mul ⟨_, ho, rfl⟩ F.entry_tuple_mul (F.args_tuple_mul_2 _ _) (tuple_mul1 l its.toArray n dd sl t) ⟨ho, ?_⟩⟩)
  exact ⟨.ref l, H, I, rfl, q⟩
theorem r2_repT1 : R2ok true K (rRepT1 K) repT1 := by
  intro H x y d e z fx fy Q rx ry h q
  unfold repT1 at h
  split at h
  · split at h
    · rename_i a k hc
      obtain ⟨pa, rfl⟩ := hc
      cases h
      cases ry
      cases rx with
      | tup ha za r1 =>
        have ex := RpL.pure _ _ _ r1 pa
        subst ex
        exact ⟨_, _, rfl, rfl, sqt ha, q _ H [] Same.refl (.tup ha za r1) fun _ => no_mem⟩
    · cases h
  · cases h
end
/-! ### tuple * 0: the empty tuple -/
theorem tuple_mul0 (l : Addr) (items : Array Value) (n : Nat) (dd : Option Addr) (sl : Array (Option Value)) (x : Int) (u : Tok) (c0 : (decide (x < -(2 ^ 63)) || decide (x ≥ 2 ^ 63)) = false) (c1 : (items.isEmpty || x == 1) = false) (c2 : (decide (x ≤ 0) || items.isEmpty) = true) :
    Meets (Builtin.«tuple.__mul__» ⟨[.ref l, .int x u], []⟩) (fun _ R s => s.heap.get? l = some { cls := .type "tuple", dict := dd, data := .seq items n, slots := sl } ∧
      R (.ok (.ret (Value.ref s.heap.objs.size))) { s with heap := s.heap.push { cls := Value.type "tuple", data := Data.seq #[] }, toks := s.toks }) :=
  .of_wp fun prog w A R s h => by
    obtain ⟨hp, g, d, tk, os⟩ := s
    obtain ⟨hl, h⟩ := h
    have f1 := AutoSeq1.idx_int
    wp_walk using wpAny_loadPart' hl
    repeat (first
      | (refine wpAny_ite_false (decide_eq_false (by rw [c0]; exact Bool.false_ne_true)) ?_; wp_walk using wpAny_loadPart' hl)
      | (refine wpAny_ite_false (decide_eq_false (by rw [c1]; exact Bool.false_ne_true)) ?_; wp_walk using wpAny_loadPart' hl)
      | (refine wpAny_ite_true (decide_eq_true c2) ?_; wp_walk using wpAny_loadPart' hl))
    exact ⟨_, rfl, h⟩
def rRepT0 (K : PySem.W.Frag) : R2 := fun x y H Q => ∃ l k xs, x = .ref l ∧ y = .int k ∧ SqT K H l xs ∧ xs ≠ [] ∧ k ≤ 0 ∧ k.natAbs ≤ 1000000 ∧ ∀ p, H p = none → Q (.ref p) (upd H p (.tup []))
def repT0 : D → D → Option D
  | .tuple a, .int k => if a ≠ [] ∧ k ≤ 0 ∧ k.natAbs ≤ 1000000 then some (.tuple []) else none
  | _, _ => none
section
variable {X : Cx} {K : PySem.W.Frag}
theorem op_repT0 : OpR X (binaryOp .Mult) (rRepT0 X.K) := by
  intro pins s σ H x y v u Q I rx ry h
  obtain ⟨l, k, xs, rfl, rfl, hT, hne, h1, h2, q⟩ := h
  cases rx
  obtain ⟨t, rfl⟩ := ry
  obtain ⟨its, r, ⟨⟨cls, dd, data, sl⟩, ho, hc, n, hd⟩, hs⟩ := I.tuple hT
  simp only at hc hd
  subst hc hd
  have hn : its ≠ [] := fun e => hne (by
    rw [e] at r; cases r; rfl)
  refine wpAny_binaryOp_repeat_ref (T := "tuple") (U := "int") (by decide) ⟨_, ho, rfl⟩ (fun s' => typeIs_int s' k t) noFill_tuple_mul F.fills_int_mul F.slot_int_rmul repeat_tuple F.slot_int_index.lookup
    (call_meets F.slot_int_rmul (typeIs_int s k t) F.entry_int_rmul (F.args_int_rmul_2 _ _) (int_rmul_tuple k t l its.toArray n dd sl)
      ⟨ho, rfl, ⟨_, ho, rfl⟩, call_meets F.slot_tuple_mul ⟨_, ho, rfl⟩ F.entry_tuple_mul (F.args_tuple_mul_2 _ _) (tuple_mul0 l its.toArray n dd sl k t ?_ ?_ ?_) ⟨ho, ?_⟩⟩)
  · simp only [Bool.or_eq_false_iff, decide_eq_false_iff_not]; omega
  · have : its.toArray.isEmpty = false := by cases its with | nil => exact absurd rfl hn | cons _ _ => rfl
    rw [this]
    simp; omega
  · simp [h1]
  · exact ⟨.ref s.heap.objs.size, upd H s.heap.objs.size (.tup []), I.laid (t' := s.toks) (fun _ _ e => Heap.get?_push_of_some _ e) (Nat.le_refl _) ⟨Nat.zero_le _, [], .nil, ⟨_, Heap.get?_push_size _ rfl, rfl, _, rfl⟩⟩, rfl, q _ (I.hok.fresh (Nat.le_refl _))⟩
theorem r2_repT0 : R2ok true K (rRepT0 K) repT0 := by
  intro H x y d e z fx fy Q rx ry h q
  unfold repT0 at h
  split at h
  · split at h
    · rename_i a k hc
      cases h
      cases ry
      cases rx with
      | tup ha za r1 =>
        refine ⟨_, _, _, rfl, rfl, sqt ha, fun z => ?_, hc.2.1, hc.2.2, fun p np => q _ _ [] (same_upd np) (.tup upd_same (Nat.zero_le _) .nil) fun _ => no_mem⟩
        subst z
        cases r1
        exact hc.1 rfl
    · cases h
  · cases h
def mulE := alt mulD (alt repT1 repT0)
theorem op_mulE : OpR X (binaryOp .Mult) (fun x y H Q => ((rI CMul fun i j => .int (i * j)) x y H Q ∨ rRep x y H Q ∨ rRepT X.K x y H Q) ∨ rRepT1 X.K x y H Q ∨ rRepT0 X.K x y H Q) := op_mulA.or (op_repT1.or op_repT0)
theorem r2_mulE : R2ok true K (fun x y H Q => ((rI CMul fun i j => .int (i * j)) x y H Q ∨ rRep x y H Q ∨ rRepT K x y H Q) ∨ rRepT1 K x y H Q ∨ rRepT0 K x y H Q) mulE := r2_mulA.alt (r2_repT1.alt r2_repT0)
end
theorem mulE_tup (a : D) (k : Nat) (h : pureL [a] = true) (h1 : 1 ≤ k) (h2 : k ≤ 1000) : mulE (.tuple [a]) (.int k) = some (.tuple (List.replicate k a)) := by
  have hf : (List.replicate k [a]).flatten = List.replicate k a := by
    clear h1 h2
    induction k with
    | zero => rfl
    | succ k ih => rw [List.replicate_succ, List.flatten_cons, ih, List.replicate_succ]; rfl
  show PV.alt (PV.alt mulI (PV.alt repL repT)) (PV.alt repT1 repT0) _ _ = _
  by_cases e : k = 1
  · subst e
    simp [PV.alt, mulI, repL, repT, repT1, h]
  · have h3 : (2 : Int) ≤ (k : Int) := by omega
    have h4 : (k : Int) ≤ 1000 := by omega
    simp [PV.alt, mulI, repL, repT, repT1, h, h3, h4, hf]
theorem mulE_tup0 (a : D) (k : Nat) (h : pureL [a] = true) (h2 : k ≤ 1000) : mulE (.tuple [a]) (.int k) = some (.tuple (List.replicate k a)) := by
  by_cases e : k = 0
  · subst e
    show PV.alt (PV.alt mulI (PV.alt repL repT)) (PV.alt repT1 repT0) _ _ = _
    simp [PV.alt, mulI, repL, repT, repT1, repT0]
  · exact mulE_tup a k h (by omega) h2
end PV

set_option Elab.async false
set_option linter.all false
set_option maxRecDepth 100000
set_option maxHeartbeats 2000000
namespace PV
open PySem PySem.Spec PyProof.Rows L2
variable [TN]

/-! ### name op= e, of ints -/
def sAug (i : Nat) (fn : D → D → Option D) (g : Rh → Option (D × Rh)) : Rh → Out := fun ρ => match ρ[i]? with
  | some (some ⟨.int k, _⟩) => match g ρ with
    | some (d, ρ1) => match fn (.int k) d with
      | some z => match setS i ⟨z, .own⟩ ρ1 with
        | some ρ2 => .nx ρ2
        | none => .no
      | none => .no
    | none => .no
  | _ => .no
section
variable {X : Cx} {pos : Pos}
theorem ss_aug {i : Nat} {x : Str} {e : Expr} {op : Operator} {r : R2} {fn : D → D → Option D} {g : Rh → Option (D × Rh)} {p1 : Pos} (ho : OpR X (inplaceOp op) r) (hr : R2ok true X.K r fn) (hN : X.N.Nodup) (hi : X.N[i]? = some x) (hx : Loc X.env.scope x) (he : EV X e g)
    (hf : X.fn x = true ∨ X.env.scope.names.lookup x = some .local := by first | exact .inl rfl | exact .inr rfl | assumption) :
    SS X (.AugAssign (.Name x p1) op e pos) (sAug i fn g) := by
  obtain ⟨t, pe, hq⟩ := he
  refine ⟨_, ps_aug hN hi hx pe (fun pins s σ H x y v u Q I rx ry q => ho pins s σ H x y v u Q I rx ry q) hf, fun F L ρ σ H fo D0 R gd => ?_⟩
  unfold sAug at gd
  split at gd
  · rename_i k o e0
    cases e1 : g ρ with
    | none => simp only [e1, Good] at gd
    | some p =>
      obtain ⟨d, ρ1⟩ := p
      simp only [e1] at gd
      cases e2 : fn (.int k) d with
      | none => simp only [e2, Good] at gd
      | some z =>
        simp only [e2] at gd
        cases e3 : setS i ⟨z, .own⟩ ρ1 with
        | none => simp only [e3, Good] at gd
        | some ρ2 =>
          simp only [e3] at gd
          obtain ⟨v, ev, rv⟩ := R.rp i _ e0
          have hv : v = .int k := by
            generalize fo i = ff at rv
            cases rv; rfl
          subst hv
          refine ⟨_, ev, hq F L ρ σ H fo d ρ1 _ R e1 fun y H1 f1 fp R1 fr1 k1 => ?_⟩
          refine hr H1 (.int k) y (.int k) d z [] fp _ (.int k) fr1.rp e2 fun zv H2 fz s2 r2 hz => ?_
          have fr2 := R1.fresh s2 r2 (hz rfl).1 (hz rfl).2
          exact gd _ H2 _ ((R1.same s2).setOwn fr2 e3) (k1.trans (Keep.of_same s2))
  · exact gd.elim
/-! ### xs[k] op= e, of ints -/
def rGetL (K : PySem.W.Frag) : V → V → Hp → VK → Prop := fun x y H Q => ∃ p xs i v, x = .ref p ∧ y = .int i ∧ SqL K H p xs ∧ atI xs i = some v ∧ Q v H
theorem get_list : PGet X (rGetL X.K) := by
  intro pins s σ H x y v u Q I rx ry h
  obtain ⟨p, xs, i, z, rfl, rfl, hq, he, q⟩ := h
  cases rx
  obtain ⟨t, rfl⟩ := ry
  obtain ⟨its, r, pl, hz⟩ := I.list hq
  obtain ⟨j, h1, h2, h3, h4, h5⟩ := atI_get he
  obtain ⟨w, ew, rw'⟩ := r.get h2
  have hl := r.length
  have hn := line63
  have fin : L2.EP X pins σ Q w s := ⟨z, H, I, rw', q⟩
  by_cases h0 : 0 ≤ i
  · have hj : i.toNat = j := by
      rw [seqIndex_of h0 h5] at h1
      exact Option.some.inj h1
    exact wpAny_getItem_list pl.isList h0 (by omega) (by rw [hj]; simpa using ew) fin
  · have hj : (i + (its.toArray.size : Int)).toNat = j := by
      rw [seqIndex_neg (by omega) h4] at h1
      rw [List.size_toArray, ← hl]
      exact Option.some.inj h1
    exact wpAny_getItem_list_neg pl.isList (by omega) (by rw [List.size_toArray] <;> omega) (by omega) (by rw [hj]; simpa using ew) fin
def sAugI (x : Nat) (fn : D → D → Option D) (hk he : Rh → Option D) : Rh → Out := fun ρ => match wr x ρ, hk ρ with
  | some (.list ds, ow), some k => match ixD (.list ds) k with
    | some (.int j) => match he ρ with
      | some d => match fn (.int j) d with
        | some z => match ixSet ds k z with
          | some ds' => .nx (ρ.set x (some ⟨.list ds', ow⟩))
          | none => .no
        | none => .no
      | none => .no
    | _ => .no
  | _, _ => .no
theorem ss_augI {x : Nat} {o i e : Expr} {op : Operator} {r : R2} {fn : D → D → Option D} {hk he : Rh → Option D} {fk fe : Bool} {tpos : Pos} (hop : OpR X (inplaceOp op) r) (hr : R2ok true X.K r fn) (ho : PE X o (tVar x)) (hi : PV.EP fk X i hk) (hv : PV.EP fe X e he)
    (ha : ∀ ov iv new, augStore i ov iv new = (do holding [new, ov, iv] (setItem ov iv new); release [new, ov, iv] []; pure .next) := by intros; rfl) : SS X (.AugAssign (.Subscript o i tpos) op e pos) (sAugI x fn hk he) := by
  obtain ⟨ti, pi, qi⟩ := hi
  obtain ⟨te, pe, qe⟩ := hv
  refine ⟨_, ps_augS ho pi get_list pe (fun pins s σ H x y v u Q I rx ry q => hop pins s σ H x y v u Q I rx ry q) set_list ha, fun F L ρ σ H fo D0 R gd => ?_⟩
  unfold sAugI at gd
  split at gd
  · rename_i ds ow k e1 e2
    split at gd
    · rename_i j e3
      cases e4 : he ρ with
      | none => simp only [e4, Good] at gd
      | some d =>
        simp only [e4] at gd
        cases e5 : fn (.int j) d with
        | none => simp only [e5, Good] at gd
        | some z =>
          simp only [e5] at gd
          cases e6 : ixSet ds k z with
          | none => simp only [e6, Good] at gd
          | some ds' =>
            simp only [e6] at gd
            obtain ⟨ex, wx⟩ := wr_some e1
            obtain ⟨u, eu, ru⟩ := R.rp x _ ex
            refine ⟨u, eu, qi ρ σ H k _ R.rd e2 fun iv H1 fi s1 ri _ => ?_⟩
            have R1 := R.same s1
            obtain ⟨u1, eu1, ru1⟩ := R1.rp x _ ex
            rw [eu] at eu1; cases eu1
            have ri' := ri
            obtain ⟨i0, j0, rfl, e7, _⟩ := ixSet_some e6
            cases ri'
            generalize hfx : fo x = fx at *
            have ru1' := ru1
            cases ru1' with
            | lst h1 h2 h3 =>
              rename_i a xs fs
              obtain ⟨w, f, ew, rw', _⟩ := RpL.at h3 (k := i0) e3
              cases rw'
              refine ⟨a, xs, i0, .int j, rfl, rfl, .inl (.inl h1), ew, ?_⟩
              refine qe ρ σ H1 d _ R1.rd e4 fun y H2 fy s2 ry _ => ?_
              have R2 := R1.same s2
              refine hr H2 (.int j) y (.int j) d z [] fy _ (.int j) ry e5 fun zv H3 fz s3 rz hz => ?_
              have R3 := R2.same s3
              have fr3 := R2.fresh s3 rz (hz rfl).1 (hz rfl).2
              obtain ⟨a', xs', i', j', ea, ei, h1', h2', f3, R4, k4⟩ := ixset_ok R3 fr3 e1 e6 (.int i0) eu
              exact ⟨a', xs', i', j', ea, ei, h1', h2', gd σ _ f3 R4 ((Keep.of_same (same_trans s1 (same_trans s2 s3))).trans k4)⟩
    · exact gd.elim
  · exact gd.elim
end
end PV

set_option Elab.async false
set_option linter.all false
set_option maxRecDepth 100000
set_option maxHeartbeats 2000000
namespace PV
open PySem PySem.Spec PyProof.Rows L2
variable [TN]

/-! ### zip -/
def zipD (xs ys : List D) : List D := List.zipWith (fun a b => .tuple [a, b]) xs ys
theorem zipD_len (xs ys : List D) : (zipD xs ys).length = min xs.length ys.length := by simp [zipD]
theorem zip_item {K : PySem.W.Frag} {H1 H2 : Hp} {ds es : List D} {vs ws : List V} {fs gs S : List Addr} (r : RpL K H1 vs ds fs) (r' : RpL K H1 ws es gs) (hS : ∀ a ∈ fs, a ∈ S) (hS' : ∀ a ∈ gs, a ∈ S) (k : Keep (fun a => a ∈ S) H1 H2) {i : Nat} {x y : V} {T : Addr} (nT : H2 T = none) (e : vs[i]? = some x) (e' : ws[i]? = some y) :
    Same H2 (upd H2 T (.tup [x, y])) ∧ ∃ d fp, (zipD ds es)[i]? = some d ∧ Rp K (upd H2 T (.tup [x, y])) (.ref T) d fp ∧ ∀ a ∈ fp, a ∈ S := by
  obtain ⟨d, fp, ed, rd, m⟩ := wk_items r hS k e
  obtain ⟨d', fp', ed', rd', m'⟩ := wk_items r' hS' k e'
  refine ⟨same_upd nT, .tuple [d, d'], _, ?_, pair_rp nT rd rd', fun b hb => ?_⟩
  · simp [zipD, List.getElem?_zipWith, ed, ed']
  · simp at hb
    rcases hb with hb | hb
    · exact m b hb
    · exact m' b hb
theorem wkOk_zip {K : PySem.W.Frag} {H1 : Hp} {a b : Addr} {ds es : List D} {vs ws : List V} {fs gs : List Addr} (h : H1 a = some (.lst vs)) (h' : H1 b = some (.lst ws)) (r : RpL K H1 vs ds fs) (r' : RpL K H1 ws es gs) : WkOk K H1 (Itz K a b) (zipD ds es) ((a :: fs) ++ (b :: gs)) := by
  refine ⟨⟨_, _, walk_zip (xs := vs) (ys := ws) (by rw [zipD_len, r.length, r'.length]), ⟨.inl (.inl h), .inl (.inl h')⟩, fun H2 k => ⟨sqL_keep h k (by simp), sqL_keep h' k (by simp)⟩, fun i H2 x H3 hi k y => ?_⟩, fun c m => ?_⟩
  · obtain ⟨T, x1, x2, rfl, nT, rfl, e1, e2⟩ := y
    exact zip_item r r' (fun c m => by simp [m]) (fun c m => by simp [m]) k nT e1 e2
  · rcases List.mem_append.mp m with m | m
    · rcases List.mem_cons.mp m with m | m
      · rw [m, h]; exact fun z => nomatch z
      · exact r.dom m
    · rcases List.mem_cons.mp m with m | m
      · rw [m, h']; exact fun z => nomatch z
      · exact r'.dom m
theorem wkOk_zipT {K : PySem.W.Frag} {H1 : Hp} {a b : Addr} {ds es : List D} {vs ws : List V} {fs gs : List Addr} (h : SqT K H1 a vs) (h' : SqT K H1 b ws) (r : RpL K H1 vs ds fs) (r' : RpL K H1 ws es gs) : WkOk K H1 (RZ.ItzT K a b) (zipD ds es) (fs ++ gs) := by
  refine ⟨⟨_, _, walk_zipT (xs := vs) (ys := ws) (by rw [zipD_len, r.length, r'.length]), ⟨h, h'⟩, fun H2 k => ⟨sqT_keep h k, sqT_keep h' k⟩, fun i H2 x H3 hi k y => ?_⟩, fun c m => ?_⟩
  · obtain ⟨T, x1, x2, rfl, nT, rfl, e1, e2⟩ := y
    exact zip_item r r' (fun c m => by simp [m]) (fun c m => by simp [m]) k nT e1 e2
  · rcases List.mem_append.mp m with m | m
    · exact r.dom m
    · exact r'.dom m
def iZ (h1 h2 : Rh → Option D) : Rh → Option (List D) := fun ρ => match h1 ρ, h2 ρ with
  | some (.list xs), some (.list ys) => some (zipD xs ys)
  | some (.tuple xs), some (.tuple ys) => some (zipD xs ys)
  | _, _ => none
section
variable {X : Cx} {e e2 : Expr} {p pos tpos : Pos} {elts : List Expr} {kk : Nat} {bs cs : List Nat} {h1 h2 : Rh → Option D}
theorem ip_zip (hg : Gl X "zip") (hm : X.mg "zip" = none) (he : EPb X e bs h1) (he2 : EPb X e2 cs h2)
    (hst : starEach [e, e2] X.env = (false, eval e X.env) :: starEach [e2] X.env := by rfl) (hst2 : starEach [e2] X.env = (false, eval e2 X.env) :: starEach [] X.env := by rfl) (hpl : (backTo pos (starEach [e2] X.env)).any (·.1) = false := by rfl) :
    IP X (.Tuple elts kk tpos) (.Call (.Name "zip" p) [e, e2] [] pos) (bs ++ cs) (iZ h1 h2) := by
  obtain ⟨t, pe, hq⟩ := he
  obtain ⟨t2, pe2, hq2⟩ := he2
  refine ⟨_, RZ.pi_zipA hg hm (pa_cons pe (pa_cons pe2 pa_nil hst2) hst) hst hpl, fun ρ σ H f ds R Rf hd q => ?_⟩
  unfold iZ at hd
  split at hd
  · rename_i xs ys e1 e2
    cases hd
    refine hq ρ σ H f _ _ Rf e1 fun v H1 fp s r hfp => ?_
    refine hq2 ρ σ H1 f _ _ (Rf.same s) e2 fun u H2 fq s2 r2 hfq => ?_
    have rr := r.same s2
    cases rr with
    | lst g1 g2 g3 =>
      cases r2 with
      | lst k1 k2 k3 =>
        refine ⟨_, _, _, _, rfl, .inl ⟨.inl (.inl g1), .inl (.inl k1), q _ _ _ (same_trans s s2) (wkOk_zip g1 k1 g3 k3) fun a m => ?_⟩⟩
        rcases List.mem_append.mp m with m | m
        · rcases hfp a m with z | ⟨i, hi, w⟩
          · exact .inl z
          · exact .inr ⟨i, List.mem_append_left _ hi, w⟩
        · rcases hfq a m with z | ⟨i, hi, w⟩
          · exact .inl (Same.new s z)
          · exact .inr ⟨i, List.mem_append_right _ hi, w⟩
  · rename_i xs ys e1 e2
    cases hd
    refine hq ρ σ H f _ _ Rf e1 fun v H1 fp s r hfp => ?_
    refine hq2 ρ σ H1 f _ _ (Rf.same s) e2 fun u H2 fq s2 r2 hfq => ?_
    have rr := r.same s2
    cases rr with
    | tup g1 g2 g3 =>
      cases r2 with
      | tup k1 k2 k3 =>
        refine ⟨_, _, _, _, rfl, .inr ⟨sqt g1, sqt k1, q _ _ _ (same_trans s s2) (wkOk_zipT (sqt g1) (sqt k1) g3 k3) fun a m => ?_⟩⟩
        rcases List.mem_append.mp m with m | m
        · rcases hfp a m with z | ⟨i, hi, w⟩
          · exact .inl z
          · exact .inr ⟨i, List.mem_append_left _ hi, w⟩
        · rcases hfq a m with z | ⟨i, hi, w⟩
          · exact .inl (Same.new s z)
          · exact .inr ⟨i, List.mem_append_right _ hi, w⟩
  · cases hd
end
end PV

set_option Elab.async false
set_option linter.all false
set_option maxRecDepth 100000
set_option maxHeartbeats 2000000
namespace PV
open PySem PySem.Spec PyProof.Rows L2
variable [TN]

/-! ### sorted(xs, reverse=True) -/
section
variable {X : Cx} {e : Expr} {es : List Expr} {p pos kp kpos : Pos} {j k : Nat} {fa : Bool} {hs : Rh → Option (List D)} {gs : Rh → Option (List D × Rh)}
def rSortR (K : PySem.W.Frag) : List V → List V → Hp → VK → Prop := fun vs zs H Q => zs = [.bl true] ∧ rSortA K true vs H Q
theorem cr_sortR (hr : Room k X.A) : CallRK X (.builtin "sorted") [Str.ofString "reverse"] (rSortR X.K) := by
  intro pins s σ H vs zs us ws Q I r rz h
  obtain ⟨rfl, h⟩ := h
  obtain ⟨w1, rfl, e1⟩ := vals1 rz
  obtain rfl : w1 = Value.bool true := e1
  exact sortA_run hr (.inr rfl) I r h
theorem ep_sortR (hr : Room k X.A) (hg : Gl X "sorted") (hm : X.mg "sorted" = none) (ha : PV.AP fa X (e :: es) hs)
    (he : backTo pos (starEach (e :: es) X.env) = (false, eval e X.env) :: backTo pos (starEach es X.env) := by rfl) (hpl : (backTo pos (starEach (e :: es) X.env)).any (·.1) = false := by rfl)
    (hall : (backToKw pos (keywordEach [⟨some "reverse", .Constant (.bool true) j kp, kpos⟩] X.env)).all (·.1.isSome) = true := by rfl) (hnone : (backToKw pos (keywordEach [⟨some "reverse", .Constant (.bool true) j kp, kpos⟩] X.env)).any (·.1.isNone) = false := by rfl) (hks : (backToKw pos (keywordEach [⟨some "reverse", .Constant (.bool true) j kp, kpos⟩] X.env)).filterMap (·.1) = [Str.ofString "reverse"] := by rfl) :
    PV.EP true X (.Call (.Name "sorted" p) (e :: es) [⟨some "reverse", .Constant (.bool true) j kp, kpos⟩] pos) (fnE (sortF true) hs) := by
  obtain ⟨t, pa, hq⟩ := ha
  refine ⟨_, pe_callBK (cr_sortR hr) hg hm (by decide +kernel) pa (pk_cons pe_bl pk_nil) (by decide) (by decide) he hpl hall hnone hks, fun ρ σ H d Q R hd q => ?_⟩
  unfold fnE at hd
  split at hd
  · rename_i ds e1
    refine hq ρ σ H ds _ R e1 fun vs H1 fs s r1 _ => ?_
    exact ⟨rfl, rn_sortA H1 vs ds d fs Q r1 hd fun v H' fp s2 rv n => q v H' fp (same_trans s s2) rv fun z => ⟨(n z).1, fun a m => Same.new s ((n z).2 a m)⟩⟩
  · cases hd
end
end PV

set_option Elab.async false
set_option linter.all false
set_option maxRecDepth 100000
set_option maxHeartbeats 2000000
namespace PV
open PySem PySem.Spec PyProof.Rows L2
variable [TN]

/-! ### ranges downwards -/
def downD (hi : Int) (n : Nat) : List D := (List.range n).map fun (i : Nat) => .int (hi + (i : Nat) * (-1))
theorem downD_len (hi : Int) (n : Nat) : (downD hi n).length = n := by simp [downD]
theorem wkOk_down {K : PySem.W.Frag} {H1 : Hp} {hi : Int} {n : Nat} : WkOk K H1 (Itc hi (-1) n) (downD hi n) [] := by
  refine ⟨⟨_, _, by rw [downD_len]; exact walk_rangeC, trivial, fun _ _ => trivial, fun i H2 x H3 hi k y => ?_⟩, fun b m => nomatch m⟩
  obtain ⟨rfl, rfl⟩ := y
  rw [downD_len] at hi
  exact ⟨Same.refl, _, [], by simp [downD, hi], .int _, fun a m => nomatch m⟩
def rng3 : List D → Option (List D)
  | [.int i, .int j, .int c] => if i.natAbs ≤ 1000000 ∧ j.natAbs ≤ 1000000 ∧ c = -1 then some (downD i (i - j).toNat) else none
  | _ => none
def iR3 (h : Rh → Option (List D)) : Rh → Option (List D) := fun ρ => (h ρ).bind rng3
section
variable {X : Cx} {tg a b c : Expr} {p pos : Pos} {fr : Bool} {h : Rh → Option (List D)}
theorem ip_range3 (hg : Gl X "range") (hm : X.mg "range" = none) (ha : PV.AP fr X [a, b, c] h) (hs : starEach [a, b, c] X.env = (false, eval a X.env) :: starEach [b, c] X.env := by rfl) (hpl : (backTo pos (starEach [b, c] X.env)).any (·.1) = false := by rfl) :
    IP X tg (.Call (.Name "range" p) [a, b, c] [] pos) [] (iR3 h) := by
  obtain ⟨t, pe, hq⟩ := ha
  refine ⟨_, pi_range3 hg hm pe hs hpl, fun ρ σ H f ds R Rf hd q => ?_⟩
  unfold iR3 at hd
  cases e1 : h ρ with
  | none => simp [e1] at hd
  | some d =>
    simp only [e1, Option.bind_some] at hd
    refine hq ρ σ H d _ Rf.rd e1 fun vs H1 fp s r _ => ?_
    unfold rng3 at hd
    split at hd
    · split at hd
      · rename_i i j c hc
        obtain ⟨c1, c2, rfl⟩ := hc
        cases hd
        cases r with
        | cons r1 r2 =>
          cases r1
          cases r2 with
          | cons r3 r4 =>
            cases r3
            cases r4 with
            | cons r5 r6 =>
              cases r5; cases r6
              exact ⟨i, j, -1, _, rfl, RgC.neg (abs62 c1).1 (abs62 c1).2 (abs62 c2).1 (abs62 c2).2, q _ _ [] s wkOk_down fun a m => nomatch m⟩
      · cases hd
    · cases hd
end
/-! ### xs.pop(k), of plain items -/
def popAtV (i : Nat) (g : Rh → Option (D × Rh)) : Rh → Option (D × Rh) := fun ρ => match lstAt i ρ, g ρ with
  | true, some (.int k, ρ1) => match wr i ρ1 with
    | some (.list ds, o) => match ixN ds.length k with
      | some j => match ds[j]? with
        | some d => if pureL ds = true then some (d, ρ1.set i (some ⟨.list (ds.eraseIdx j), o⟩)) else none
        | none => none
      | none => none
    | _ => none
  | _, _ => none
theorem RpL.erase {K : PySem.W.Frag} {H : Hp} : ∀ {ds : List D} {vs : List V} (j : Nat), RpL K H vs ds [] → RpL K H (vs.eraseIdx j) (ds.eraseIdx j) []
  | [], _, j, h => by cases h; exact .nil
  | d :: ds, _, j, h => by
    generalize hz : ([] : List Addr) = z at h
    cases h with
    | cons h1 h2 =>
      obtain ⟨e1, e2⟩ := List.nil_eq_append_iff.mp hz
      subst e1 e2
      cases j with
      | zero => exact h2
      | succ j => exact .cons (f := []) (fs := []) h1 (RpL.erase j h2)
section
variable {X : Cx} {o e : Expr} {i : Nat} {pos apos : Pos} {g : Rh → Option (D × Rh)}
theorem ev_popAt (pa : PE X o (tVar i)) (he : PV.EV X e g) (hbase : attributeBase o "pop" X.env (eval o X.env) = eval o X.env := by rfl)
    (hfew : ((backTo pos (starEach [e] X.env)).all (fun x => !x.1) && (backToKw pos (keywordEach [] X.env)).all (fun x => x.1.isSome) && decide (([e] : List Expr).length + ([] : List Keyword).length + (if ([] : List Keyword).isEmpty then 0 else 1) < 30)) = true := by rfl)
    (hline : (apos.endLine == pos.line) = true := by rfl) (hs : starEach [e] X.env = (false, eval e X.env) :: starEach [] X.env := by rfl) (hplain : (backTo pos (starEach [] X.env)).any (·.1) = false := by rfl) : PV.EV X (.Call (.Attribute o "pop" apos) [e] [] pos) (popAtV i g) := by
  obtain ⟨t, pe, hq⟩ := he
  refine ⟨_, pe_bm PySem.F.plainAttrs_list PySem.F.slot_list_pop PySem.F.type_list_pop mt_popAt pa (pa_cons pe pa_nil hs) hbase hfew hline hs hplain, fun F L ρ σ H f d ρ' Q R h q => ?_⟩
  unfold popAtV at h
  split at h
  · rename_i k ρ1 e1 e2
    split at h
    · rename_i ds ow e3
      split at h
      · rename_i j e4
        split at h
        · rename_i d1 e5
          split at h
          · rename_i hp
            cases h
            obtain ⟨a, xs0, ev, h0⟩ := lstAt_ok R e1
            refine ⟨.ref a, ev, .inl ⟨rfl, xs0, .inl (.inl h0)⟩, hq F L ρ σ H f _ ρ1 _ R e2 fun v H1 f1 fp R1 fr1 k1 => ?_⟩
            have rk := fr1.rp
            have hv : v = .int k := by cases rk; rfl
            subst hv
            obtain ⟨ec, hw⟩ := wr_some e3
            obtain ⟨u, eu, r⟩ := R1.rp i _ ec
            rw [ev] at eu; cases eu
            obtain ⟨xs, fs, h1, hfi, h3⟩ := r.lstInv
            have hfs := RpL.pure _ _ _ h3 hp
            subst hfs
            have hl := h3.length
            obtain ⟨s1, s2, s3, s4⟩ := ixN_seq e4
            obtain ⟨y, fy, ey, ry, hy⟩ := h3.get e5
            have hfy : fy = [] := by
              cases fy with
              | nil => rfl
              | cons b bs => exact absurd (hy b List.mem_cons_self) (fun m => nomatch m)
            subst hfy
            have hz : xs.length ≤ sizeLine := by
              generalize f1 i = ff at r
              cases r with
              | lst g1 g2 g3 => rw [h1] at g1; cases g1; exact g2
            have hn := line63
            have hm : Mut (H1 a) := by rw [h1]; trivial
            have kp : Keep (fun b => b ≠ a) H1 (upd H1 a (.lst (xs.eraseIdx j))) := keep_ne hm
            have r3 := RpL.keep kp _ _ _ (RpL.erase j h3) fun b m => nomatch m
            have hle : (xs.eraseIdx j).length ≤ sizeLine := Nat.le_trans (List.length_eraseIdx_le ..) hz
            have rn : Rp X.K (upd H1 a (.lst (xs.eraseIdx j))) (.ref a) (.list (ds.eraseIdx j)) (f1 i) := by
              rw [hfi]
              exact .lst upd_same hle r3
            obtain ⟨ndi, nfi⟩ := R1.nd i _ ec hw
            have R2 := R1.mutate ec hw ev rn ndi (fun b m => .inl m) (keep_upd hm fun z => z (by rw [hfi]; exact List.mem_cons_self))
            refine ⟨a, xs, k, j, y, rfl, rfl, h1, by omega, by omega, by rw [hl]; exact s1, ey, ?_⟩
            exact q y _ _ [] R2.1 ⟨Rp.keep kp _ _ _ ry fun b m => (nomatch m), List.nodup_nil, fun _ m => (nomatch m), fun _ _ _ _ m => (nomatch m)⟩ (k1.trans R2.2)
          · cases h
        · cases h
      · cases h
    · cases h
  · cases h
end
end PV

set_option Elab.async false
set_option linter.all false
set_option maxRecDepth 100000
set_option maxHeartbeats 2000000
namespace PV
open PySem PySem.Spec PyProof.Rows L2
variable [TN]

/-! ### xs[i][j] = value -/
theorem RpL.setIn {K : PySem.W.Frag} {H : Hp} {w : V} {d : D} {fp : List Addr} {es : List D} (rw' : Rp K H w d fp) (nf : fp.Nodup) (j2 : Nat) : ∀ {ds : List D} {vs : List V} {fs : List Addr} (j : Nat), RpL K H vs ds fs → fs.Nodup → (∀ a ∈ fp, a ∉ fs) → ds[j]? = some (.list es) →
    ∃ b ys, vs[j]? = some (.ref b) ∧ H b = some (.lst ys) ∧ b ∈ fs ∧ ys.length = es.length ∧ ∃ fs', RpL K (upd H b (.lst (ys.set j2 w))) vs (ds.set j (.list (es.set j2 d))) fs' ∧ fs'.Nodup ∧ ∀ a ∈ fs', a ∈ fs ∨ a ∈ fp
  | [], _, _, j, h, nd, dj, e => by simp at e
  | d0 :: ds, _, _, 0, h, nd, dj, e => by
    simp at e
    subst e
    cases h with
    | cons h1 h2 =>
      rename_i v1 vs f1 fs
      obtain ⟨nd1, nd2, nd3⟩ := List.nodup_append.mp nd
      cases h1 with
      | lst g1 g2 g3 =>
        rename_i b ys gs
        obtain ⟨nb, ndg⟩ := List.nodup_cons.mp nd1
        obtain ⟨gs', r', n', s'⟩ := RpL.setAt rw' nf j2 g3 ndg fun a m m' => dj a m (List.mem_append_left _ (List.mem_cons_of_mem _ m'))
        have nb' : b ∉ gs' := fun m => (s' b m).elim nb fun m' => dj b m' (List.mem_append_left _ List.mem_cons_self)
        have nbf : b ∉ fs := fun m => nd3 b List.mem_cons_self b m rfl
        have kne : Keep (fun c => c ≠ b) H (upd H b (.lst (ys.set j2 w))) := keep_ne (by rw [g1]; trivial)
        refine ⟨b, ys, rfl, g1, List.mem_append_left _ List.mem_cons_self, g3.length, (b :: gs') ++ fs, .cons (.lst upd_same (by rw [List.length_set]; exact g2) (RpL.keep kne _ _ _ r' fun c m z => by subst z; exact nb' m)) (RpL.keep kne _ _ _ h2 fun c m z => by subst z; exact nbf m), ?_, ?_⟩
        · refine List.nodup_append.mpr ⟨List.nodup_cons.mpr ⟨nb', n'⟩, nd2, fun a m c m' z => ?_⟩
          subst z
          rcases List.mem_cons.mp m with m | m
          · subst m; exact nbf m'
          · rcases s' a m with m | m
            · exact nd3 a (List.mem_cons_of_mem _ m) a m' rfl
            · exact dj a m (List.mem_append_right _ m')
        · intro a m
          rcases List.mem_append.mp m with m | m
          · rcases List.mem_cons.mp m with m | m
            · subst m; exact .inl (List.mem_append_left _ List.mem_cons_self)
            · rcases s' a m with m | m
              · exact .inl (List.mem_append_left _ (List.mem_cons_of_mem _ m))
              · exact .inr m
          · exact .inl (List.mem_append_right _ m)
  | d0 :: ds, _, _, j + 1, h, nd, dj, e => by
    cases h with
    | cons h1 h2 =>
      rename_i v1 vs f1 fs
      obtain ⟨nd1, nd2, nd3⟩ := List.nodup_append.mp nd
      simp only [List.getElem?_cons_succ] at e
      obtain ⟨b, ys, e1, g1, mb, hl, fs', r, n', s'⟩ := RpL.setIn rw' nf j2 j h2 nd2 (fun a m m' => dj a m (List.mem_append_right _ m')) e
      have nbf : b ∉ f1 := fun m => nd3 b m b mb rfl
      have kne : Keep (fun c => c ≠ b) H (upd H b (.lst (ys.set j2 w))) := keep_ne (by rw [g1]; trivial)
      refine ⟨b, ys, by simpa using e1, g1, List.mem_append_right _ mb, hl, f1 ++ fs', .cons (Rp.keep kne _ _ _ h1 fun c m z => by subst z; exact nbf m) r, ?_, ?_⟩
      · refine List.nodup_append.mpr ⟨nd1, n', fun a m c m' z => ?_⟩
        subst z
        rcases s' a m' with m' | m'
        · exact nd3 a m a m' rfl
        · exact dj a m' (List.mem_append_left _ m)
      · intro a m
        rcases List.mem_append.mp m with m | m
        · exact .inl (List.mem_append_left _ m)
        · rcases s' a m with m | m
          · exact .inl (List.mem_append_right _ m)
          · exact .inr m
section
variable {X : Cx} {pos p2 : Pos}
theorem pat_ix2 {o i i2 : Expr} {x : Nat} {fr fr2 : Bool} {h h' : Rh → Option D} (ho : PE X o (tVar x)) (hi : PV.EP fr X i h) (hi2 : PV.EP fr2 X i2 h') (hsi : PlainIx i := by exact fun _ _ => rfl) (ha : ∀ v, assign (.Subscript (.Subscript o i p2) i2 pos) X.env v = (do
      let ov ← holding [v] (eval (.Subscript o i p2) X.env)
      let iv ← holding [v, ov] (eval i2 X.env)
      standAt pos
      holding [v, ov, iv] (setItem ov iv v)
      release [v, ov, iv] []) := by intro _; rfl) : PatOk X (.Subscript (.Subscript o i p2) i2 pos) (.ix2 x h h') := by
  obtain ⟨ti, pi, qi⟩ := hi
  obtain ⟨t2, pi2, qi2⟩ := hi2
  refine ⟨_, pg_sub (pe_ix ix_list ho pi hsi) pi2 set_list ha, fun F L ρ σ H f v d fp ρ' Q R fr e q => ?_, fun F L ρ σ H f v d fp ρ' Q R r hF e q => ?_⟩
  · simp only [patS] at e
    split at e
    · rename_i ds o' k k' e1 e2 e3 e4
      split at e
      · rename_i es e5
        split at e
        · rename_i es' e6
          split at e
          · rename_i ds' e7
            cases e
            obtain ⟨ex, wx⟩ := wr_some e2
            obtain ⟨u, eu, ru⟩ := R.rp x _ ex
            obtain ⟨ndx, nfx⟩ := R.nd x _ ex wx
            obtain ⟨i0, j, rfl, e8, rfl⟩ := ixSet_some e7
            obtain ⟨i1, j1, rfl, e9, rfl⟩ := ixSet_some e6
            have eds : ds[j]? = some (.list es) := by
              have e5' : atI ds i0 = some (.list es) := e5
              unfold atI at e5'
              rw [e8] at e5'
              exact e5'
            refine ⟨u, eu, qi ρ σ H _ _ R.rd e3 fun iv H1 fi s1 ri _ => ?_⟩
            have ru1 := ru.same s1
            have R1 := R.same s1
            have frp := fr.rp.same s1
            cases ri
            have djx : ∀ b ∈ fp, b ∉ f x := fun b m => fr.dj x _ ex b m
            generalize hfx : f x = fx at *
            cases ru1 with
            | lst h1 h2 h3 =>
              rename_i a xs fs
              obtain ⟨na, ndf⟩ := List.nodup_cons.mp ndx
              obtain ⟨b0, ys0, ev0, hb0, _, _, _⟩ := RpL.setIn frp fr.nd j1 j h3 ndf (fun c m m' => djx c m (List.mem_cons_of_mem _ m')) eds
              refine ⟨a, xs, i0, .ref b0, rfl, rfl, .inl (.inl h1), ?_, ?_⟩
              · unfold atI
                rw [h3.length, e8]
                exact ev0
              · refine qi2 ρ σ H1 _ _ R1.rd e4 fun iv2 H2 fi2 s2 ri2 _ => ?_
                cases ri2
                have R2 := R1.same s2
                have h3' := h3.same s2
                have frp2 := frp.same s2
                obtain ⟨b, ys, ev, hb, mb, hyl, fs', r', n', s'⟩ := RpL.setIn frp2 fr.nd j1 j h3' ndf (fun c m m' => djx c m (List.mem_cons_of_mem _ m')) eds
                rw [ev0] at ev; cases ev
                refine ⟨b0, ys, i1, j1, rfl, rfl, hb, by rw [hyl]; exact e9, ?_⟩
                have h1' := s2.at_ a _ h1 trivial
                have nab : a ≠ b0 := fun z => na (by rw [z]; exact mb)
                have na' : a ∉ fs' := fun m => (s' a m).elim na fun m' => djx a m' List.mem_cons_self
                have hm : Mut (H2 b0) := by rw [hb]; trivial
                have kne : Keep (fun c => c ≠ b0) H2 (upd H2 b0 (.lst (ys.set j1 v))) := keep_ne hm
                have rn : Rp X.K (upd H2 b0 (.lst (ys.set j1 v))) (.ref a) (.list (ds.set j (.list (es.set j1 d)))) (a :: fs') := .lst (by rw [upd_ne nab]; exact h1') h2 r'
                have := R2.mutate (H' := upd H2 b0 (.lst (ys.set j1 v))) ex wx eu rn (List.nodup_cons.mpr ⟨na', n'⟩)
                  (fun c m => by
                    rw [hfx]
                    rcases List.mem_cons.mp m with m | m
                    · rw [m]; exact .inl List.mem_cons_self
                    · rcases s' c m with m | m
                      · exact .inl (List.mem_cons_of_mem _ m)
                      · exact .inr ⟨fr.nf c m, fun l cc hl ec => fr.dj l cc ec c m⟩)
                  (kne.mono fun c hc z => by subst z; rw [hfx] at hc; exact hc (List.mem_cons_of_mem _ mb))
                exact q σ _ _ this.1 ((Keep.of_same (same_trans s1 s2)).trans this.2)
          · cases e
        · cases e
      · cases e
    · cases e
  · simp [patS] at e
end
end PV

set_option Elab.async false
set_option linter.all false
set_option maxRecDepth 100000
set_option maxHeartbeats 2000000
namespace PV
open PySem PySem.Spec PyProof.Rows L2
variable [TN]

/-! ### list(range(..)), tuple(range(..)) -/
theorem rpl_ints {K : PySem.W.Frag} {H : Hp} (f : Nat → Int) : ∀ l : List Nat, RpL K H (l.map fun i => V.int (f i)) (l.map fun i => PyData.int (f i)) []
  | [] => .nil
  | i :: l => .cons (f := []) (fs := []) (.int _) (rpl_ints f l)
theorem rg_rel {K : PySem.W.Frag} {H : Hp} (a b : Int) : RpL K H (rgV a b) (rangeD a (b - a).toNat) [] := rpl_ints (fun i => a + (i : Nat)) _
theorem rgOk_of {a b : Int} (h1 : a.natAbs ≤ 1000000) (h2 : b.natAbs ≤ 1000000) : RgOk a b := ⟨by omega, by omega, by omega, by omega, by omega⟩
def rgMk (w : List D → D) (x y : Option D) : Option D := match x, y with
  | some (.int a), some (.int b) => if a.natAbs ≤ 1000000 ∧ b.natAbs ≤ 1000000 then some (w (rangeD a (b - a).toNat)) else none
  | _, _ => none
def rgL1 (h : Rh → Option D) : Rh → Option D := fun ρ => rgMk .list (some (.int 0)) (h ρ)
def rgT1 (h : Rh → Option D) : Rh → Option D := fun ρ => rgMk .tuple (some (.int 0)) (h ρ)
def rgL2 (h h2 : Rh → Option D) : Rh → Option D := fun ρ => rgMk .list (h ρ) (h2 ρ)
def rgT2 (h h2 : Rh → Option D) : Rh → Option D := fun ρ => rgMk .tuple (h ρ) (h2 ρ)
theorem rgMk_some {w : List D → D} {x y : Option D} {z : D} (h : rgMk w x y = some z) : ∃ a b : Int, x = some (.int a) ∧ y = some (.int b) ∧ a.natAbs ≤ 1000000 ∧ b.natAbs ≤ 1000000 ∧ z = w (rangeD a (b - a).toNat) := by
  unfold rgMk at h
  split at h
  · split at h
    · rename_i a b hc
      cases h
      exact ⟨a, b, rfl, rfl, hc.1, hc.2, rfl⟩
    · cases h
  · cases h
section
variable {X : Cx} {a b : Expr} {fa fb : Bool} {h h2 : Rh → Option D} {p p2 pos pos2 : Pos}
theorem rg_line {x y : Int} (h1 : x.natAbs ≤ 1000000) (h2 : y.natAbs ≤ 1000000) : (rgV x y).length ≤ sizeLine := by
  rw [rgV_length, sizeLine_eq]; omega
theorem ep_rgL1 (hc : X.calm = true) (hg : Gl X "list") (hm : X.mg "list" = none) (hg2 : Gl X "range") (hm2 : X.mg "range" = none) (ha : PV.EP fa X a h)
    (na : starEach [a] X.env = (false, eval a X.env) :: starEach [] X.env := by rfl) (nb : starEach [.Call (.Name "range" p2) [a] [] pos2] X.env = (false, eval (.Call (.Name "range" p2) [a] [] pos2) X.env) :: starEach [] X.env := by rfl) :
    PV.EP true X (.Call (.Name "list" p) [.Call (.Name "range" p2) [a] [] pos2] [] pos) (rgL1 h) := by
  obtain ⟨t, pe, hq⟩ := ha
  refine ⟨_, pe_listRg hc hg hm (prg_1 hg2 hm2 pe na) nb, fun ρ σ H d Q R hd q => ?_⟩
  obtain ⟨x, y, e1, e2, c1, c2, rfl⟩ := rgMk_some hd
  cases e1
  refine hq ρ σ H _ _ R e2 fun v H1 fp s r _ => ?_
  cases r
  refine ⟨y, rfl, rgOk_of c1 c2, fun r nr => ?_⟩
  refine q _ _ [r] (same_trans s (same_upd nr)) (.lst upd_same (rg_line c1 c2) (rg_rel 0 y)) fun _ => ⟨List.nodup_cons.mpr ⟨fun m => (nomatch m), List.nodup_nil⟩, fun b m => ?_⟩
  rcases List.mem_cons.mp m with m | m
  · rw [m]; exact Same.new s nr
  · cases m
theorem ep_rgT1 (hc : X.calm = true) (hg : Gl X "tuple") (hm : X.mg "tuple" = none) (hg2 : Gl X "range") (hm2 : X.mg "range" = none) (ha : PV.EP fa X a h)
    (na : starEach [a] X.env = (false, eval a X.env) :: starEach [] X.env := by rfl) (nb : starEach [.Call (.Name "range" p2) [a] [] pos2] X.env = (false, eval (.Call (.Name "range" p2) [a] [] pos2) X.env) :: starEach [] X.env := by rfl) :
    PV.EP true X (.Call (.Name "tuple" p) [.Call (.Name "range" p2) [a] [] pos2] [] pos) (rgT1 h) := by
  obtain ⟨t, pe, hq⟩ := ha
  refine ⟨_, pe_tupRg hc hg hm (prg_1 hg2 hm2 pe na) nb, fun ρ σ H d Q R hd q => ?_⟩
  obtain ⟨x, y, e1, e2, c1, c2, rfl⟩ := rgMk_some hd
  cases e1
  refine hq ρ σ H _ _ R e2 fun v H1 fp s r _ => ?_
  cases r
  exact ⟨y, rfl, rgOk_of c1 c2, fun r nr => q _ _ [] (same_trans s (same_upd nr)) (.tup upd_same (rg_line c1 c2) (rg_rel 0 y)) fun _ => no_mem⟩
theorem ep_rgL2 (hc : X.calm = true) (hg : Gl X "list") (hm : X.mg "list" = none) (hg2 : Gl X "range") (hm2 : X.mg "range" = none) (ha : PV.EP fa X a h) (hb : PV.EP fb X b h2)
    (na : starEach [a, b] X.env = (false, eval a X.env) :: starEach [b] X.env := by rfl) (na2 : starEach [b] X.env = (false, eval b X.env) :: starEach [] X.env := by rfl) (hpl : (backTo pos2 (starEach [b] X.env)).any (·.1) = false := by rfl) (nb : starEach [.Call (.Name "range" p2) [a, b] [] pos2] X.env = (false, eval (.Call (.Name "range" p2) [a, b] [] pos2) X.env) :: starEach [] X.env := by rfl) :
    PV.EP true X (.Call (.Name "list" p) [.Call (.Name "range" p2) [a, b] [] pos2] [] pos) (rgL2 h h2) := by
  obtain ⟨t, pe, hq⟩ := ha
  obtain ⟨t2, pe2, hq2⟩ := hb
  refine ⟨_, pe_listRg hc hg hm (prg_2 hg2 hm2 pe pe2 na na2 hpl) nb, fun ρ σ H d Q R hd q => ?_⟩
  obtain ⟨x, y, e1, e2, c1, c2, rfl⟩ := rgMk_some hd
  refine hq ρ σ H _ _ R e1 fun v H1 fp s r _ => hq2 ρ σ H1 _ _ (R.same s) e2 fun u H2 fq s2 r2 _ => ?_
  cases r; cases r2
  refine ⟨x, y, rfl, rfl, rgOk_of c1 c2, fun r nr => ?_⟩
  refine q _ _ [r] (same_trans (same_trans s s2) (same_upd nr)) (.lst upd_same (rg_line c1 c2) (rg_rel x y)) fun _ => ⟨List.nodup_cons.mpr ⟨fun m => (nomatch m), List.nodup_nil⟩, fun b m => ?_⟩
  rcases List.mem_cons.mp m with m | m
  · rw [m]; exact Same.new (same_trans s s2) nr
  · cases m
end
/-! ### d.get(k, x) -/
def dgt2D (d k z : D) : Option D := match dlook d k with
  | some (some y) => some y
  | some none => some z
  | none => none
def dgt2 (h1 h2 h3 : Rh → Option D) : Rh → Option D := fun ρ => match h1 ρ, h2 ρ, h3 ρ with
  | some d, some k, some z => dgt2D d k z
  | _, _, _ => none
section
variable {X : Cx} {pos apos : Pos} {k : Nat} {o e f : Expr} {fa fb fc : Bool} {h1 h2 h3 : Rh → Option D}
theorem ep_dgt2 (hr : Room k X.A) (ha : PV.EP fa X o h1) (hb : PV.EP fb X e h2) (hc : PV.EP fc X f h3) (m : M2 X o "get" apos e f pos := by exact ⟨rfl, rfl, rfl, rfl⟩) : PV.EP false X (.Call (.Attribute o "get" apos) [e, f] [] pos) (dgt2 h1 h2 h3) := by
  obtain ⟨ta, pa, qa⟩ := ha
  obtain ⟨tb, pb, qb⟩ := hb
  obtain ⟨tc, pc, qc⟩ := hc
  refine ⟨_, pe_dget2 (units1 hr) pa pb pc m, fun ρ σ H d Q R h q => ?_⟩
  unfold dgt2 at h
  split at h
  · rename_i x y z0 e1 e2 e3
    refine qa ρ σ H x _ R e1 fun v H1 fp s r1 _ => ?_
    unfold dgt2D at h
    have isd : ∃ a, v = .ref a ∧ IsD H1 a := by
      have hd : ∃ kvs, x = .dict kvs := by
        cases x <;> first | exact ⟨_, rfl⟩ | (simp only [dlook, reduceCtorEq] at h)
      obtain ⟨kvs, rfl⟩ := hd
      cases r1 with
      | dct g1 g2 =>
        rcases g1 with ⟨hk, g1, _⟩ | ⟨hk, g1, _⟩
        · exact ⟨_, rfl, .inl ⟨hk, .inl g1⟩⟩
        · exact ⟨_, rfl, .inr ⟨hk, .inl g1⟩⟩
      | dcn g1 g2 =>
        obtain ⟨xs, g1, g3, _⟩ := g1
        cases kvs with
        | nil => simp at g3
        | cons q kvs =>
          obtain ⟨q1, q2⟩ := q
          simp only [List.map_cons, List.cons.injEq] at g3
          obtain ⟨g3, _⟩ := g3
          subst g3
          simp [dlook] at h
      | dcf g1 g2 =>
        rcases g1 with ⟨ob, hk, g1, _⟩ | ⟨ob, hk, g1, _⟩
        · exact ⟨_, rfl, .inl ⟨hk, .inr ⟨ob, g1⟩⟩⟩
        · exact ⟨_, rfl, .inr ⟨hk, .inr ⟨ob, g1⟩⟩⟩
    obtain ⟨a0, rfl, isd⟩ := isd
    refine ⟨a0, rfl, isd, qb ρ σ H1 y _ (R.same s) e2 fun u H2 fq s2 r2 _ => ?_⟩
    refine qc ρ σ H2 z0 _ ((R.same s).same s2) e3 fun u3 H3 f3 s3 r3 _ => ?_
    split at h
    · rename_i z e4
      cases h
      obtain ⟨a, ov, ea, g1, _, w, f, rfl, r4, _⟩ := dlook_ok ((r1.same s2).same s3) (r2.same s3) e4
      cases ea
      exact ⟨some w, g1, q w H3 f (same_trans (same_trans s s2) s3) r4 fun z => nomatch z⟩
    · rename_i e4
      cases h
      obtain ⟨a, ov, ea, g1, _, hn⟩ := dlook_ok ((r1.same s2).same s3) (r2.same s3) e4
      cases ea
      have : ov = none := hn
      subst this
      exact ⟨none, g1, q u3 H3 f3 (same_trans (same_trans s s2) s3) r3 fun z => nomatch z⟩
    · cases h
  · cases h
end
end PV

set_option Elab.async false
set_option linter.all false
set_option maxRecDepth 100000
set_option maxHeartbeats 2000000
namespace PV
open PySem PySem.Spec PyProof.Rows L2
variable [TN]

/-! ### {(k, ..): v}: a display of one pair, its key a tuple -/
def tDisp1T (tk tv : TE) : TE := fun σ H Q => ∀ p, H p = none → tk σ (upd H p (.dT [])) fun x H1 => tv σ H1 fun y H2 => ∃ (b : Addr) (ks : List Key), x = .ref b ∧ H2 b = some (.tup (ks.map kV)) ∧ H2 p = some (.dT []) ∧ Q (.ref p) (upd H2 p (.dT [(ks, y)]))
section
variable {X : Cx} {k v : Expr} {tk tv : TE} {pos : Pos}
theorem pe_disp1T (hu : X.A.units + 2 < cLine) (hk : PE X k tk) (hv : PE X v tv) : PE X (.Dict [some k] [v] pos) (tDisp1T tk tv) := by
  refine ⟨fun pins s σ H Q I q => ?_⟩
  have hn := I.hok.fresh (Nat.le_refl s.heap.objs.size)
  have I1 := I.laid (a := s.heap.objs.size) (o := .dT []) (h' := s.heap.push { cls := .type "dict", data := .dict #[] }) (t' := s.toks) (fun _ _ q => Heap.get?_push_of_some _ q) (Nat.le_refl _) (dt_empty s.heap I.big)
  refine wpAny_Dict_any rfl rfl (by simp) (by show 1 ≤ 15; decide) ?_
  refine pairTrees_cons_walk (thn (hk.run pins _ σ _ _ I1 (q _ hn)) fun u s1 ⟨x, H1, I2, rx, q1⟩ => thn (hv.run pins s1 σ H1 _ I2 q1) fun w2 s2 ⟨y, H2, I3, ry, b, ks, ex, eb, ep, q2⟩ => pairTrees_nil_walk ?_)
  subst ex
  obtain rfl : u = Value.ref b := rx
  obtain ⟨z, hd, xs, rel, dd⟩ := dt_of I3.hok ep
  have hx : xs = [] := by
    cases rel; rfl
  subst hx
  refine wpAny_storeAllH (knd := tupleKind (mixKind X.prog X.w)) ?_ [(.ref b, w2)] [(ks, b, w2)] [] s2 _ ⟨rfl, rfl, key_of I3.hok eb, trivial⟩ dd (by show 0 + 1 ≤ sizeLine; rw [sizeLine_eq]; omega) fun h' tk dd' hs => ?_
  · show X.A.units < cLine
    omega
  · obtain ⟨q', es, ep', hq, h2, h3, h4, _, h5⟩ := dd'
    have rel' : KT H2 [(ks, y)] [(ks, b, w2)] := KT.put (kvs := []) (xs := []) rel ks eb ry
    have hne : ∀ c ys, H2 c = some (.tup ys) → upd H2 s.heap.objs.size (.dT [(ks, y)]) c = some (.tup ys) := fun c ys ec => by
      rw [upd_ne (ne_of ec ep (fun z => nomatch z))]
      exact ec
    have new : ObjOk X.prog X.w (upd H2 s.heap.objs.size (.dT [(ks, y)])) h' s.heap.objs.size (.dT [(ks, y)]) :=
      show _ ∧ _ from ⟨by show 1 ≤ sizeLine; rw [sizeLine_eq]; omega, hd, _, rel'.keeps hne, q', es, ep', hq, h2, h3, h4, h5⟩
    exact ⟨.ref s.heap.objs.size, _, d_write I3 (by rw [ep]; exact True.intro) hs ⟨q', hq⟩ new, rfl, q2⟩
/-- {(i, ..): v} of ints and texts -/
def dsp1T (hk hv : Rh → Option D) : Rh → Option D := fun ρ => match hk ρ, hv ρ with
  | some k, some v => match tKey k with
    | some _ => if pureD v = true then some (.dict [(.none, .none), (k, v)]) else none
    | none => none
  | _, _ => none
theorem ep_dsp1T {kk : Nat} {fa fb : Bool} {hk hv : Rh → Option D} (hr : Room kk X.A) (ha : PV.EP fa X k hk) (hb : PV.EP fb X v hv) : PV.EP true X (.Dict [some k] [v] pos) (dsp1T hk hv) := by
  obtain ⟨ta, pa, qa⟩ := ha
  obtain ⟨tb, pb, qb⟩ := hb
  refine ⟨_, pe_disp1T (by have := hr.un; omega) pa pb, fun ρ σ H d Q R h q => ?_⟩
  unfold dsp1T at h
  split at h
  · rename_i kd vd e1 e2
    split at h
    · rename_i ks e3
      split at h
      · rename_i hp
        cases h
        intro p np
        have s0 : Same H (upd H p (.dT [])) := same_upd np
        refine qa ρ σ _ _ _ (R.same s0) e1 fun x H1 fp s1 r1 _ => qb ρ σ H1 _ _ ((R.same s0).same s1) e2 fun y H2 fq s2 r2 _ => ?_
        obtain ⟨b, rfl, eb⟩ := tKey_val (r1.same s2) e3
        have ep : H2 p = some (.dT []) := s2.at_ _ _ (s1.at_ _ _ upd_same trivial) trivial
        have hfq : fq = [] := Rp.pure _ _ _ r2 hp
        subst hfq
        have hm : Mut (H2 p) := by rw [ep]; trivial
        have kn : Keep (fun c => c ≠ p) H2 (upd H2 p (.dT [(ks, y)])) := keep_ne hm
        refine ⟨b, ks, rfl, eb, ep, q _ _ [p] (same_updD (same_trans s0 (same_trans s1 s2)) np kn) (.dct (vs := [.non, y]) (.inr ⟨[(ks, y)], upd_same, ?_, rfl⟩) (.cons (f := []) .non (.cons (f := []) (Rp.keep kn _ _ _ r2 fun a m => nomatch m) .nil))) fun _ => one_new np⟩
        · rw [tKey_inv e3]; rfl
      · cases h
    · cases h
  · cases h
end
end PV

set_option Elab.async false
set_option linter.all false
set_option maxRecDepth 100000
set_option maxHeartbeats 2000000
namespace PV
open PySem PySem.Spec PyProof.Rows L2
variable [TN]

/-! ### for .. in d: the dict is locked meanwhile -/
def okS : D → Bool
  | .list ds => pureL ds
  | .dict kvs => !locked (.dict kvs) && pureL (kvs.map (·.2))
  | d => pureD d
def okO (i : Nat) (ρ : Rh) : Prop := ∀ j c, j ≠ i → ρ[j]? = some (some c) → okS c.d = true
def okB (i : Nat) (ρ : Rh) : Bool := (List.range ρ.length).all fun j => decide (j = i) || match ρ[j]? with
  | some (some c) => okS c.d
  | _ => true
theorem okB_ok {i : Nat} {ρ : Rh} (h : okB i ρ = true) : okO i ρ := by
  intro j c hj e
  have hl := (List.getElem?_eq_some_iff.mp e).1
  have := List.all_eq_true.mp h j (List.mem_range.mpr hl)
  simp only [e, hj, decide_false, Bool.false_or] at this
  exact this
def lockP (i : Nat) (kvs : List (D × D)) (ρ : Rh) : Rh := ρ.set i (some ⟨.dict ((.bool true, .none) :: kvs), .pin⟩)
def sForD (i : Nat) (p : Pat) (b : Rh → Out) : Rh → Out := fun ρ => match ρ[i]? with
  | some (some ⟨.dict kvs, .own⟩) => if locked (.dict kvs) = false ∧ pureL (kvs.map (·.2)) = true then match sFor [] p (lift fun ρ => (getS i ρ).bind keysL) b (lockP i kvs ρ) with
      | .nx ρ' => if okB i ρ' = true then .nx (ρ'.set i (some ⟨.dict kvs, .own⟩)) else .no
      | _ => .no
    else .no
  | _ => .no
/-- what is not locked stands when the lock goes -/
theorem Rp.unlk {K : PySem.W.Frag} {H : Hp} {a : Addr} {od : Obj} {u : HO} (hz : H a = some (.frz od u)) : ∀ (d : D) (v : V) (fp : List Addr), Rp K H v d fp → okS d = true → Rp K (upd H a u) v d fp := by
  intro d v fp r ok
  have tupL : ∀ b xs, H b = some (.tup xs) → (upd H a u) b = some (.tup xs) := fun b xs hb => by
    rw [upd_ne (fun z => by subst z; rw [hz] at hb; cases hb)]; exact hb
  have pur : pureD d = true → Rp K (upd H a u) v d fp := fun hp => by
    have := Rp.pure _ _ _ r hp
    subst this
    exact Rp.move tupL _ _ _ r hp
  cases d with
  | none => exact pur rfl
  | bool b => exact pur rfl
  | int b => exact pur rfl
  | str b => exact pur rfl
  | tuple ds => exact pur ok
  | list ds =>
    cases r with
    | lst h1 h2 h3 =>
      have := RpL.pure _ _ _ h3 ok
      subst this
      exact .lst (by rw [upd_ne (fun z => by subst z; rw [hz] at h1; cases h1)]; exact h1) h2 (RpL.move tupL _ _ _ h3 ok)
  | dict kvs =>
    have ok' : locked (.dict kvs) = false ∧ pureL (kvs.map (·.2)) = true := by simpa [okS] using ok
    obtain ⟨a1, vs, fs, rfl, rfl, h1, h3⟩ := r.dctInv ok'.1
    have := RpL.pure _ _ _ h3 ok'.2
    subst this
    refine .dct ?_ (RpL.move tupL _ _ _ h3 ok'.2)
    rcases h1 with ⟨hk, g1, g2, g3⟩ | ⟨hk, g1, g2, g3⟩
    · exact .inl ⟨hk, by rw [upd_ne (fun z => by subst z; rw [hz] at g1; cases g1)]; exact g1, g2, g3⟩
    · exact .inr ⟨hk, by rw [upd_ne (fun z => by subst z; rw [hz] at g1; cases g1)]; exact g1, g2, g3⟩
section
variable {X : Cx} {st : Stmt} {i : Nat} {p : Pat} {b : Rh → Out}
open Classical in
theorem ss_forD (h : SS X st (sFor [] p (lift fun ρ => (getS i ρ).bind keysL) b)) : SS X st (sForD i p b) := by
  obtain ⟨t, ps, hq⟩ := h
  refine ⟨_, ps_lock ps, fun F L ρ σ H f D R gd => ?_⟩
  unfold sForD at gd
  split at gd
  · rename_i kvs ei
    split at gd
    · rename_i hc
      obtain ⟨hc1, hc2⟩ := hc
      obtain ⟨v, ev, rv⟩ := R.rp i _ ei
      obtain ⟨ndi, nfi⟩ := R.nd i _ ei rfl
      obtain ⟨a, vs, fs, rfl, hfi, hd, rl⟩ := rv.dctInv hc1
      have hfs : fs = [] := RpL.pure _ _ _ rl hc2
      subst hfs
      have hil : i < ρ.length := (List.getElem?_eq_some_iff.mp ei).1
      have aF : ¬ F.F a := nfi a (by rw [hfi]; simp)
      have aP : ¬ F.P a := R.pv i _ ei a (by rw [hfi]; simp)
      have aA : ¬ F.all a := fun z => z.elim aF aP
      have aj : ∀ j c, j ≠ i → ρ[j]? = some (some c) → a ∉ f j := fun j c hj ej => R.dj i j _ c (Ne.symm hj) ei rfl ej a (by rw [hfi]; simp)
      obtain ⟨u, hu, mu, hfz⟩ : ∃ u, H a = some u ∧ Mut (some u) ∧ ∀ o, IsFrz (upd H a (.frz o u)) a (.bool true :: kvs.map (·.1)) (.non :: vs) := by
        rcases hd with ⟨hk, g1, g2, g3⟩ | ⟨hk, g1, g2, g3⟩
        · exact ⟨_, g1, trivial, fun o => .inl ⟨o, hk, upd_same, by rw [g2], by rw [g3]⟩⟩
        · exact ⟨_, g1, trivial, fun o => .inr ⟨o, hk, upd_same, by rw [g2], by rw [g3]⟩⟩
      have hm : Mut (H a) := by rw [hu]; exact mu
      refine ⟨a, u, hu, mu, fun od => ?_⟩
      have kne : Keep (fun c => c ≠ a) H (upd H a (.frz od u)) := keep_ne hm
      have tupL : ∀ c xs, H c = some (.tup xs) → (upd H a (.frz od u)) c = some (.tup xs) := fun c xs hb => by
        rw [upd_ne (fun z => by subst z; rw [hu] at hb; cases hb; exact mu)]; exact hb
      have gi : ∀ c, (lockP i kvs ρ)[i]? = some (some c) → c = ⟨.dict ((.bool true, .none) :: kvs), .pin⟩ := fun c e => by
        unfold lockP at e
        rw [List.getElem?_set_self hil] at e
        cases e; rfl
      have gj : ∀ j, j ≠ i → (lockP i kvs ρ)[j]? = ρ[j]? := fun j hj => by
        unfold lockP
        rw [List.getElem?_set_ne (Ne.symm hj)]
      have RL : Rho X.K F (fun j => if j = i then some (.ref a) else L j) (lockP i kvs ρ) σ (upd H a (.frz od u)) (fun j => if j = i then [] else f j) := by
        refine ⟨kne.tab R.tb, by rw [R.len]; simp [lockP], fun c hF => ?_, fun j c e => ?_, fun j c e w => ?_, fun j c e => ?_, fun j l c c' hjl e w e' => ?_, fun j v hL => ?_⟩
        · have hca : c ≠ a := fun z => aA (z ▸ hF)
          rw [upd_ne hca]
          exact R.fok c hF
        · by_cases hj : j = i
          · subst hj
            rw [gi c e]
            exact ⟨.ref a, ev, by rw [if_pos rfl]; exact .dcf (vs := .non :: vs) (hfz od) (.cons (f := []) (fs := []) .non (RpL.move tupL _ _ _ rl hc2))⟩
          · rw [gj j hj] at e
            obtain ⟨v2, e2, r2⟩ := R.rp j c e
            exact ⟨v2, e2, by rw [if_neg hj]; exact Rp.keep kne _ _ _ r2 fun b m => fun z => aj j c hj e (z ▸ m)⟩
        · by_cases hj : j = i
          · rw [if_pos hj]; exact ⟨List.nodup_nil, fun _ m => nomatch m⟩
          · rw [if_neg hj]; rw [gj j hj] at e; exact R.nd j c e w
        · by_cases hj : j = i
          · rw [if_pos hj]; exact fun _ m => nomatch m
          · rw [if_neg hj]; rw [gj j hj] at e; exact R.pv j c e
        · by_cases hj : j = i
          · rw [if_pos hj]; exact fun _ m => nomatch m
          · rw [if_neg hj]
            by_cases hl : l = i
            · rw [if_pos hl]; exact fun _ _ m => nomatch m
            · rw [if_neg hl]; rw [gj j hj] at e; rw [gj l hl] at e'; exact R.dj j l c c' hjl e w e'
        · by_cases hj : j = i
          · rw [if_pos hj] at hL
            cases hL
            rw [hj]
            exact ⟨ev, _, by unfold lockP; rw [List.getElem?_set_self hil], rfl⟩
          · rw [if_neg hj] at hL
            rw [gj j hj]
            exact R.pin j v hL
      refine hq F _ (lockP i kvs ρ) σ _ _ _ RL ?_
      split at gd
      · rename_i ρ' e1
        rw [e1]
        split at gd
        · rename_i hok
          have ho := okB_ok hok
          intro σ' H' f' R' k'
          have hz : H' a = some (.frz od u) := k'.at_ a _ upd_same (.inr id) trivial
          refine ⟨hz, ?_⟩
          obtain ⟨ev', c0, ec0, _⟩ := R'.pin i (.ref a) (by rw [if_pos rfl])
          have hil' : i < ρ'.length := (List.getElem?_eq_some_iff.mp ec0).1
          have aj' : ∀ j c, ρ'[j]? = some (some c) → a ∉ f' j := fun j c e m => by
            obtain ⟨v2, _, r2⟩ := R'.rp j c e
            have := Rp.mut _ _ _ r2 a m
            rw [hz] at this
            exact this
          have tup2 : ∀ c xs, H c = some (.tup xs) → (upd H' a u) c = some (.tup xs) := fun c xs hb => by
            have hca : c ≠ a := fun z => by subst z; rw [hu] at hb; cases hb; exact mu
            rw [upd_ne hca]
            exact k'.at_ c _ (by rw [upd_ne hca]; exact hb) (.inr id) trivial
          have gi' : ∀ c, (ρ'.set i (some ⟨.dict kvs, .own⟩))[i]? = some (some c) → c = ⟨.dict kvs, .own⟩ := fun c e => by
            rw [List.getElem?_set_self hil'] at e
            cases e; rfl
          have gj' : ∀ j, j ≠ i → (ρ'.set i (some ⟨.dict kvs, .own⟩))[j]? = ρ'[j]? := fun j hj => by rw [List.getElem?_set_ne (Ne.symm hj)]
          refine gd σ' (upd H' a u) (fun j => if j = i then [a] else f' j) ⟨R'.tb.unlock hz mu, by rw [R'.len]; simp, fun c hF => ?_, fun j c e => ?_, fun j c e w => ?_, fun j c e => ?_, fun j l c c' hjl e w e' => ?_, fun j v hL => ?_⟩ ⟨fun c o hb hx nt => ?_, fun c hF z => ?_, fun t => (k'.tab (kne.tab t)).unlock hz mu⟩
          · have hca : c ≠ a := fun z => aA (z ▸ hF)
            rw [upd_ne hca]
            exact R'.fok c hF
          · by_cases hj : j = i
            · subst hj
              rw [gi' c e]
              refine ⟨.ref a, ev', ?_⟩
              rw [if_pos rfl]
              have rl2 := RpL.move tup2 _ _ _ rl hc2
              rcases hd with ⟨hk, g1, g2, g3⟩ | ⟨hk, g1, g2, g3⟩
              · rw [g1] at hu; cases hu
                exact .dct (fs := []) (.inl ⟨hk, upd_same, g2, g3⟩) rl2
              · rw [g1] at hu; cases hu
                exact .dct (fs := []) (.inr ⟨hk, upd_same, g2, g3⟩) rl2
            · rw [gj' j hj] at e
              obtain ⟨v2, e2, r2⟩ := R'.rp j c e
              exact ⟨v2, e2, by rw [if_neg hj]; exact Rp.unlk hz _ _ _ r2 (ho j c hj e)⟩
          · by_cases hj : j = i
            · rw [if_pos hj]
              exact ⟨by simp, fun b m => by rw [List.mem_singleton.mp m]; exact aF⟩
            · rw [if_neg hj]; rw [gj' j hj] at e; exact R'.nd j c e w
          · by_cases hj : j = i
            · rw [if_pos hj]; exact fun b m => by rw [List.mem_singleton.mp m]; exact aP
            · rw [if_neg hj]; rw [gj' j hj] at e; exact R'.pv j c e
          · by_cases hj : j = i
            · rw [if_pos hj]
              have hl : l ≠ i := fun z => hjl (hj.trans z.symm)
              rw [if_neg hl]
              rw [gj' l hl] at e'
              exact fun b m => by rw [List.mem_singleton.mp m]; exact aj' l c' e'
            · rw [if_neg hj]
              rw [gj' j hj] at e
              by_cases hl : l = i
              · rw [if_pos hl]
                exact fun b m m' => aj' j c e (by rw [← List.mem_singleton.mp m']; exact m)
              · rw [if_neg hl]; rw [gj' l hl] at e'; exact R'.dj j l c c' hjl e w e'
          · by_cases hj : j = i
            · subst hj
              obtain ⟨_, c3, ec3, op⟩ := R.pin j v hL
              rw [ei] at ec3
              cases ec3
              cases op
            · rw [gj' j hj]
              exact R'.pin j v (by rw [if_neg hj]; exact hL)
          · have hca : c ≠ a := fun z => by
              subst z
              rcases hx with hx | hx
              · exact aA hx
              · rw [hu] at hb; cases hb; exact hx mu
            rw [upd_ne hca]
            exact k'.at_ c o (by rw [upd_ne hca]; exact hb) hx nt
          · have hca : c ≠ a := fun z => aA (z ▸ hF)
            rw [upd_ne hca] at z
            have := k'.dom c hF z
            rw [upd_ne hca] at this; exact this
        · exact gd.elim
      · exact gd.elim
    · exact gd.elim
  · exact gd.elim
end
end PV

set_option Elab.async false
set_option linter.all false
set_option maxRecDepth 100000
set_option maxHeartbeats 2000000
namespace PV
open PySem PySem.Spec PyProof.Rows L2
variable [TN]
open PySem.Sem (wp)
/-! ### zip of two lists while its own tuple is out -/
section
variable {prog : Program} {w : World} {A : Around} {E : Value → Shared → Prop} {s : Shared}
/-- the zip's record, its own tuple out at T -/
abbrev ZipB (h : Heap) (z TI TO T : Addr) (fl : Bool) : Prop := h.get? z = some { cls := .type "zip", dict := none, data := .fields #[rawInt T, .bool fl, .bool false, .ref TI, .ref TO], slots := #[] }
theorem busy_free {z TI TO T : Addr} {fl : Bool} {o : Obj} {Q : Bool → Shared → Prop} (hz : ZipB s.heap z TI TO T fl) (hT : s.heap.get? T = some o)
    (hQ : ∀ h', ZipB h' z TI TO T true → Heap.SameBut z s.heap h' → Q false { s with heap := h' }) :
    wpAny (model prog w) A (Builtin.SmallTypes.ownedTupleIsFree (.ref z)) Q E s := by
  unfold Builtin.SmallTypes.ownedTupleIsFree
  refine wpAny_bind (wpAny_field hz rfl (x := rawInt T) rfl ?_)
  show wpAny _ _ (loadIfAlive ((T : Int)).toNat >>= _) _ _ _
  rw [Int.toNat_natCast]
  refine wpAny_bind (PySem.W.kdx_alive hT ?_)
  simp only [Option.isNone_some, Bool.false_eq_true, if_false]
  refine wpAny_bind (wpAny_field hz rfl (x := .bool fl) rfl ?_)
  cases fl with
  | true =>
    have : ((Value.bool true != Value.bool true) = true) = False := by simp
    rw [if_neg (by simp)]
    exact wpAny_pure (hQ s.heap hz (Heap.SameBut.refl _ _))
  | false =>
    rw [if_pos (by decide)]
    refine wpAny_bind (wpAny_setField_rec hz (by simp) fun h₁ hz₁ hs₁ => wpAny_pure ?_)
    exact hQ h₁ hz₁ hs₁
theorem busy_item {z TI TO T i1 i2 l1 l2 : Addr} {fl : Bool} {o : Obj} {k1 k2 : Nat} {xs ys : Array Value} {x y : Value} {Q : Value → Shared → Prop}
    (n1 : i1 ≠ z) (n2 : i2 ≠ z) (n3 : l1 ≠ z) (n4 : l2 ≠ z) (n5 : TI ≠ z) (n6 : i2 ≠ i1) (n7 : l2 ≠ i1)
    (hz : ZipB s.heap z TI TO T fl) (hT : s.heap.get? T = some o) (hTI : IsPair s.heap TI (.ref i1) (.ref i2))
    (h1 : s.heap.IsListIter i1 l1 k1) (h2 : s.heap.IsListIter i2 l2 k2) (hl1 : s.heap.IsList l1 xs) (hl2 : s.heap.IsList l2 ys) (hx : xs[k1]? = some x) (hy : ys[k2]? = some y)
    (hQ : ∀ h', ZipB h' z TI TO T true → h'.IsListIter i1 l1 (k1 + 1) → h'.IsListIter i2 l2 (k2 + 1) → IsPair h' s.heap.objs.size x y → h'.objs.size = s.heap.objs.size + 1 →
      (∀ c ob, c ≠ z → c ≠ i1 → c ≠ i2 → s.heap.get? c = some ob → h'.get? c = some ob) → Q (.ref s.heap.objs.size) { s with heap := h' }) :
    wpAny (model prog w) A (Builtin.«zip.__next__» ⟨[.ref z], []⟩) (fun fin s' => ∃ v, fin = .done (.ret v) ∧ Q v s') E s := by
  show wpAny _ _ (field (.ref z) 2 >>= _) _ _ _
  refine wpAny_bind (wpAny_field hz rfl (x := .bool false) rfl ?_)
  show wpAny _ _ (field (.ref z) 3 >>= _) _ _ _
  refine wpAny_bind (wpAny_field hz rfl (x := .ref TI) rfl ?_)
  refine wpAny_bind (wpAny_seqItems hTI rfl ?_)
  show wpAny _ _ (Builtin.SmallTypes.ownedTupleIsFree (.ref z) >>= _) _ _ _
  refine wpAny_bind (busy_free hz hT fun h₁ hz₁ hs₁ => ?_)
  simp only [Bool.false_eq_true, if_false]
  simp only [List.forIn_toArray, List.forIn_cons, List.forIn_nil]
  refine wpAny_bind (wpAny_bind (wpAny_bind (wpAny_holding ?_)))
  show wpAny _ _ (Builtin.SmallTypes.nextOf (.ref i1) >>= _) _ _ _
  have a1 := h1.extBut hs₁.extBut n1
  have a2 := hl1.extBut hs₁.extBut n3
  refine wpAny_bind (wpAny_nextOf_list_item a1 a2 hx fun h₂ h1₂ hs₂ => wpAny_pure ?_)
  refine wpAny_pure ?_
  refine wpAny_bind (wpAny_bind (wpAny_holding ?_))
  show wpAny _ _ (Builtin.SmallTypes.nextOf (.ref i2) >>= _) _ _ _
  have b1 := (h2.extBut hs₁.extBut n2).extBut hs₂.extBut n6
  have b2 := (hl2.extBut hs₁.extBut n4).extBut hs₂.extBut n7
  refine wpAny_bind (wpAny_nextOf_list_item b1 b2 hy fun h₃ h2₃ hs₃ => wpAny_pure ?_)
  refine wpAny_pure ?_
  refine wpAny_pure (wpAny_bind (wpAny_newTuple ?_ (by show 2 ≤ sizeLine; decide)))
  have hsz : h₃.objs.size = s.heap.objs.size := by rw [hs₃.1, hs₂.1, hs₁.1]
  have hk : ∀ c ob, c ≠ z → c ≠ i1 → c ≠ i2 → s.heap.get? c = some ob → h₃.get? c = some ob := fun c ob c1 c2 c3 e => hs₃.extBut _ _ c3 (hs₂.extBut _ _ c2 (hs₁.extBut _ _ c1 e))
  have hz₃ : ZipB h₃ z TI TO T true := hs₃.extBut _ _ n2.symm (hs₂.extBut _ _ n1.symm hz₁)
  have h1₃ : h₃.IsListIter i1 l1 (k1 + 1) := h1₂.extBut hs₃.extBut n6.symm
  have key := hQ (h₃.push { cls := .type "tuple", data := .seq #[x, y] }) (Heap.get?_push_of_some _ hz₃) (h1₃.at fun o q => Heap.get?_push_of_some _ q) (h2₃.at fun o q => Heap.get?_push_of_some _ q)
    (by rw [← hsz]; exact Heap.get?_push_size _ rfl) (by rw [Heap.size_push, hsz]) (fun c ob c1 c2 c3 e => Heap.get?_push_of_some _ (hk c ob c1 c2 c3 e))
  rw [← hsz] at key
  exact wpAny_pure ⟨_, rfl, key⟩
theorem busy_end {z TI TO T i1 i2 l1 l2 : Addr} {fl : Bool} {o : Obj} {k1 k2 : Nat} {xs ys : Array Value} {Q : PySem.Fin → Shared → Prop} (hh : A.handled = none)
    (n1 : i1 ≠ z) (n2 : i2 ≠ z) (n3 : l1 ≠ z) (n4 : l2 ≠ z) (n5 : TI ≠ z) (n6 : i2 ≠ i1) (n7 : l2 ≠ i1)
    (hz : ZipB s.heap z TI TO T fl) (hT : s.heap.get? T = some o) (hTI : IsPair s.heap TI (.ref i1) (.ref i2))
    (h1 : s.heap.IsListIter i1 l1 k1) (h2 : s.heap.IsListIter i2 l2 k2) (hl1 : s.heap.IsList l1 xs) (hl2 : s.heap.IsList l2 ys) (hend : xs[k1]? = none ∨ ys[k2]? = none)
    (hE : ∀ h' e, (∀ c ob, c ≠ z → c ≠ i1 → c ≠ i2 → s.heap.get? c = some ob → h'.get? c = some ob) → (∃ ob, h'.get? e = some ob ∧ ob.cls = .type "StopIteration") → E (.ref e) { s with heap := h' }) :
    wpAny (model prog w) A (Builtin.«zip.__next__» ⟨[.ref z], []⟩) Q E s := by
  show wpAny _ _ (field (.ref z) 2 >>= _) _ _ _
  refine wpAny_bind (wpAny_field hz rfl (x := .bool false) rfl ?_)
  show wpAny _ _ (field (.ref z) 3 >>= _) _ _ _
  refine wpAny_bind (wpAny_field hz rfl (x := .ref TI) rfl ?_)
  refine wpAny_bind (wpAny_seqItems hTI rfl ?_)
  show wpAny _ _ (Builtin.SmallTypes.ownedTupleIsFree (.ref z) >>= _) _ _ _
  refine wpAny_bind (busy_free hz hT fun h₁ hz₁ hs₁ => ?_)
  simp only [Bool.false_eq_true, if_false]
  simp only [List.forIn_toArray, List.forIn_cons, List.forIn_nil]
  refine wpAny_bind (wpAny_bind (wpAny_bind (wpAny_holding ?_)))
  show wpAny _ _ (Builtin.SmallTypes.nextOf (.ref i1) >>= _) _ _ _
  have a1 := h1.extBut hs₁.extBut n1
  have a2 := hl1.extBut hs₁.extBut n3
  by_cases hx : xs[k1]? = none
  · exact wpAny_bind (wpAny_nextOf_list_end hh a1 a2 hx fun h' e he ho => hE h' e (fun c ob c1 c2 c3 q => he c ob c2 (hs₁.extBut c ob c1 q)) ho)
  · obtain ⟨x, hx'⟩ := Option.ne_none_iff_exists'.mp hx
    have hy : ys[k2]? = none := hend.resolve_left hx
    refine wpAny_bind (wpAny_nextOf_list_item a1 a2 hx' fun h₂ h1₂ hs₂ => wpAny_pure ?_)
    refine wpAny_pure ?_
    refine wpAny_bind (wpAny_bind (wpAny_holding ?_))
    show wpAny _ _ (Builtin.SmallTypes.nextOf (.ref i2) >>= _) _ _ _
    have b1 := (h2.extBut hs₁.extBut n2).extBut hs₂.extBut n6
    have b2 := (hl2.extBut hs₁.extBut n4).extBut hs₂.extBut n7
    exact wpAny_bind (wpAny_nextOf_list_end hh b1 b2 hy fun h' e he ho => hE h' e (fun c ob c1 c2 c3 q => he c ob c3 (hs₂.extBut c ob c2 (hs₁.extBut c ob c1 q))) ho)
end
end PV

set_option Elab.async false
set_option linter.all false
set_option maxRecDepth 100000
set_option maxHeartbeats 2000000
namespace PV
open PySem PySem.Spec PyProof.Rows L2
variable [TN]
open PySem.Sem (wp)
/-! ### enumerate over any iterator whose next is told -/
section
variable {prog : Program} {w : World} {A : Around} {E : Value → Shared → Prop} {s : Shared}
theorem enumN_item {e it : Addr} {i : Nat} {x old : Value} {R : Heap → Prop} {Q : Value → Shared → Prop}
    (hn : ∀ {Q' : Value → Shared → Prop}, (∀ h', R h' → Q' x { s with heap := h' }) → wpAny (model prog w) A (Builtin.SmallTypes.nextOf (.ref it)) Q' E s)
    (he : IsEnum s.heap e it i old) (hR : ∀ h, R h → IsEnum h e it i old)
    (hQ : ∀ h₁ h', R h₁ → IsEnumOut h' e it ((i : Int) + 1) x h₁.objs.size →
      h'.get? h₁.objs.size = some { cls := .type "tuple", data := .seq #[.int i s.toks, x] } → h'.objs.size = h₁.objs.size + 1 →
      (∀ b o, b ≠ e → h₁.get? b = some o → h'.get? b = some o) → Q (.ref h₁.objs.size) { s with heap := h', toks := s.toks + 1 }) :
    wpAny (model prog w) A (Builtin.«enumerate.__next__» ⟨[.ref e], []⟩) (fun fin s' => ∃ v, fin = .done (.ret v) ∧ Q v s') E s := by
  obtain ⟨hp, g, d, tk, os⟩ := s
  show wpAny _ _ (field (.ref e) 2 >>= _) _ _ _
  refine wpAny_bind (wpAny_field he rfl (x := .ref it) rfl ?_)
  refine wpAny_bind (hn fun h₁ hr => ?_)
  have he₁ : IsEnum h₁ e it i old := hR h₁ hr
  show wpAny _ _ (field (.ref e) 3 >>= _) _ _ ⟨h₁, g, d, tk, os⟩
  refine wpAny_bind (wpAny_field he₁ rfl (x := rawInt i) rfl ?_)
  show wpAny _ _ (field (.ref e) 4 >>= _) _ _ ⟨h₁, g, d, tk, os⟩
  refine wpAny_bind (wpAny_field he₁ rfl (x := .none) rfl ?_)
  show wpAny _ _ (mkInt i >>= _) _ _ ⟨h₁, g, d, tk, os⟩
  refine wpAny_bind (wpAny_mkInt ?_)
  show wpAny _ _ (setField (.ref e) 3 (rawInt ((i : Int) + 1)) >>= _) _ _ ⟨h₁, g, d, tk + 1, os⟩
  refine wpAny_bind (wpAny_setField_rec he₁ (by simp) fun h₂ he₂ hs₂ => ?_)
  replace hs₂ : Heap.SameBut e h₁ h₂ := hs₂
  replace he₂ : IsEnum h₂ e it ((i : Int) + 1) old := he₂
  show wpAny _ _ (setField (.ref e) 4 .none >>= _) _ _ ⟨h₂, g, d, tk + 1, os⟩
  refine wpAny_bind (wpAny_setField_rec he₂ (by simp) fun h₃ he₃ hs₃ => ?_)
  replace hs₃ : Heap.SameBut e h₂ h₃ := hs₃
  replace he₃ : IsEnum h₃ e it ((i : Int) + 1) old := he₃
  show wpAny _ _ (newTuple [.int i tk, x] >>= _) _ _ ⟨h₃, g, d, tk + 1, os⟩
  refine wpAny_bind (wpAny_newTuple ?_)
  have he₄ : IsEnum (h₃.push { cls := .type "tuple", data := .seq #[.int i tk, x] }) e it ((i : Int) + 1) old := Heap.get?_push_of_some _ he₃
  generalize hh₄ : h₃.push { cls := .type "tuple", data := .seq #[.int i tk, x] } = h₄ at he₄
  have hsz : h₃.objs.size = h₁.objs.size := by rw [hs₃.1, hs₂.1]
  have hel : e < h₁.objs.size := Heap.lt_size he₁
  have ht₄ : h₄.get? h₁.objs.size = some { cls := .type "tuple", data := .seq #[.int i tk, x] } := by rw [← hh₄, ← hsz]; exact Heap.get?_push_size _ rfl
  have hz₄ : h₄.objs.size = h₁.objs.size + 1 := by rw [← hh₄, Heap.size_push, hsz]
  have hk₄ : ∀ b o, b ≠ e → h₁.get? b = some o → h₄.get? b = some o := fun b o hbe hb => by
    rw [← hh₄]; exact Heap.get?_push_of_some _ (hs₃.extBut b o hbe (hs₂.extBut b o hbe hb))
  show wpAny _ _ (Builtin.SmallTypes.ownedTupleIsFree (.ref e) >>= _) _ _ ⟨h₄, g, d, tk + 1, os⟩
  rw [hsz]
  clear hh₄ he₃ hs₃ he₂ hs₂ hsz h₃ h₂
  refine wpAny_bind ?_
  · unfold Builtin.SmallTypes.ownedTupleIsFree
    refine wpAny_bind (wpAny_field he₄ rfl (x := .none) rfl (wpAny_pure ?_))
    simp only [if_true]
    refine wpAny_bind (wpAny_rule ?_)
    refine wpAny_bind (wpAny_field he₄ rfl (x := old) rfl ?_)
    refine wpAny_bind (wpAny_setField_rec he₄ (by simp) fun h₅ he₅ hs₅ => ?_)
    replace hs₅ : Heap.SameBut e h₄ h₅ := hs₅
    replace he₅ : IsEnum h₅ e it ((i : Int) + 1) x := he₅
    show wpAny _ _ (Builtin.SmallTypes.ownedTupleHandOut (.ref e) (.ref h₁.objs.size) >>= _) _ _ ⟨h₅, g, d, tk + 1, os⟩
    refine wpAny_bind ?_
    · unfold Builtin.SmallTypes.ownedTupleHandOut
      refine wpAny_bind (wpAny_setField_rec he₅ (by simp) fun h₆ he₆ hs₆ => ?_)
      replace hs₆ : Heap.SameBut e h₅ h₆ := hs₆
      replace he₆ : IsEnumOut h₆ e it ((i : Int) + 1) x h₁.objs.size := he₆
      refine wpAny_setField_rec he₆ (by simp) fun h₇ he₇ hs₇ => ?_
      replace hs₇ : Heap.SameBut e h₆ h₇ := hs₇
      replace he₇ : IsEnumOut h₇ e it ((i : Int) + 1) x h₁.objs.size := he₇
      refine wpAny_bind (wpAny_letGo (wpAny_pure ⟨_, rfl, hQ h₁ h₇ hr he₇ ?_ ?_ ?_⟩))
      · exact hs₇.extBut _ _ (Nat.ne_of_gt hel) (hs₆.extBut _ _ (Nat.ne_of_gt hel) (hs₅.extBut _ _ (Nat.ne_of_gt hel) ht₄))
      · rw [hs₇.1, hs₆.1, hs₅.1, hz₄]
      · exact fun b o hbe hb => hs₇.extBut b o hbe (hs₆.extBut b o hbe (hs₅.extBut b o hbe (hk₄ b o hbe hb)))
/-- the next of a zip -/
theorem nextOf_zip {z : Addr} {Q : Value → Shared → Prop} (hz : s.TypeIs (.ref z) "zip") (h : wpAny (model prog w) A.in1 (Builtin.«zip.__next__» ⟨[.ref z], []⟩) (fun fin s' => ∃ v, fin = .done (.ret v) ∧ Q v s') E s) :
    wpAny (model prog w) A (Builtin.SmallTypes.nextOf (.ref z)) Q E s := by
  unfold Builtin.SmallTypes.nextOf
  refine wpAny_bind (wpAny_callSpecial?_slot (name := Str.ofString "__next__") hz F.slot_zip_next
    (wpAny_call_entry F.slot_zip_next hz F.entry_zip_next (wpAny_mono h (fun fin s' q => ?_) fun _ _ e => e) (F.args_zip_next_1 _)))
  obtain ⟨v, rfl, q⟩ := q
  exact ⟨v, rfl, wpAny_pure q⟩
end
end PV

set_option Elab.async false
set_option linter.all false
set_option maxRecDepth 100000
set_option maxHeartbeats 2000000
namespace PV
open PySem PySem.Spec PyProof.Rows L2
variable [TN]
open PySem.Sem (wp)
/-! ### zip of two lists whose own tuple is back, or gone -/
section
variable {prog : Program} {w : World} {A : Around} {E : Value → Shared → Prop} {s : Shared}
abbrev ZipG (hp : Heap) (z TI TO : Addr) (f0 : Value) (fl : Bool) : Prop := hp.get? z = some { cls := .type "zip", dict := none, data := .fields #[f0, .bool fl, .bool false, .ref TI, .ref TO], slots := #[] }
theorem look_gone {a : Addr} {Q : Option Obj → Shared → Prop} (ho : s.heap.get? a = none) (q : Q none s) : wpAny (model prog w) A (loadIfAlive a) Q E s := by
  have q' : Q (s.heap.get? a) s := by rw [ho]; exact q
  exact fun _ _ _ => q'
theorem gone_free {z TI TO T : Addr} {fl : Bool} {Q : Bool → Shared → Prop} (hz : ZipB s.heap z TI TO T fl) (hT : s.heap.get? T = none) (q : Q true s) :
    wpAny (model prog w) A (Builtin.SmallTypes.ownedTupleIsFree (.ref z)) Q E s := by
  unfold Builtin.SmallTypes.ownedTupleIsFree
  refine wpAny_bind (wpAny_field hz rfl (x := rawInt T) rfl ?_)
  show wpAny _ _ (loadIfAlive ((T : Int)).toNat >>= _) _ _ _
  rw [Int.toNat_natCast]
  refine wpAny_bind (look_gone hT ?_)
  simp only [Option.isNone_none, if_true]
  exact wpAny_pure q
theorem back_free {z TI TO : Addr} {fl : Bool} {Q : Bool → Shared → Prop} (hz : ZipG s.heap z TI TO .none fl) (q : Q true s) :
    wpAny (model prog w) A (Builtin.SmallTypes.ownedTupleIsFree (.ref z)) Q E s := by
  unfold Builtin.SmallTypes.ownedTupleIsFree
  exact wpAny_bind (wpAny_field hz rfl (x := .none) rfl (wpAny_pure q))
theorem free_item {z TI TO i1 i2 l1 l2 : Addr} {f0 : Value} {fl : Bool} {k1 k2 : Nat} {us vs : Array Value} {u v a b : Value} {Q : Value → Shared → Prop} (D : ZipApart z TI TO i1 i2 l1 l2)
    (hf : ∀ {Q' : Bool → Shared → Prop}, Q' true s → wpAny (model prog w) A (Builtin.SmallTypes.ownedTupleIsFree (.ref z)) Q' E s)
    (hz : ZipG s.heap z TI TO f0 fl) (hTI : IsPair s.heap TI (.ref i1) (.ref i2)) (hTO : IsPair s.heap TO a b)
    (it1 : s.heap.IsListIter i1 l1 k1) (it2 : s.heap.IsListIter i2 l2 k2) (ls1 : s.heap.IsList l1 us) (ls2 : s.heap.IsList l2 vs) (hu : us[k1]? = some u) (hv : vs[k2]? = some v)
    (hQ : ∀ g, ZipB g z TI TO s.heap.objs.size false → IsPair g TO u v → g.IsListIter i1 l1 (k1 + 1) → g.IsListIter i2 l2 (k2 + 1) → IsPair g s.heap.objs.size u v → g.objs.size = s.heap.objs.size + 1 →
      (∀ c o, c ≠ z → c ≠ TO → c ≠ i1 → c ≠ i2 → s.heap.get? c = some o → g.get? c = some o) → Q (.ref s.heap.objs.size) { s with heap := g }) :
    wpAny (model prog w) A (Builtin.«zip.__next__» ⟨[.ref z], []⟩) (fun fin s' => ∃ r, fin = .done (.ret r) ∧ Q r s') E s := by
  show wpAny _ _ (field (.ref z) 2 >>= _) _ _ _
  refine wpAny_bind (wpAny_field hz rfl (x := .bool false) rfl ?_)
  show wpAny _ _ (field (.ref z) 3 >>= _) _ _ _
  refine wpAny_bind (wpAny_field hz rfl (x := .ref TI) rfl ?_)
  refine wpAny_bind (wpAny_seqItems hTI rfl ?_)
  show wpAny _ _ (Builtin.SmallTypes.ownedTupleIsFree (.ref z) >>= _) _ _ _
  refine wpAny_bind (hf ?_)
  simp only [if_true]
  refine wpAny_bind (wpAny_rule ?_)
  refine wpAny_bind (wpAny_field hz rfl (x := .ref TO) rfl ?_)
  refine wpAny_bind (wpAny_setField_rec hz (by simp) fun ga za sa => ?_)
  replace za : ZipG ga z TI TO .ellipsis fl := za
  refine wpAny_bind ?_
  simp only [List.zipIdx_cons, List.zipIdx_nil, List.forIn_cons, List.forIn_nil]
  refine wpAny_bind (wpAny_bind (wpAny_onRaise ?_))
  show wpAny _ _ (Builtin.SmallTypes.nextOf (.ref i1) >>= _) _ _ _
  refine wpAny_bind (wpAny_nextOf_list_item (it1.extBut sa.extBut D.i1z) (ls1.extBut sa.extBut D.l1z) hu fun gb ib sb => wpAny_pure ?_)
  have tb : IsPair gb TO a b := sb.extBut _ _ D.TOi1 (sa.extBut _ _ D.TOz hTO)
  refine wpAny_bind (wpAny_seqItems tb rfl ?_)
  refine wpAny_bind (wpAny_updateSeq_pair tb fun gc tc sc => ?_)
  replace tc : IsPair gc TO u b := tc
  refine wpAny_bind (wpAny_letGo (wpAny_pure ?_))
  refine wpAny_bind (wpAny_bind (wpAny_onRaise ?_))
  show wpAny _ _ (Builtin.SmallTypes.nextOf (.ref i2) >>= _) _ _ _
  have jt := ((it2.extBut sa.extBut D.i2z).extBut sb.extBut D.i12.symm).extBut sc.extBut D.TOi2.symm
  have jl := ((ls2.extBut sa.extBut D.l2z).extBut sb.extBut D.l2i1).extBut sc.extBut D.l2TO
  refine wpAny_bind (wpAny_nextOf_list_item jt jl hv fun gd id' sd => wpAny_pure ?_)
  have td' : IsPair gd TO u b := sd.extBut _ _ D.TOi2 tc
  refine wpAny_bind (wpAny_seqItems td' rfl ?_)
  refine wpAny_bind (wpAny_updateSeq_pair td' fun ge te se => ?_)
  replace te : IsPair ge TO u v := te
  refine wpAny_bind (wpAny_letGo (wpAny_pure (wpAny_pure ?_)))
  refine wpAny_bind (wpAny_seqItems te rfl ?_)
  refine wpAny_bind (wpAny_newTuple ?_)
  have nsz : ge.objs.size = s.heap.objs.size := by rw [se.1, sd.1, sc.1, sb.1, sa.1]
  have ze : ZipG ge z TI TO .ellipsis fl := se.extBut _ _ D.TOz.symm (sd.extBut _ _ D.i2z.symm (sc.extBut _ _ D.TOz.symm (sb.extBut _ _ D.i1z.symm za)))
  have kp : ∀ c o, c ≠ z → c ≠ TO → c ≠ i1 → c ≠ i2 → s.heap.get? c = some o → ge.get? c = some o := fun c o d1 d2 d3 d4 q =>
    se.extBut _ _ d2 (sd.extBut _ _ d4 (sc.extBut _ _ d2 (sb.extBut _ _ d3 (sa.extBut _ _ d1 q))))
  have e1 : ge.IsListIter i1 l1 (k1 + 1) := ((ib.extBut sc.extBut D.TOi1.symm).extBut sd.extBut D.i12).extBut se.extBut D.TOi1.symm
  have e2 : ge.IsListIter i2 l2 (k2 + 1) := id'.extBut se.extBut D.TOi2.symm
  have lz : z < ge.objs.size := Heap.lt_size ze
  show wpAny _ _ (Builtin.SmallTypes.ownedTupleHandOut (.ref z) (.ref ge.objs.size) >>= _) _ _ _
  refine wpAny_bind ?_
  unfold Builtin.SmallTypes.ownedTupleHandOut
  have zf : ZipG (ge.push { cls := .type "tuple", data := .seq #[u, v] }) z TI TO .ellipsis fl := Heap.get?_push_of_some _ ze
  refine wpAny_bind (wpAny_setField_rec zf (by simp) fun gg zg sg => ?_)
  replace zg : ZipG gg z TI TO (rawInt ge.objs.size) fl := zg
  refine wpAny_setField_rec zg (by simp) fun gh zh sh => ?_
  replace zh : ZipB gh z TI TO ge.objs.size false := zh
  have upw : ∀ c o, c ≠ z → ge.get? c = some o → gh.get? c = some o := fun c o d1 q => sh.extBut _ _ d1 (sg.extBut _ _ d1 (Heap.get?_push_of_some _ q))
  have tT : IsPair gh ge.objs.size u v := sh.extBut _ _ (Nat.ne_of_gt lz) (sg.extBut _ _ (Nat.ne_of_gt lz) (Heap.get?_push_size _ rfl))
  have zs : gh.objs.size = ge.objs.size + 1 := by rw [sh.1, sg.1, Heap.size_push]
  rw [nsz] at zh tT zs
  refine wpAny_pure ⟨_, rfl, ?_⟩
  show Q (.ref ge.objs.size) _
  rw [nsz]
  exact hQ gh zh (upw _ _ D.TOz te) (e1.at fun o q => upw _ o D.i1z q) (e2.at fun o q => upw _ o D.i2z q) tT zs fun c o d1 d2 d3 d4 q => upw c o d1 (kp c o d1 d2 d3 d4 q)
end
end PV

set_option Elab.async false
set_option linter.all false
set_option maxRecDepth 100000
set_option maxHeartbeats 2000000
namespace PV
open PySem PySem.Spec PyProof.Rows L2
variable [TN]
open PySem.Sem (wp)
section
variable {prog : Program} {w : World} {A : Around} {E : Value → Shared → Prop} {s : Shared}
theorem free_end {z TI TO i1 i2 l1 l2 : Addr} {f0 : Value} {fl : Bool} {k1 k2 : Nat} {us vs : Array Value} {a b : Value} {Q : PySem.Fin → Shared → Prop} (hh : A.handled = none) (D : ZipApart z TI TO i1 i2 l1 l2)
    (hf : ∀ {Q' : Bool → Shared → Prop}, Q' true s → wpAny (model prog w) A (Builtin.SmallTypes.ownedTupleIsFree (.ref z)) Q' E s)
    (hz : ZipG s.heap z TI TO f0 fl) (hTI : IsPair s.heap TI (.ref i1) (.ref i2)) (hTO : IsPair s.heap TO a b)
    (it1 : s.heap.IsListIter i1 l1 k1) (it2 : s.heap.IsListIter i2 l2 k2) (ls1 : s.heap.IsList l1 us) (ls2 : s.heap.IsList l2 vs) (out : us[k1]? = none ∨ vs[k2]? = none)
    (hE : ∀ g e, (∀ c o, c ≠ z → c ≠ TO → c ≠ i1 → c ≠ i2 → s.heap.get? c = some o → g.get? c = some o) → (∃ o, g.get? e = some o ∧ o.cls = .type "StopIteration") → E (.ref e) { s with heap := g }) :
    wpAny (model prog w) A (Builtin.«zip.__next__» ⟨[.ref z], []⟩) Q E s := by
  show wpAny _ _ (field (.ref z) 2 >>= _) _ _ _
  refine wpAny_bind (wpAny_field hz rfl (x := .bool false) rfl ?_)
  show wpAny _ _ (field (.ref z) 3 >>= _) _ _ _
  refine wpAny_bind (wpAny_field hz rfl (x := .ref TI) rfl ?_)
  refine wpAny_bind (wpAny_seqItems hTI rfl ?_)
  show wpAny _ _ (Builtin.SmallTypes.ownedTupleIsFree (.ref z) >>= _) _ _ _
  refine wpAny_bind (hf ?_)
  simp only [if_true]
  refine wpAny_bind (wpAny_rule ?_)
  refine wpAny_bind (wpAny_field hz rfl (x := .ref TO) rfl ?_)
  refine wpAny_bind (wpAny_setField_rec hz (by simp) fun ga za sa => ?_)
  replace za : ZipG ga z TI TO .ellipsis fl := za
  refine wpAny_bind ?_
  simp only [List.zipIdx_cons, List.zipIdx_nil, List.forIn_cons, List.forIn_nil]
  refine wpAny_bind (wpAny_bind (wpAny_onRaise ?_))
  show wpAny _ _ (Builtin.SmallTypes.nextOf (.ref i1) >>= _) _ _ _
  have ja := it1.extBut sa.extBut D.i1z
  have ka := ls1.extBut sa.extBut D.l1z
  by_cases hu : us[k1]? = none
  · refine wpAny_bind (wpAny_nextOf_list_end hh ja ka hu fun gb e sb he => ?_)
    obtain ⟨oe, ge, ce⟩ := he
    have zb : ZipG gb z TI TO .ellipsis fl := sb _ _ D.i1z.symm za
    have nez : e ≠ z := fun q => by subst q; rw [zb] at ge; cases ge; simp at ce
    refine wpAny_setField_rec zb (by simp) fun gc _ sc => hE gc e (fun c o d1 _ d3 _ q => sc.extBut _ _ d1 (sb _ _ d3 (sa.extBut _ _ d1 q))) ⟨oe, sc.extBut _ _ nez ge, ce⟩
  · obtain ⟨u, hu'⟩ := Option.ne_none_iff_exists'.mp hu
    have hv : vs[k2]? = none := out.resolve_left hu
    refine wpAny_bind (wpAny_nextOf_list_item ja ka hu' fun gb ib sb => wpAny_pure ?_)
    have tb : IsPair gb TO a b := sb.extBut _ _ D.TOi1 (sa.extBut _ _ D.TOz hTO)
    refine wpAny_bind (wpAny_seqItems tb rfl ?_)
    refine wpAny_bind (wpAny_updateSeq_pair tb fun gc tc sc => ?_)
    refine wpAny_bind (wpAny_letGo (wpAny_pure ?_))
    refine wpAny_bind (wpAny_bind (wpAny_onRaise ?_))
    show wpAny _ _ (Builtin.SmallTypes.nextOf (.ref i2) >>= _) _ _ _
    have jt := ((it2.extBut sa.extBut D.i2z).extBut sb.extBut D.i12.symm).extBut sc.extBut D.TOi2.symm
    have jl := ((ls2.extBut sa.extBut D.l2z).extBut sb.extBut D.l2i1).extBut sc.extBut D.l2TO
    refine wpAny_bind (wpAny_nextOf_list_end hh jt jl hv fun gd e sd he => ?_)
    obtain ⟨oe, ge, ce⟩ := he
    have zd : ZipG gd z TI TO .ellipsis fl := sd _ _ D.i2z.symm (sc.extBut _ _ D.TOz.symm (sb.extBut _ _ D.i1z.symm za))
    have nez : e ≠ z := fun q => by subst q; rw [zd] at ge; cases ge; simp at ce
    refine wpAny_setField_rec zd (by simp) fun gf _ sf => hE gf e (fun c o d1 d2 d3 d4 q => sf.extBut _ _ d1 (sd _ _ d4 (sc.extBut _ _ d2 (sb.extBut _ _ d3 (sa.extBut _ _ d1 q))))) ⟨oe, sf.extBut _ _ nez ge, ce⟩
/-- the zip's record, whatever its own tuple -/
def ZSt (g : Heap) (z TI TO : Addr) : Prop := (∃ fl, ZipG g z TI TO .none fl) ∨ ∃ T fl, ZipB g z TI TO T fl
theorem ZSt.typeIs {z TI TO : Addr} (h : ZSt s.heap z TI TO) : s.TypeIs (.ref z) "zip" := by
  rcases h with ⟨fl, h⟩ | ⟨T, fl, h⟩
  · exact ⟨_, h, rfl⟩
  · exact ⟨_, h, rfl⟩
theorem any_item {z TI TO i1 i2 l1 l2 : Addr} {k1 k2 : Nat} {us vs : Array Value} {u v a b : Value} {Q : Value → Shared → Prop} (D : ZipApart z TI TO i1 i2 l1 l2)
    (hz : ZSt s.heap z TI TO) (hTI : IsPair s.heap TI (.ref i1) (.ref i2)) (hTO : IsPair s.heap TO a b)
    (it1 : s.heap.IsListIter i1 l1 k1) (it2 : s.heap.IsListIter i2 l2 k2) (ls1 : s.heap.IsList l1 us) (ls2 : s.heap.IsList l2 vs) (hu : us[k1]? = some u) (hv : vs[k2]? = some v)
    (hQ : ∀ g, ZSt g z TI TO → (∃ a' b', IsPair g TO a' b') → g.IsListIter i1 l1 (k1 + 1) → g.IsListIter i2 l2 (k2 + 1) → IsPair g s.heap.objs.size u v → g.objs.size = s.heap.objs.size + 1 →
      (∀ c o, c ≠ z → c ≠ TO → c ≠ i1 → c ≠ i2 → s.heap.get? c = some o → g.get? c = some o) → Q (.ref s.heap.objs.size) { s with heap := g }) :
    wpAny (model prog w) A (Builtin.«zip.__next__» ⟨[.ref z], []⟩) (fun fin s' => ∃ r, fin = .done (.ret r) ∧ Q r s') E s := by
  rcases hz with ⟨fl, hz⟩ | ⟨T, fl, hz⟩
  · exact free_item D (fun q => back_free hz q) hz hTI hTO it1 it2 ls1 ls2 hu hv fun g h1 h2 h3 h4 h5 h6 h7 => hQ g (.inr ⟨_, _, h1⟩) ⟨_, _, h2⟩ h3 h4 h5 h6 h7
  · cases hT : s.heap.get? T with
    | none => exact free_item D (fun q => gone_free hz hT q) hz hTI hTO it1 it2 ls1 ls2 hu hv fun g h1 h2 h3 h4 h5 h6 h7 => hQ g (.inr ⟨_, _, h1⟩) ⟨_, _, h2⟩ h3 h4 h5 h6 h7
    | some o => exact busy_item D.i1z D.i2z D.l1z D.l2z D.TIz D.i12.symm D.l2i1 hz hT hTI it1 it2 ls1 ls2 hu hv fun g h1 h3 h4 h5 h6 h7 => hQ g (.inr ⟨_, _, h1⟩) ⟨_, _, h7 _ _ D.TOz D.TOi1 D.TOi2 hTO⟩ h3 h4 h5 h6 fun c ob c1 _ c3 c4 e => h7 c ob c1 c3 c4 e
theorem any_end {z TI TO i1 i2 l1 l2 : Addr} {k1 k2 : Nat} {us vs : Array Value} {a b : Value} {Q : PySem.Fin → Shared → Prop} (hh : A.handled = none) (D : ZipApart z TI TO i1 i2 l1 l2)
    (hz : ZSt s.heap z TI TO) (hTI : IsPair s.heap TI (.ref i1) (.ref i2)) (hTO : IsPair s.heap TO a b)
    (it1 : s.heap.IsListIter i1 l1 k1) (it2 : s.heap.IsListIter i2 l2 k2) (ls1 : s.heap.IsList l1 us) (ls2 : s.heap.IsList l2 vs) (out : us[k1]? = none ∨ vs[k2]? = none)
    (hE : ∀ g e, (∀ c o, c ≠ z → c ≠ TO → c ≠ i1 → c ≠ i2 → s.heap.get? c = some o → g.get? c = some o) → (∃ o, g.get? e = some o ∧ o.cls = .type "StopIteration") → E (.ref e) { s with heap := g }) :
    wpAny (model prog w) A (Builtin.«zip.__next__» ⟨[.ref z], []⟩) Q E s := by
  rcases hz with ⟨fl, hz⟩ | ⟨T, fl, hz⟩
  · exact free_end hh D (fun q => back_free hz q) hz hTI hTO it1 it2 ls1 ls2 out hE
  · cases hT : s.heap.get? T with
    | none => exact free_end hh D (fun q => gone_free hz hT q) hz hTI hTO it1 it2 ls1 ls2 out hE
    | some o => exact busy_end hh D.i1z D.i2z D.l1z D.l2z D.TIz D.i12.symm D.l2i1 hz hT hTI it1 it2 ls1 ls2 out fun g e h1 h2 => hE g e (fun c ob c1 _ c3 c4 q => h1 c ob c1 c3 c4 q) h2
end
end PV

set_option Elab.async false
set_option linter.all false
set_option maxRecDepth 100000
set_option maxHeartbeats 2000000
namespace PV
open PySem PySem.Spec PyProof.Rows L2
variable [TN]
open PySem.Sem (wp)
section
variable {prog : Program} {w : World} {A : Around} {E : Value → Shared → Prop} {s : Shared}
theorem enumN_next {e it : Addr} {i : Nat} {x old : Value} {R : Heap → Prop} {Q : Option Value → Shared → Prop}
    (hn : ∀ {Q' : Value → Shared → Prop} {E' : Value → Shared → Prop}, (∀ h', R h' → Q' x { s with heap := h' }) → wpAny (model prog w) A.in1 (Builtin.SmallTypes.nextOf (.ref it)) Q' E' s)
    (he : IsEnum s.heap e it i old) (hR : ∀ h, R h → IsEnum h e it i old)
    (hQ : ∀ h₁ h', R h₁ → IsEnumOut h' e it ((i : Int) + 1) x h₁.objs.size →
      h'.get? h₁.objs.size = some { cls := .type "tuple", data := .seq #[.int i s.toks, x] } → h'.objs.size = h₁.objs.size + 1 →
      (∀ b o, b ≠ e → h₁.get? b = some o → h'.get? b = some o) → Q (some (.ref h₁.objs.size)) { s with heap := h', toks := s.toks + 1 }) :
    wpAny (model prog w) A (pyNext (.ref e)) Q E s := by
  have ty : s.TypeIs (.ref e) "enumerate" := ⟨_, he, rfl⟩
  unfold pyNext
  exact wpAny_bind (wpAny_attempt (wpAny_callSpecial?_slot (name := Str.ofString "__next__") ty F.slot_enumerate_next
    (wpAny_call_entry F.slot_enumerate_next ty F.entry_enumerate_next
      (enumN_item hn he hR fun g1 g a1 a2 a3 a4 a5 => wpAny_pure (hQ g1 g a1 a2 a3 a4 a5)) (F.args_enumerate_next_1 _))))
theorem enumN_end {e it : Addr} {i : Int} {old : Value} {R : Heap → Prop} {Q : Option Value → Shared → Prop}
    (hn : ∀ {Q' : Value → Shared → Prop} {E' : Value → Shared → Prop}, (∀ g x, R g → (∃ o, g.get? x = some o ∧ o.cls = .type "StopIteration") → E' (.ref x) { s with heap := g }) → wpAny (model prog w) A.in1 (Builtin.SmallTypes.nextOf (.ref it)) Q' E' s)
    (he : IsEnum s.heap e it i old) (hQ : ∀ g, R g → Q none { s with heap := g }) : wpAny (model prog w) A (pyNext (.ref e)) Q E s := by
  have ty : s.TypeIs (.ref e) "enumerate" := ⟨_, he, rfl⟩
  unfold pyNext
  refine wpAny_bind (wpAny_attempt (wpAny_callSpecial?_slot (name := Str.ofString "__next__") ty F.slot_enumerate_next
    (wpAny_call_entry F.slot_enumerate_next ty F.entry_enumerate_next ?_ (F.args_enumerate_next_1 _))))
  show wpAny _ _ (field (.ref e) 2 >>= _) _ _ _
  refine wpAny_bind (wpAny_field he rfl (x := .ref it) rfl ?_)
  refine wpAny_bind (hn fun g x hr ho => ?_)
  obtain ⟨o, go, co⟩ := ho
  refine wpAny_bind (wpAny_isInstance (T := "StopIteration") (b := true) ⟨o, go, co⟩ isSubtype_stop ?_)
  exact wpAny_pure (hQ g hr)
end
/-- enumerate(a zip) -/
theorem meets_enumZ (z TI TO : Addr) :
    Meets (Builtin.«enumerate.__new__» ⟨[.type "enumerate", .ref z], []⟩) (fun _ R s => IsZip s.heap z TI TO .none ∧
      R (.ok (.ret (.ref s.heap.objs.size))) { s with heap := s.heap.push { cls := .type "enumerate", data := .fields #[.none, .bool false, .ref z, rawInt 0, .none, .none] } }) :=
  .of_wp fun prog w A R s h => by
    obtain ⟨hp, gs, dd, tk, os⟩ := s
    obtain ⟨hz, h⟩ := h
    have hse := sub_enumerate
    wp_walk
    refine wpAny_stack_any fun stk => wpAny_pure ?_
    split
    · rename_i c _ _ _ _ _
      cases (c == Value.type "enumerate")
      · wp_walk using wpAny_pyIter_zip hz
        exact ⟨_, rfl, h⟩
      · wp_walk using wpAny_pyIter_zip hz
        exact ⟨_, rfl, h⟩
    · wp_walk using wpAny_pyIter_zip hz
      exact ⟨_, rfl, h⟩
end PV

set_option Elab.async false
set_option linter.all false
set_option maxRecDepth 100000
set_option maxHeartbeats 2000000
namespace PV
open PySem PySem.Spec PyProof.Rows L2
variable [TN]
open PySem.Sem (wp)
/-- the lists at a and b, item by item, in new pairs, these in new pairs with their numbers -/
def IteZ (K : PySem.W.Frag) (a b : Addr) : It :=
  ⟨fun i H => ∃ (xs ys : List V) (x y : V), SqL K H a xs ∧ SqL K H b ys ∧ xs[i]? = some x ∧ ys[i]? = some y,
    fun i H v H' => ∃ T2 T x y, v = .ref T ∧ H T2 = none ∧ (upd H T2 (.tup [x, y])) T = none ∧ H' = upd (upd H T2 (.tup [x, y])) T (.tup [.int (i : Nat), .ref T2]) ∧ (∀ xs, SqL K H a xs → xs[i]? = some x) ∧ ∀ ys, SqL K H b ys → ys[i]? = some y,
    fun i H => ∃ xs ys : List V, SqL K H a xs ∧ SqL K H b ys ∧ (xs.length ≤ i ∨ ys.length ≤ i)⟩
structure EzApart (e z TI TO i1 i2 a b : Addr) : Prop where
  z : e ≠ z
  TI : e ≠ TI
  TO : e ≠ TO
  i1 : e ≠ i1
  i2 : e ≠ i2
theorem turn_enumZ {P : Program} {w : World} {K : PySem.W.Frag} {elts : List Expr} {kk : Nat} {tpos : Pos} {e z TI TO i1 i2 a b : Addr} (D : ZipApart z TI TO i1 i2 a b) (N : EzApart e z TI TO i1 i2 a b) :
    Turn P w K (.Tuple elts kk tpos) (IteZ K a b) [e, z, TI, TO, i1, i2] e (fun i h => (∃ old, IsEnum h e z ((i : Nat) : Int) old) ∧ ZSt h z TI TO ∧ IsPair h TI (.ref i1) (.ref i2) ∧ (∃ x y, IsPair h TO x y) ∧ h.IsListIter i1 a i ∧ h.IsListIter i2 b i) where
  mem := by simp
  obj := fun i h st c hc => by
    obtain ⟨⟨old, he⟩, hz, hTI, ⟨x, y, hTO⟩, ⟨o1, e1, _, d1⟩, ⟨o2, e2, _, d2⟩⟩ := st
    have e' : c = e ∨ c = z ∨ c = TI ∨ c = TO ∨ c = i1 ∨ c = i2 := by simpa using hc
    rcases e' with q | q | q | q | q | q
    · rw [q]; exact ⟨_, he, fun v q => nomatch q⟩
    · rw [q]
      rcases hz with ⟨fl, hz⟩ | ⟨T, fl, hz⟩
      · exact ⟨_, hz, fun v q => nomatch q⟩
      · exact ⟨_, hz, fun v q => nomatch q⟩
    · rw [q]; exact ⟨_, hTI, fun v q => nomatch q⟩
    · rw [q]; exact ⟨_, hTO, fun v q => nomatch q⟩
    · rw [q]; exact ⟨o1, e1, fun v q => by rw [d1] at q; cases q⟩
    · rw [q]; exact ⟨o2, e2, fun v q => by rw [d2] at q; cases q⟩
  keep := fun i h h' st k => by
    obtain ⟨⟨old, he⟩, hz, hTI, ⟨x, y, hTO⟩, h1, h2⟩ := st
    refine ⟨⟨old, k e (by simp) _ he⟩, ?_, k TI (by simp) _ hTI, ⟨x, y, k TO (by simp) _ hTO⟩, h1.at fun o q => k i1 (by simp) o q, h2.at fun o q => k i2 (by simp) o q⟩
    rcases hz with ⟨fl, hz⟩ | ⟨T, fl, hz⟩
    · exact .inl ⟨fl, k z (by simp) _ hz⟩
    · exact .inr ⟨T, fl, k z (by simp) _ hz⟩
  item := by
    intro X eP eW eK hc i pins s σ H E I hf st hg
    subst eP eW eK
    obtain ⟨⟨old, he⟩, hz, hTI, ⟨x0, y0, hTO⟩, h1, h2⟩ := st
    obtain ⟨xs, ys, x, y, hqx, hqy, hx, hy⟩ := hg
    obtain ⟨its, rv, p1, _⟩ := I.list hqx
    obtain ⟨its2, rv2, p2, _⟩ := I.list hqy
    obtain ⟨u, hu, ru⟩ := rv.get hx
    obtain ⟨u2, hu2, ru2⟩ := rv2.get hy
    have chk : ∀ c ∈ [e, z, TI, TO, i1, i2], c < s.heap.objs.size := fun c hcm => by
      have e' : c = e ∨ c = z ∨ c = TI ∨ c = TO ∨ c = i1 ∨ c = i2 := by simpa using hcm
      rcases e' with q | q | q | q | q | q
      · rw [q]; exact Heap.lt_size he
      · rw [q]
        rcases hz with ⟨fl, hz⟩ | ⟨T, fl, hz⟩
        · exact Heap.lt_size hz
        · exact Heap.lt_size hz
      · rw [q]; exact Heap.lt_size hTI
      · rw [q]; exact Heap.lt_size hTO
      · rw [q]; obtain ⟨_, e1, _⟩ := h1; exact Heap.lt_size e1
      · rw [q]; obtain ⟨_, e2, _⟩ := h2; exact Heap.lt_size e2
    let R : Heap → Prop := fun g => ZSt g z TI TO ∧ (∃ a' b', IsPair g TO a' b') ∧ g.IsListIter i1 a (i + 1) ∧ g.IsListIter i2 b (i + 1) ∧ IsPair g s.heap.objs.size u u2 ∧ g.objs.size = s.heap.objs.size + 1 ∧
      (∀ c o, c ≠ z → c ≠ TO → c ≠ i1 → c ≠ i2 → s.heap.get? c = some o → g.get? c = some o)
    refine enumN_next (x := .ref s.heap.objs.size) (R := R) (fun {Q' E'} q => ?_) he (fun g r => r.2.2.2.2.2.2 e _ N.z N.TO N.i1 N.i2 he) fun g1 g r ho hT hsz hk => ?_
    · exact nextOf_zip (ZSt.typeIs hz) (any_item D hz hTI hTO h1 h2 p1.isList p2.isList (u := u) (v := u2) (by simpa using hu) (by simpa using hu2) fun g a1 a2 a3 a4 a5 a6 a7 => q g ⟨a1, a2, a3, a4, a5, a6, a7⟩)
    · obtain ⟨r1, ⟨a', b', r2⟩, r3, r4, r5, r6, r7⟩ := r
      refine ⟨_, rfl, wpAny_letOwnedTupleGo_enum (s := { s with heap := g, toks := s.toks + 1 }) ho fun g2 he2 sb => ?_⟩
      have kk : ∀ c ob, c ≠ e → g1.get? c = some ob → g2.get? c = some ob := fun c ob d1 q => (sb.2 c d1).trans (hk c ob d1 q)
      have n1 : ObjOk X.prog X.w (upd H s.heap.objs.size (.tup [x, y])) g1 s.heap.objs.size (.tup [x, y]) :=
        ⟨by show 2 ≤ sizeLine; decide, [u, u2], .cons ru (.cons ru2 .nil), ⟨_, r5, rfl, _, rfl⟩⟩
      have I1 : Inv X pins σ (upd H s.heap.objs.size (.tup [x, y])) { s with heap := g1, toks := s.toks } :=
        I.turnedNew (t' := s.toks) (ch := [e, z, TI, TO, i1, i2]) (fun c o hb q => r7 c o (fun q' => hb (by simp [q'])) (fun q' => hb (by simp [q'])) (fun q' => hb (by simp [q'])) (fun q' => hb (by simp [q'])) q) hf (Nat.le_refl _) n1
      have hf1 : ∀ c ∈ [e, z, TI, TO, i1, i2], FpOk X pins (upd H s.heap.objs.size (.tup [x, y])) c := fun c hcm => by
        obtain ⟨f1, f2⟩ := hf c hcm
        exact ⟨by rw [upd_ne (Nat.ne_of_lt (chk c hcm))]; exact f1, f2⟩
      have elt : e < s.heap.objs.size := chk e (by simp)
      have ne1 : g1.objs.size ≠ e := Nat.ne_of_gt (by rw [r6]; exact Nat.lt_succ_of_lt elt)
      have hT2 : g2.get? g1.objs.size = some { cls := .type "tuple", data := .seq #[.int i s.toks, .ref s.heap.objs.size] } := (sb.2 _ ne1).trans hT
      have n2 : ObjOk X.prog X.w (upd (upd H s.heap.objs.size (.tup [x, y])) g1.objs.size (.tup [.int (i : Nat), .ref s.heap.objs.size])) g2 g1.objs.size (.tup [.int (i : Nat), .ref s.heap.objs.size]) :=
        ⟨by show 2 ≤ sizeLine; decide, [.int i s.toks, .ref s.heap.objs.size], .cons ⟨_, rfl⟩ (.cons rfl .nil), ⟨_, hT2, rfl, _, rfl⟩⟩
      have I2 : Inv X pins σ (upd (upd H s.heap.objs.size (.tup [x, y])) g1.objs.size (.tup [.int (i : Nat), .ref s.heap.objs.size])) { s with heap := g2, toks := s.toks + 1 } :=
        I1.turnedNew (t' := s.toks + 1) (ch := [e, z, TI, TO, i1, i2]) (fun c o hb q => kk c o (fun q' => hb (by simp [q'])) q) hf1 (Nat.le_refl _) n2
      refine ⟨.ref g1.objs.size, _, I2, rfl, ⟨s.heap.objs.size, g1.objs.size, x, y, rfl, I.hok.fresh (Nat.le_refl _), I1.hok.fresh (Nat.le_refl _), rfl, fun l hl => by rw [I.list_inj hl hqx]; exact hx, fun l hl => by rw [I.list_inj hl hqy]; exact hy⟩, ⟨⟨.ref s.heap.objs.size, ?_⟩, ?_, kk _ _ N.TI.symm (r7 _ _ D.TIz D.TITO D.TIi1 D.TIi2 hTI), ⟨a', b', kk _ _ N.TO.symm r2⟩, r3.at fun o q => kk _ o N.i1.symm q, r4.at fun o q => kk _ o N.i2.symm q⟩, fun c hcm => ?_⟩
      · have e1 : ((i + 1 : Nat) : Int) = (i : Int) + 1 := by omega
        rw [e1]; exact he2
      · rcases r1 with ⟨fl, r1⟩ | ⟨T, fl, r1⟩
        · exact .inl ⟨fl, kk _ _ N.z.symm r1⟩
        · exact .inr ⟨T, fl, kk _ _ N.z.symm r1⟩
      · have hlt := chk c hcm
        rw [upd_ne (Nat.ne_of_lt (show c < g1.objs.size by rw [r6]; exact Nat.lt_succ_of_lt hlt)), upd_ne (Nat.ne_of_lt hlt)]
        exact (hf c hcm).1
  done := by
    intro X eP eW eK hc i pins s σ H E I hf st hg
    subst eP eW eK
    obtain ⟨⟨old, he⟩, hz, hTI, ⟨x0, y0, hTO⟩, h1, h2⟩ := st
    obtain ⟨xs, ys, hqx, hqy, hend⟩ := hg
    obtain ⟨its, rv, p1, _⟩ := I.list hqx
    obtain ⟨its2, rv2, p2, _⟩ := I.list hqy
    have l1 := rv.length
    have l2 := rv2.length
    have out : its.toArray[i]? = none ∨ its2.toArray[i]? = none := by
      rcases hend with q | q
      · exact .inl (by simp; omega)
      · exact .inr (by simp; omega)
    refine enumN_end (R := fun g => ∀ c o, c ≠ z → c ≠ TO → c ≠ i1 → c ≠ i2 → s.heap.get? c = some o → g.get? c = some o) (fun {Q' E'} q => ?_) he fun g k => ?_
    · exact nextOf_zip (ZSt.typeIs hz) (any_end (show X.A.in1.in1.handled = none from I.ok.hd hc) D hz hTI hTO h1 h2 p1.isList p2.isList out q)
    · exact ⟨rfl, I.turnedL (t' := s.toks) (ch := [e, z, TI, TO, i1, i2]) (fun c o hb q => k c o (fun q' => hb (by simp [q'])) (fun q' => hb (by simp [q'])) (fun q' => hb (by simp [q'])) (fun q' => hb (by simp [q'])) q) hf⟩
  self := fun A i s Q E st h => let ⟨⟨_, he⟩, _⟩ := st; wpAny_pyIter_enum he h
end PV

set_option Elab.async false
set_option linter.all false
set_option maxRecDepth 100000
set_option maxHeartbeats 2000000
namespace PV
open PySem PySem.Spec PyProof.Rows L2
variable [TN]
open PySem.Sem (wp)
theorem call_enumZ {prog : Program} {w : World} {A : Around} {E : Value → Shared → Prop} {s : Shared} {z TI TO : Addr} {Q : Value → Shared → Prop} (hz : IsZip s.heap z TI TO .none)
    (h : ∀ h', IsEnum h' s.heap.objs.size z 0 .none → (∀ b o, s.heap.get? b = some o → h'.get? b = some o) → Q (.ref s.heap.objs.size) { s with heap := h' }) :
    wpAny (model prog w) A (call (.type "enumerate") [.ref z]) Q E s := by
  refine callType_new F.called_enumerate (by decide) (F.typeCall_enumerate_1 _) (F.newCall_enumerate_1 _) (fun ob => F.args_object_init_2 ob _) F.entry_enumerate_new
    (meets_enumZ z TI TO) ⟨hz, ?_⟩
  have hE : IsEnum (s.heap.push { cls := .type "enumerate", data := .fields #[.none, .bool false, .ref z, rawInt 0, .none, .none] }) s.heap.objs.size z 0 .none := Heap.get?_push_size _ rfl
  exact ⟨⟨_, hE, rfl⟩, h _ hE fun b o x => Heap.get?_push_of_some _ x⟩
def iEnumZ (K : PySem.W.Frag) (ta : TA) : TI := fun σ H R => ta σ H fun vs H1 => ∃ a b xs ys, vs = [.ref a, .ref b] ∧ SqL K H1 a xs ∧ SqL K H1 b ys ∧ R (IteZ K a b) H1
theorem pi_enumZ {X : Cx} {e e2 : Expr} {ta : TA} {p p2 pos pos2 tpos : Pos} {elts : List Expr} {kk : Nat} (hg0 : Gl X "enumerate") (hm0 : X.mg "enumerate" = none) (hg : Gl X "zip") (hm : X.mg "zip" = none) (ha : PA X [e, e2] ta)
    (hs : starEach [e, e2] X.env = (false, eval e X.env) :: starEach [e2] X.env := by rfl) (hpl : (backTo pos2 (starEach [e2] X.env)).any (·.1) = false := by rfl)
    (hs0 : starEach [.Call (.Name "zip" p2) [e, e2] [] pos2] X.env = (false, eval (.Call (.Name "zip" p2) [e, e2] [] pos2) X.env) :: starEach [] X.env := by rfl)
    (htr : backTo pos (starEach [.Call (.Name "zip" p2) [e, e2] [] pos2] X.env) = [(false, eval (.Call (.Name "zip" p2) [e, e2] [] pos2) X.env)] := by rfl) :
    PI X (.Tuple elts kk tpos) (.Call (.Name "enumerate" p) [.Call (.Name "zip" p2) [e, e2] [] pos2] [] pos) (iEnumZ X.K ta) := by
  refine ⟨fun pins s σ H R I hh => ?_⟩
  refine Call_ (ld_blt I hg0 hm0 boot_enumerate (PyProof.Rows.callWith_type1 ?_ hs0 rfl))
  rw [htr]
  refine Calls.spliced_cons (Call_ (ld_blt I hg hm PyProof.Rows.boot_zip (PyProof.Rows.callWith_type1 (thn (ha.run pos2 pins s σ H _ I hh) fun us s1 ⟨vs, H1, I1, r1, q1⟩ => ?_) hs hpl)))
  obtain ⟨a, b, xs, ys, ex, hqx, hqy, q⟩ := q1
  subst ex
  cases r1 with
  | cons r rr =>
    cases rr with
    | cons r' rr =>
      cases rr
      cases r
      cases r'
      obtain ⟨its, rv, p1, _⟩ := I1.list hqx
      obtain ⟨its2, rv2, p2', _⟩ := I1.list hqy
      refine call_zip_2 p1.isList p2'.isList fun h' hz hTI hTO h1 h2 hsz hk => Calls.spliced_nil ?_
      refine call_enumZ hz fun h2' he hk2 => wpAny_pyIter_enum he ?_
      have zsz : h'.objs.size = s1.heap.objs.size + 5 := hsz
      have I2 : Inv X pins σ H1 { s1 with heap := h2' } := I1.kept (t' := s1.toks) fun b o q => hk2 b o (hk b o q)
      have nn : ∀ k, k < 5 → h'.objs.size ≠ s1.heap.objs.size + k := fun k hk5 => by
        rw [zsz]
        exact Nat.ne_of_gt (Nat.add_lt_add_left hk5 _)
      have fr : ∀ c, c ∈ [h'.objs.size, s1.heap.objs.size + 4, s1.heap.objs.size + 2, s1.heap.objs.size + 3, s1.heap.objs.size, s1.heap.objs.size + 1] → FpOk X pins H1 c := fun c hcm => by
        have e' : c = h'.objs.size ∨ c = s1.heap.objs.size + 4 ∨ c = s1.heap.objs.size + 2 ∨ c = s1.heap.objs.size + 3 ∨ c = s1.heap.objs.size ∨ c = s1.heap.objs.size + 1 := by simpa using hcm
        have hle : s1.heap.objs.size ≤ c := by
          rcases e' with q | q | q | q | q | q
          · rw [q, zsz]; exact Nat.le_add_right _ _
          · rw [q]; exact Nat.le_add_right _ _
          · rw [q]; exact Nat.le_add_right _ _
          · rw [q]; exact Nat.le_add_right _ _
          · rw [q]; exact Nat.le_refl _
          · rw [q]; exact Nat.le_add_right _ _
        exact I1.fpOk hle (I1.hok.fresh hle)
      exact ⟨h'.objs.size, _, _, _, H1, rfl, I2, turn_enumZ (PySem.W.ktu_apart s1.heap.objs.size a b p1.lt p2'.lt) ⟨nn 4 (by decide), nn 2 (by decide), nn 3 (by decide), nn 0 (by decide), nn 1 (by decide)⟩,
        ⟨⟨.none, he⟩, .inl ⟨false, hk2 _ _ hz⟩, hk2 _ _ hTI, ⟨_, _, hk2 _ _ hTO⟩, h1.at fun o q => hk2 _ o q, h2.at fun o q => hk2 _ o q⟩, fr, q⟩
end PV

set_option Elab.async false
set_option linter.all false
set_option maxRecDepth 100000
set_option maxHeartbeats 2000000
namespace PV
open PySem PySem.Spec PyProof.Rows L2
variable [TN]
theorem walk_enumZ {K : PySem.W.Frag} {a b : Addr} {xs ys : List V} {n : Nat} (hn : n = min xs.length ys.length) : Walk (IteZ K a b) n (fun H => SqL K H a xs ∧ SqL K H b ys)
    (fun i H v H' => ∃ T2 T x y, v = .ref T ∧ H T2 = none ∧ (upd H T2 (.tup [x, y])) T = none ∧ H' = upd (upd H T2 (.tup [x, y])) T (.tup [.int (i : Nat), .ref T2]) ∧ xs[i]? = some x ∧ ys[i]? = some y) := by
  subst hn
  refine ⟨fun i _ hi q => ?_, fun _ q => ⟨xs, ys, q.1, q.2, by omega⟩, fun i H v H' _ q y => ?_⟩
  · have h1 : i < xs.length := by omega
    have h2 : i < ys.length := by omega
    exact ⟨xs, ys, xs[i], ys[i], q.1, q.2, by simp [h1], by simp [h2]⟩
  · obtain ⟨T2, T, x, z, h1, h2, h3, h4, h5, h6⟩ := y
    exact ⟨T2, T, x, z, h1, h2, h3, h4, h5 xs q.1, h6 ys q.2⟩
theorem wkOk_enumZ {K : PySem.W.Frag} {H1 : Hp} {a b : Addr} {ds es : List D} {vs ws : List V} {fs gs : List Addr} (h : H1 a = some (.lst vs)) (h' : H1 b = some (.lst ws)) (r : RpL K H1 vs ds fs) (r' : RpL K H1 ws es gs) : WkOk K H1 (IteZ K a b) (enumD (zipD ds es)) ((a :: fs) ++ (b :: gs)) := by
  refine ⟨⟨_, _, walk_enumZ (xs := vs) (ys := ws) (by rw [enumD_len, zipD_len, r.length, r'.length]), ⟨.inl (.inl h), .inl (.inl h')⟩, fun H2 k => ⟨sqL_keep h k (by simp), sqL_keep h' k (by simp)⟩, fun i H2 x H3 hi k y => ?_⟩, fun c m => ?_⟩
  · obtain ⟨T2, T, x1, x2, rfl, nT2, nT, rfl, e1, e2⟩ := y
    obtain ⟨s1, d, fp, ed, rd, m⟩ := zip_item r r' (S := (a :: fs) ++ (b :: gs)) (fun c m => by simp [m]) (fun c m => by simp [m]) k nT2 e1 e2
    exact ⟨same_trans s1 (same_upd nT), .tuple [.int i, d], _, by simp [enumD, ed], pair_rp nT (.int _) rd, fun c hc => by simp at hc; exact m c hc⟩
  · rcases List.mem_append.mp m with m | m
    · rcases List.mem_cons.mp m with m | m
      · rw [m, h]; exact fun z => nomatch z
      · exact r.dom m
    · rcases List.mem_cons.mp m with m | m
      · rw [m, h']; exact fun z => nomatch z
      · exact r'.dom m
/-- enumerate(zip(xs, ys)) of two lists -/
def iEZ (h1 h2 : Rh → Option D) : Rh → Option (List D) := fun ρ => match h1 ρ, h2 ρ with
  | some (.list xs), some (.list ys) => some (enumD (zipD xs ys))
  | _, _ => none
section
variable {X : Cx} {e e2 : Expr} {p p2 pos pos2 tpos : Pos} {elts : List Expr} {kk : Nat} {bs cs : List Nat} {h1 h2 : Rh → Option D}
theorem ip_enumzip (hg0 : Gl X "enumerate") (hm0 : X.mg "enumerate" = none) (hg : Gl X "zip") (hm : X.mg "zip" = none) (he : EPb X e bs h1) (he2 : EPb X e2 cs h2)
    (hst : starEach [e, e2] X.env = (false, eval e X.env) :: starEach [e2] X.env := by rfl) (hst2 : starEach [e2] X.env = (false, eval e2 X.env) :: starEach [] X.env := by rfl) (hpl : (backTo pos2 (starEach [e2] X.env)).any (·.1) = false := by rfl)
    (hs0 : starEach [.Call (.Name "zip" p2) [e, e2] [] pos2] X.env = (false, eval (.Call (.Name "zip" p2) [e, e2] [] pos2) X.env) :: starEach [] X.env := by rfl)
    (htr : backTo pos (starEach [.Call (.Name "zip" p2) [e, e2] [] pos2] X.env) = [(false, eval (.Call (.Name "zip" p2) [e, e2] [] pos2) X.env)] := by rfl) :
    IP X (.Tuple elts kk tpos) (.Call (.Name "enumerate" p) [.Call (.Name "zip" p2) [e, e2] [] pos2] [] pos) (bs ++ cs) (iEZ h1 h2) := by
  obtain ⟨t, pe, hq⟩ := he
  obtain ⟨t2, pe2, hq2⟩ := he2
  refine ⟨_, pi_enumZ hg0 hm0 hg hm (pa_cons pe (pa_cons pe2 pa_nil hst2) hst) hst hpl hs0 htr, fun ρ σ H f ds R Rf hd q => ?_⟩
  unfold iEZ at hd
  split at hd
  · rename_i xs ys e1 e2
    cases hd
    refine hq ρ σ H f _ _ Rf e1 fun v H1 fp s r hfp => ?_
    refine hq2 ρ σ H1 f _ _ (Rf.same s) e2 fun u H2 fq s2 r2 hfq => ?_
    have rr := r.same s2
    cases rr with
    | lst g1 g2 g3 =>
      cases r2 with
      | lst k1 k2 k3 =>
        refine ⟨_, _, _, _, rfl, .inl (.inl g1), .inl (.inl k1), q _ _ _ (same_trans s s2) (wkOk_enumZ g1 k1 g3 k3) fun a m => ?_⟩
        rcases List.mem_append.mp m with m | m
        · rcases hfp a m with z | ⟨i, hi, w⟩
          · exact .inl z
          · exact .inr ⟨i, List.mem_append_left _ hi, w⟩
        · rcases hfq a m with z | ⟨i, hi, w⟩
          · exact .inl (Same.new s z)
          · exact .inr ⟨i, List.mem_append_right _ hi, w⟩
  · cases hd
end
end PV

set_option Elab.async false
set_option linter.all false
set_option maxRecDepth 100000
set_option maxHeartbeats 2000000
/-! a lambda of one parameter: made, called -/
namespace PV
open PySem PySem.Spec PyProof.Rows L2
variable [TN]

/-- a code object that is known -/
def CodeF (H : Hp) (c : Addr) (q : Str) : Prop := ∃ (oc : Obj) (vs : Array Value) (t : Tok), H c = some (.frz oc (.own c)) ∧ oc.data = .fields vs ∧ vs[1]? = some (.str q t)
section
variable {X : Cx} {pins : List (Addr × Obj)} {σ : L2.St} {H : Hp} {s : Shared}
/-- the table's object is written, the code object at c is new and known from now on; all else is kept -/
theorem inv_tableF {P c : Addr} {ps more : Array Value} {oc : Obj} {h' : Heap} {t' : Nat} (I : Inv X pins σ H s) (hP : H P = some (.tbl ps)) (k : ∀ b o, b ≠ P → s.heap.get? b = some o → h'.get? b = some o)
    (hm : h'.get? P = some { cls := .none, data := .fields (ps ++ more) }) (hc : s.heap.objs.size ≤ c) (ho : h'.get? c = some oc) :
    Inv X pins σ (upd (upd H P (.tbl (ps ++ more))) c (.frz oc (.own c))) { s with heap := h', toks := t' } := by
  have nC : H c = none := I.hok.fresh hc
  have nPc : P ≠ c := ne_of_none hP nC
  have at_ : ∀ b, b ≠ P → b ≠ c → upd (upd H P (.tbl (ps ++ more))) c (.frz oc (.own c)) b = H b := fun b h1 h2 => by rw [upd_ne h2, upd_ne h1]
  have atP : upd (upd H P (.tbl (ps ++ more))) c (.frz oc (.own c)) P = some (.tbl (ps ++ more)) := by rw [upd_ne nPc, upd_same]
  have nP : ∀ b u, H b = some u → (∀ q, u ≠ .tbl q) → b ≠ P := fun b u e q z => by
    rw [z, hP] at e
    exact q ps (Option.some.inj e).symm
  have nN : ∀ b, H b = none → b ≠ P := fun b e z => by
    rw [z, hP] at e
    cases e
  have lt' : ∀ b o, s.heap.get? b = some o → b ≠ c := fun b o e z => by
    rw [z] at e
    exact Nat.lt_irrefl _ (Nat.lt_of_lt_of_le (Heap.lt_size e) hc)
  have sm : ∀ b u, H b = some u → b ≠ c := fun b u e => ne_of_none e nC
  refine I.step (g' := s.gens) (d' := s.drawn) (ch := []) (fun b hb => absurd hb (by simp)) (fun b o _ _ _ e n => k b o (nN b n) e) (fun b o _ _ _ e n => ⟨o.slots, k b o (nN b n) e⟩)
    (fun b o _ e n => by rw [at_ b (nN b n) (lt' b o e)]; exact n) (fun b o _ e => ?_) (fun b xs e => by rw [at_ b (nP b _ e (fun q z => by cases z)) (sm b _ e)]; exact e) (fun b o u e => by rw [at_ b (nP b _ e (fun q z => by cases z)) (sm b _ e)]; exact e) (fun b qs e => ?_) (fun m hn => ?_) (fun b u e => ?_) I.bare
  · by_cases hb : b = P
    · rw [hb]
      exact ⟨_, hm⟩
    · exact ⟨o, k b o hb e⟩
  · by_cases hb : b = P
    · rw [hb, hP] at e
      cases e
      rw [hb, atP]
      exact ⟨more, rfl⟩
    · rw [at_ b hb (sm b _ e), e]
      exact ⟨#[], by simp⟩
  · obtain ⟨ob, es, ep, ho, r⟩ := hn
    exact ⟨ob, es, ep, k _ ob (nN _ I.free) ho, r⟩
  · by_cases hb : b = c
    · rw [hb, upd_same] at e
      cases e
      rw [hb]
      exact ⟨ho, oc, ho⟩
    · by_cases hb2 : b = P
      · rw [hb2, atP] at e
        cases e
        rw [hb2]
        exact hm
      · rw [at_ b hb2 hb] at e
        refine (I.hok b u e).stay (fun d v hd q => k d v ?_ q) (fun d q => by rw [at_ d (nP d _ q (fun q z => by cases z)) (sm d _ q)]; exact q) fun d xs q => by rw [at_ d (nP d _ q (fun q z => by cases z)) (sm d _ q)]; exact q
        rcases hd with z | z
        · rw [z]
          exact hb2
        · exact nP d _ z (fun q z => by cases z)
/-- the lambda is made: its code object is new, or found in the table -/
theorem lam_make3 {c P : Addr} {params : Arguments} {body : Expr} {scope : Scope} {pos : Pos} {E : Value → Shared → Prop} {Q : Value → Shared → Prop} (I : Inv X pins σ H s) (tb : TabI H) (hn : TN.nm P = some (X.env.qual ++ "<lambda>")) (TB : LamX.TabB X.base X.mg c P) (hcode : X.env.code = .ref c)
    (hdef : defaultsOf params X.env = ([], [])) (hfree : ∀ y ∈ scope.names, y.2 = .free → ∃ c, X.env.cells.lookup y.1 = some c)
    (h : ∀ (f c' : Addr) (pm ctv : Value) (H1 : Hp) (s' : Shared), Inv X pins σ H1 s' → Same H H1 →
      s'.heap.get? f = some (PySem.W.kla_obj "<lambda>" (X.env.qual ++ "<lambda>") params body scope (cloFrom X.env.cells scope.names []) pm c' ctv) → H1 f = none → f ∉ frs X.stack → CodeF H1 c' (X.env.qual ++ "<lambda>") → Q (.ref f) s') :
    wpAny (model X.prog X.w) X.A (eval (.Lambda params body scope pos) X.env) Q E s := by
  obtain ⟨ps, hP, ht, ha⟩ := tb _ _ hn
  refine PySem.W.kla_eval hdef ?_
  have bP : s.heap.BuiltinsAt X.mg P := TB.bm.keeps I.bk
  have hP' : s.heap.get? P = some { cls := .none, data := .fields ps } := I.hok P _ hP
  have nofr : ∀ f, s.heap.objs.size ≤ f → f ∉ frs X.stack := fun f hf z => by
    rcases List.mem_cons.mp (I.stkSub _ z) with e | e
    · have h1 := I.lt
      rw [← e] at h1
      exact Nat.lt_irrefl _ (Nat.lt_of_lt_of_le h1 hf)
    · exact I.nofs hf e
  cases hc : codeAmong pos ps.toList with
  | none =>
    refine PySem.W.kla_makeFunction (mg := X.mg) (c := c) (P := P) (ps := ps) (closure_ok hfree) I.ok.glob (I.mod.glob.keeps I.bk) hcode (TB.code.keeps I.bk) hP' ht hc TB.gP bP fun c' ctv h' tk hx hge hlt hrec htb => ?_
    obtain ⟨c2, oc, vs, t, e2, hoc, hd, hv⟩ := hrec
    cases e2
    have hsz : s.heap.objs.size ≤ h'.objs.size := Nat.le_trans hge (Nat.le_of_lt hlt)
    have nC : H c' = none := I.hok.fresh hge
    have I1 := inv_tableF (t' := tk) (more := #[rawInt pos.line, rawInt pos.col, .ref c']) (oc := oc) (h' := h'.push (PySem.W.kla_obj "<lambda>" (X.env.qual ++ "<lambda>") params body scope (cloFrom X.env.cells scope.names []) ((X.mg "__name__").getD .none) c' ctv)) I hP
      (fun b o hb e => Heap.get?_push_of_some _ (hx b o hb e)) (Heap.get?_push_of_some _ htb) hge (Heap.get?_push_of_some _ hoc)
    have hE : ∀ b o, H b = some o → NT o → upd (upd H P (.tbl (ps ++ #[rawInt pos.line, rawInt pos.col, .ref c']))) c' (.frz oc (.own c')) b = some o := fun b o e n => by
      rw [upd_ne (ne_of_none e nC), upd_ne (fun z => by rw [z, hP] at e; cases e; exact n)]
      exact e
    have eL : (ps ++ #[rawInt pos.line, rawInt pos.col, .ref c']).toList = ps.toList ++ [rawInt pos.line, rawInt pos.col, .ref c'] := by simp
    refine h h'.objs.size c' ((X.mg "__name__").getD .none) ctv _ _ I1 ⟨hE, fun b z => ?_, fun _ P' q' hn' => ?_⟩ (Heap.get?_push_size _ rfl) ?_ (nofr _ hsz) ⟨oc, vs, t, upd_same, hd, hv⟩
    · by_cases h1 : b = c'
      · rw [h1]; exact nC
      · rw [upd_ne h1] at z
        by_cases h2 : b = P
        · rw [h2, upd_same] at z; cases z
        · rw [upd_ne h2] at z; exact z
    · by_cases hb : P' = P
      · rw [hb] at hn' ⊢
        rw [hn] at hn'
        cases hn'
        refine ⟨_, by rw [upd_ne (ne_of_none hP nC), upd_same], by rw [eL]; exact PySem.TriplesOk_snoc _ _ _ _ ht, fun p' cv hcv => ?_⟩
        rw [eL] at hcv
        rcases LamX.among_app _ ht hcv with z | z
        · obtain ⟨c0, o0, v0, t0, e1, e2, e3⟩ := ha p' cv z
          exact ⟨c0, o0, v0, t0, e1, hE _ _ e2 trivial, e3⟩
        · exact ⟨c', oc, vs, t, z, upd_same, hd, hv⟩
      · obtain ⟨ps', a1, a2, a3⟩ := tb P' q' hn'
        refine ⟨ps', by rw [upd_ne (ne_of_none a1 nC), upd_ne hb]; exact a1, a2, fun p' cv hcv => ?_⟩
        obtain ⟨c0, o0, v0, t0, e1, e2, e3⟩ := a3 p' cv hcv
        exact ⟨c0, o0, v0, t0, e1, hE _ _ e2 trivial, e3⟩
    · have n1 : h'.objs.size ≠ c' := Nat.ne_of_gt hlt
      have n2 : h'.objs.size ≠ P := Nat.ne_of_gt (Nat.lt_of_lt_of_le (Heap.lt_size hP') hsz)
      rw [upd_ne n1, upd_ne n2]
      exact I.hok.fresh hsz
  | some cv =>
    obtain ⟨c', oc, vs, t, e, hco, hd, hv⟩ := ha pos cv hc
    subst e
    refine PySem.W.kla_makeFunctionHit (mg := X.mg) (c := c) (P := P) (ps := ps) (closure_ok hfree) I.ok.glob (I.mod.glob.keeps I.bk) hcode (TB.code.keeps I.bk) hP' ht hc bP fun ctv h' tk hx hsz => ?_
    have I1 : Inv X pins σ H { s with heap := h'.push (PySem.W.kla_obj "<lambda>" (X.env.qual ++ "<lambda>") params body scope (cloFrom X.env.cells scope.names []) ((X.mg "__name__").getD .none) c' ctv), toks := tk } := I.kept fun b o e => Heap.get?_push_of_some _ (hx b o e)
    exact h h'.objs.size c' ((X.mg "__name__").getD .none) ctv H _ I1 Same.refl (Heap.get?_push_size _ rfl) (I.hok.fresh hsz) (nofr _ hsz) ⟨oc, vs, t, hco, hd, hv⟩
end
/-! ### the lambda's names -/
/-- one parameter, no other name of its own: captured ones and globals -/
structure Lam1 (sc scope : Scope) (p : Str) : Prop where
  kind : scope.kind = .function
  co : scope.isCoroutine = false
  gen : scope.isGenerator = false
  own : ∀ y ∈ scope.names, y.2 ≠ .cell ∧ (y.2 = .local → y.1 = p)
  par : scope.names.lookup p = some .local
  free : ∀ y ∈ scope.names, y.2 = .free → sc.names.lookup y.1 = some .cell ∨ sc.names.lookup y.1 = some .free
def lam1B (sc scope : Scope) (p : Str) : Bool :=
  decide (scope.kind = .function) && !scope.isCoroutine && !scope.isGenerator && (scope.names.all fun y => !decide (y.2 = .cell) && (!decide (y.2 = .local) || decide (y.1 = p)) && (!decide (y.2 = .free) || decide (sc.names.lookup y.1 = some .cell) || decide (sc.names.lookup y.1 = some .free))) && decide (scope.names.lookup p = some .local)
theorem lam1_by {sc scope : Scope} {p : Str} (h : lam1B sc scope p = true) : Lam1 sc scope p := by
  unfold lam1B at h
  simp only [Bool.and_eq_true, Bool.or_eq_true, Bool.not_eq_true', decide_eq_true_eq, decide_eq_false_iff_not, List.all_eq_true] at h
  obtain ⟨⟨⟨⟨h1, h2⟩, h3⟩, h4⟩, h5⟩ := h
  refine ⟨h1, h2, h3, fun y hy => ⟨(h4 y hy).1.1, fun e => ?_⟩, h5, fun y hy e => ?_⟩
  · rcases (h4 y hy).1.2 with z | z
    · exact absurd e z
    · exact z
  · rcases (h4 y hy).2 with (z | z) | z
    · exact absurd e z
    · exact .inl z
    · exact .inr z
theorem Lam1.has {X : Cx} {scope : Scope} {p : Str} (L : Lam1 X.env.scope scope p) (ok : X.Ok) : ∀ y ∈ scope.names, y.2 = .free → ∃ c, X.env.cells.lookup y.1 = some c := fun y hy e => by
  rcases L.free y hy e with k | k
  · exact ok.has _ (.inl k)
  · exact ok.has _ (.inr k)
section
variable {X : Cx} {pins : List (Addr × Obj)} {σ : L2.St} {H : Hp} {s : Shared}
theorem lam_start3 {A : Around} {E : XK} {scope : Scope} {f c' : Addr} {h₁ : Heap} {tk j : Nat} {p : Str} {v : V} {u : Value} (I : Inv X pins σ H s) (L : Lam1 X.env.scope scope p) (hf : A.frames = some X.stack) (hd : A.handled = none)
    (hj : X.N[j]? = some p) (hjj : ∀ i, X.N[i]? = some p → i = j) (rv : RelV v u) (hns : h₁.Ns s.heap.objs.size fun y => ([(p, u)] : List (Str × Value)).reverse.lookup y) (kp : ∀ b o, s.heap.get? b = some o → h₁.get? b = some o) :
    Inv (LamX.lamCx X A X.stack s H E scope f c') [] (σ.set j (some v)) H { s with heap := h₁, toks := tk } := by
  have hfree := L.has I.ok
  have e0 := I.env0
  have cm : ∀ {y c}, (cloFrom X.env.cells scope.names []).lookup y = some c → X.env.cells.lookup y = some c := fun {y c} e => by
    rcases cloFrom_mem (PySem.mem_of_lookup e) with hm | ⟨h1, h2⟩
    · cases hm
    · obtain ⟨c1, hc⟩ := hfree _ h1 rfl
      have hc : X.env.cells.lookup y = some c1 := hc
      have e2 : c = c1 := by
        rw [h2, hc] <;> rfl
      rw [e2]
      exact hc
  have look : ∀ {y}, scope.names.lookup y = some .free → ∃ c, (cloFrom X.env.cells scope.names []).lookup y = some c := fun {y} hl => by
    have hy : (y, NameKind.free) ∈ scope.names := PySem.mem_of_lookup hl
    exact mem_lookup (cloFrom_has (cells := X.env.cells) (acc := []) hy)
  have cellK : ∀ {c : Addr} {v : Option Value}, s.heap.IsCell c v → h₁.IsCell c v := fun {c v} ⟨o, ho, hd⟩ => ⟨o, kp _ _ ho, hd⟩
  have noA : ∀ b : Addr, b ∉ (LamX.lamCx X A X.stack s H E scope f c').ex := fun b z => absurd (show b ∈ ([] : List Addr) from z) (by simp)
  have lenS : (σ.set j (some v)).length = X.N.length := by rw [List.length_set]; exact I.len
  refine ⟨⟨e0.mod, L.kind, rfl, rfl, Nat.le_refl _, fun y z c e1 e2 => I.ok.inj y z c (cm e1) (cm e2), fun y hy => ?_, fun y c z _ => ?_, fun _ => hd, Around.frames_deeper hf, .inr ⟨rfl, rfl⟩, fun b z => absurd z (noA b), e0.bs, e0.bsz, fun b _ _ => noA b,
      fun b z => absurd z (noA b), e0.funs, e0.frf⟩,
    rfl, e0.bare, Un.kept kp, ⟨_, hns, fun i y w e1 e2 e3 => ?_⟩, fun y c e => ?_, e0.hok.fresh (Nat.le_refl _), fun y c e => ?_, fun q hq => absurd (show q ∈ ([] : List (Addr × Obj)) ++ [] from hq) (by simp), e0.hok.kept kp, lenS⟩
  · have hy : scope.names.lookup y = some .cell ∨ scope.names.lookup y = some .free := hy
    rcases hy with hy | hy
    · exact absurd rfl (L.own _ (PySem.mem_of_lookup hy)).1
    · exact look hy
  · have z : false = true := z
    cases z
  · have e3 : Vis scope y := e3
    have e1 : X.N[i]? = some y := e1
    by_cases hi : i = j
    · subst hi
      rw [hj] at e1
      cases e1
      have hil : i < σ.length := by rw [I.len]; exact (List.getElem?_eq_some_iff.mp hj).1
      rw [List.getElem?_set_self hil] at e2
      cases e2
      refine ⟨u, rv, .inl ⟨L.par, ?_⟩⟩
      show ([(p, u)] : List (Str × Value)).reverse.lookup p = some u
      simp [List.lookup]
    · rw [List.getElem?_set_ne (Ne.symm hi)] at e2
      have hyp : y ≠ p := fun z => hi (hjj i (by rw [← z]; exact e1))
      rcases e3 with k | k | k
      · exact absurd ((L.own _ (PySem.mem_of_lookup k)).2 rfl) hyp
      · exact absurd rfl (L.own _ (PySem.mem_of_lookup k)).1
      · obtain ⟨m, hn, hl⟩ := I.loc
        have hvis : Vis X.env.scope y := (L.free _ (PySem.mem_of_lookup k) rfl).elim (fun k => .inr (.inl k)) (fun k => .inr (.inr k))
        obtain ⟨w', r, q⟩ := hl i y w e1 e2 hvis
        obtain ⟨c2, h2⟩ := look k
        refine ⟨w', r, .inr ⟨.inr k, c2, h2, ?_⟩⟩
        have c1 := cm h2
        rcases q with ⟨k', _⟩ | ⟨_, c3, e', z⟩
        · have k' : X.env.scope.names.lookup y = some .local := k'
          rcases L.free _ (PySem.mem_of_lookup k) rfl with k2 | k2 <;> rw [show X.env.scope.names.lookup y = _ from k2] at k' <;> cases k'
        · rw [c1] at e'
          cases e'
          exact cellK z
  · obtain ⟨w', z⟩ := I.cell y c (cm e)
    exact ⟨w', cellK z⟩
  · exact I.freeC y c (cm e)
/-- the lambda called, in the code that made it -/
theorem lam_call {A : Around} {k j : Nat} {scope : Scope} {f c' : Addr} {pm ctv : Value} {params : Arguments} {body : Expr} {p : Str} {v : V} {u : Value} {Q : VK} {tb : TE} (I : Inv X pins σ H s) (L : Lam1 X.env.scope scope p) (hr : Room (k + 1) A) (hfr : A.frames = some X.stack)
    (hf : s.heap.get? f = some (PySem.W.kla_obj "<lambda>" (X.env.qual ++ "<lambda>") params body scope (cloFrom X.env.cells scope.names []) pm c' ctv)) (hcd : CodeF H c' (X.env.qual ++ "<lambda>"))
    (hbind : bindArgs (PySem.W.kla_fn "<lambda>" (X.env.qual ++ "<lambda>") params body scope (cloFrom X.env.cells scope.names []) pm (.ref c') ctv) ⟨[u], []⟩ = pure [(p, u)])
    (hj : X.N[j]? = some p) (hjj : ∀ i, X.N[i]? = some p → i = j) (rv : RelV v u)
    (hbody : PE (LamX.lamCx X A X.stack s H C8.E0 scope f c') body tb) (h : tb (σ.set j (some v)) H Q) :
    codeAny (model X.prog X.w) A (.call (.ref f) ⟨[u], []⟩) (CR (L2.CX X.prog X.w) X.stack X.prog X.w H s Q C8.E0) s := by
  obtain ⟨oc, vs, t, hco, hdc, hvc⟩ := hcd
  obtain ⟨hoc, _⟩ := I.hok c' _ hco
  refine PySem.W.kla_callFunE hr.depth hf rfl L.co L.gen rfl ⟨c', oc, vs, t, rfl, hoc, hdc, hvc⟩ ?_
  rw [hbind]
  refine wpAny_pure (wpAny_newFunctionEnv (fun y hy => (L.own y hy).1) (fun y hy => ?_) (fun h₁ hns hsb => ⟨I.nolimit.fresh _ hsb, ?_⟩) L.kind)
  · obtain rfl := List.mem_singleton.mp hy
    exact L.par
  show codeAny _ _ (.expr body (LamX.lamEnv X scope s.heap.objs.size f c')) _ _
  have kp : ∀ b o, s.heap.get? b = some o → h₁.get? b = some o := fun b o e => hsb.extBut b o (Nat.ne_of_lt (Heap.lt_size e)) (Heap.get?_push_of_some _ e)
  have J : Inv (LamX.lamCx X A X.stack s H C8.E0 scope f c') [] (σ.set j (some v)) H { s with heap := h₁, toks := s.toks + ([(p, u)] : List (Str × Value)).length } :=
    lam_start3 I L hfr hr.hd hj hjj rv hns kp
  refine PySem.W.kla_codeExpr (wpAny_mono (hbody.run [] _ _ H Q J h) (fun v s' hq => ?_) fun e s' hq => hq)
  obtain ⟨w', H', J', rv, q⟩ := hq
  exact ⟨w', H', J'.os, J'.bare, J'.base, J'.hok, rv, q⟩
end
end PV

set_option Elab.async false
set_option linter.all false
set_option maxRecDepth 100000
set_option maxHeartbeats 2000000
/-! sorted(.., key=f): f is called in the code that sorts -/
namespace PV
open PySem PySem.Spec PyProof.Rows L2
open PySem.W (KeepsBut hideAll)
variable [TN]

/-- an address of ours that nobody knows of -/
structure Ours (X : Cx) (pins : List (Addr × Obj)) (it : Addr) : Prop where
  ge : X.s_0.heap.objs.size ≤ it
  loc : it ≠ X.env.locals
  cell : ∀ x c, X.env.cells.lookup x = some c → c ≠ it
  pin : ∀ p ∈ X.pn ++ pins, p.1 ≠ it
  fr : it ∉ frs X.stack
section
variable {X : Cx} {pins : List (Addr × Obj)} {σ : L2.St} {H : Hp} {s : Shared}
theorem Ours.of (I : Inv X pins σ H s) {it : Addr} (h : s.heap.objs.size ≤ it) : Ours X pins it := by
  refine ⟨Nat.le_trans I.sz h, fun z => ?_, fun x c e z => ?_, fun p hp z => ?_, fun z => ?_⟩
  · have := I.lt; rw [← z] at this; exact Nat.lt_irrefl _ (Nat.lt_of_lt_of_le this h)
  · obtain ⟨v, o, ho, _⟩ := I.cell x c e
    rw [z] at ho
    exact Nat.lt_irrefl _ (Nat.lt_of_lt_of_le (Heap.lt_size ho) h)
  · have ho := (I.pin p hp).1
    rw [z] at ho
    exact Nat.lt_irrefl _ (Nat.lt_of_lt_of_le (Heap.lt_size ho) h)
  · rcases List.mem_cons.mp (I.stkSub _ z) with e | e
    · have h1 := I.lt
      rw [← e] at h1
      exact Nat.lt_irrefl _ (Nat.lt_of_lt_of_le h1 h)
    · exact I.nofs h e
theorem Inv.ours {h' : Heap} {t' : Nat} {it : Addr} (I : Inv X pins σ H s) (O : Ours X pins it) (hn : H it = none) (k : ∀ b o, b ≠ it → s.heap.get? b = some o → h'.get? b = some o) : Inv X pins σ H { s with heap := h', toks := t' } :=
  I.turned k hn O.loc (.inr O.ge) O.cell O.pin
/-- what a turn of the key says: the code's own untracked objects are kept -/
def TurnEnd (X : Cx) (pins : List (Addr × Obj)) (σ : L2.St) (kd : D) (H : Hp) (s : Shared) (r : Value) (s' : Shared) : Prop :=
  ∃ kv H', Inv X pins σ H' s' ∧ Same H H' ∧ Un (frs X.stack) [] H H' s.heap s'.heap ∧ RelV kv r ∧ Rp X.K H' kv kd []
theorem un_keepO {H H' : Hp} {h h' : Heap} {it : Addr} {o : Obj} (u : Un (frs X.stack) [] H H' h h') (O : Ours X pins it) (hn : H it = none) (e : h.get? it = some o) : h'.get? it = some o ∧ H' it = none :=
  ⟨u.keep it o e hn O.fr (by simp), u.free it o e hn (by simp)⟩
theorem each_rp (I : Inv X pins σ H s) : ∀ {vs : List V} {ds : List D} {us : List Value}, RpL X.K H vs ds [] → Vals vs us → pureL ds = true → PySem.W.EachIs (fun v k => ∃ as, Reads s.heap v k as) us ds
  | _, [], _, r, v, _ => by cases r; cases v; exact .nil
  | _, d :: ds, us, r, v, p => by
    simp only [pureL, Bool.and_eq_true] at p
    generalize hf : ([] : List Addr) = f0 at r
    cases r with
    | cons r1 r2 =>
      rename_i w ws f1 f2
      obtain ⟨e1, e2⟩ := List.append_eq_nil_iff.mp hf.symm
      subst e1; subst e2
      cases v with
      | cons v1 v2 =>
        exact .cons (Dp.reads I d w _ (Rp.dp _ _ _ r1 (pure_noDct _ p.1)) v1) (each_rp I r2 v2 p.2)
theorem RpL.snoc {K : PySem.W.Frag} {v : V} {d : D} : ∀ {vs : List V} {ds : List D}, RpL K H vs ds [] → Rp K H v d [] → RpL K H (vs ++ [v]) (ds ++ [d]) [] := fun {vs ds} r1 r2 => by
  have := RpL.append r1 (.cons (f := []) (fs := []) r2 .nil)
  simpa using this
theorem Vals.snoc {v : V} {u : Value} : ∀ {vs : List V} {us : List Value}, Vals vs us → RelV v u → Vals (vs ++ [v]) (us ++ [u])
  | _, _, .nil, h => .cons h .nil
  | _, _, .cons a b, h => .cons a (Vals.snoc b h)
theorem Vals.get {vs : List V} {us : List Value} (h : Vals vs us) {i : Nat} {u : Value} (e : us[i]? = some u) : ∃ v, vs[i]? = some v ∧ RelV v u := by
  induction h generalizing i with
  | nil => simp at e
  | cons a b ih =>
    cases i with
    | zero => simp at e; subst e; exact ⟨_, rfl, a⟩
    | succ i => simpa using ih (by simpa using e)
/-- the order of the items by their keys -/
def keyed (vs : List V) (kz : List D) : List V := ((vs.zip kz).mergeSort (PySem.W.dataLe false Prod.snd)).map Prod.fst
theorem each_zip : ∀ {vs : List V} {us : List Value} {kz : List D}, Vals vs us → kz.length = vs.length → PySem.W.EachIs (fun u (p : V × D) => RelV p.1 u) us (vs.zip kz)
  | _, _, [], .nil, _ => .nil
  | _, _, _ :: _, .nil, h => by simp at h
  | _, _, [], .cons _ _, h => by simp at h
  | _, _, k :: kz, .cons a b, h => .cons a (each_zip b (by simpa using h))
theorem each_vals : ∀ {ps : List (V × D)} {us : List Value}, PySem.W.EachIs (fun u (p : V × D) => RelV p.1 u) us ps → Vals (ps.map Prod.fst) us
  | _, _, .nil => .nil
  | _, _, .cons a b => .cons a (each_vals b)
theorem sortK_run {f src : Value} {vs : List V} {kz : List D} {Q : VK} (hu : X.A.units + 200 < cLine) (I : Inv X pins σ H s) (ok : okSort kz = true) (hlen : kz.length = vs.length) (hz : vs.length ≤ 1000000)
    (ht : ∀ a, Builtin.«list.sort» ⟨[.ref a], [(Str.ofString "key", f)]⟩ = ksk_tree a f false)
    (hcol : ∀ (E' : Value → Shared → Prop) (Q' : List Value → Shared → Prop), (∀ us h' tk, Vals vs us → (∀ b o, s.heap.get? b = some o → h'.get? b = some o) → Q' us { s with heap := h', toks := tk }) → wpAny (model X.prog X.w) X.A.in1 (collect src) Q' E' s)
    (turn : ∀ (i : Nat) (v : V) (kd : D), vs[i]? = some v → kz[i]? = some kd → ∀ (s' : Shared) (H' : Hp) (u : Value), Inv X pins σ H' s' → Same H H' → (∀ b o, s.heap.get? b = some o → H b = none → b ∉ frs X.stack → s'.heap.get? b = some o) → RelV v u →
      wpAny (model X.prog X.w) X.A.in1.in1 (call f [u]) (TurnEnd X pins σ kd H' s') (fun _ _ => False) s')
    (q : ∀ p H', Same H H' → H p = none → H' p = some (.lst (keyed vs kz)) → Q (.ref p) H') :
    wpAny (model X.prog X.w) X.A (call (.builtin "sorted") [src] [(Str.ofString "key", f)]) (L2.EP X pins σ Q) X.xe s := by
  obtain ⟨hpu, hal, hsb, hdp⟩ := okSort_alike ok
  refine call_function_entry_kw kind_sorted plain_sorted entry_sorted (ksk_s1 _ _) ?_
  unfold Builtin.«sorted»
  refine wpAny_bind (m := checkCount "sorted" 1 1 _) (wpAny_pure ?_)
  refine wpAny_bind (hcol _ _ fun us h1 t1 hv k1 => ?_)
  have hul : us.length = vs.length := hv.length.symm
  have hL : us.length ≤ sizeLine := by rw [hul]; exact mil_line hz
  refine wpAny_bind (wpAny_newList ?_ hL)
  have I1 : Inv X pins σ H { s with heap := h1, toks := t1 } := I.kept k1
  show wpAny _ _ _ _ _ { s with heap := h1.push (seqObj "list" us.toArray 0), toks := t1 }
  have gN : (h1.push (seqObj "list" us.toArray 0)).get? h1.objs.size = some (seqObj "list" us.toArray 0) := Heap.get?_push_size _ rfl
  refine wpAny_bind (wpAny_holding (wpAny_call_entry_kw slot_list_sort ⟨_, gN, rfl⟩ entry_list_sort ?body (ksk_l1 _ _)))
  show wpAny (model X.prog X.w) X.A.in1.in1 (Builtin.«list.sort» ⟨[.ref h1.objs.size], [(Str.ofString "key", f)]⟩) _ _ _
  rw [ht]
  generalize hE : (fun (e : Value) (s' : Shared) => X.xe e s') = E'
  -- the list is emptied, the items held, the keys' list made
  unfold ksk_tree
  refine wpAny_bind (listItems_at gN rfl ?_)
  refine wpAny_bind (listUpdate_at gN rfl ?_ (by rw [List.size_toArray]; exact hL) (Nat.zero_le _))
  obtain ⟨e1, ho1⟩ : ∃ e1, ((h1.push (seqObj "list" us.toArray 0)).update h1.objs.size (Obj.mapSeq fun _ => (#[] : Array Value))).get? h1.objs.size = some (seqObj "list" #[] e1) := ⟨_, get?_update_seq gN fun _ => #[]⟩
  refine wpAny_bind (seqEpoch_at ho1 rfl ?_)
  refine wpAny_bind (wpAny_newTuple ?_ (by simpa using hL))
  refine wpAny_bind (wpAny_newList ?_ (Nat.zero_le _))
  refine wpAny_holding ?_
  have k2 : ∀ b o, h1.get? b = some o → ((((h1.push (seqObj "list" us.toArray 0)).update h1.objs.size (Obj.mapSeq fun _ => (#[] : Array Value))).push (seqObj "tuple" us.toArray 0)).push (seqObj "list" #[] 0)).get? b = some o := fun b o eb =>
    Heap.get?_push_of_some _ (Heap.get?_push_of_some _ ((Heap.get?_update_other _ _ (Nat.ne_of_gt (Heap.lt_size eb))).trans (Heap.get?_push_of_some _ eb)))
  generalize hh2 : (((h1.push (seqObj "list" us.toArray 0)).update h1.objs.size (Obj.mapSeq fun _ => (#[] : Array Value))).push (seqObj "tuple" us.toArray 0)).push (seqObj "list" #[] 0) = h2 at k2
  have I2 : Inv X pins σ H { s with heap := h2, toks := t1 } := I1.kept k2
  have hsz3 : ((h1.push (seqObj "list" us.toArray 0)).update h1.objs.size (Obj.mapSeq fun _ => (#[] : Array Value))).objs.size = h1.objs.size + 1 := by rw [Heap.size_update, size_push']
  have hkS : (((h1.push (seqObj "list" us.toArray 0)).update h1.objs.size (Obj.mapSeq fun _ => (#[] : Array Value))).push (seqObj "tuple" us.toArray 0)).objs.size = h1.objs.size + 2 := by rw [size_push', hsz3]
  have nkS : h2.get? (h1.objs.size + 2) = some (seqObj "list" #[] 0) := by rw [← hh2, ← hkS]; exact Heap.get?_push_size _ rfl
  have na : h2.get? h1.objs.size = some (seqObj "list" #[] e1) := by rw [← hh2]; exact Heap.get?_push_of_some _ (Heap.get?_push_of_some _ ho1)
  have Oa : Ours X pins h1.objs.size := Ours.of I1 (Nat.le_refl _)
  have Ok : Ours X pins (h1.objs.size + 2) := Ours.of I1 (by show h1.objs.size ≤ _; omega)
  have Ha : H h1.objs.size = none := I1.hok.fresh (Nat.le_refl _)
  have Hk : H (h1.objs.size + 2) = none := I1.hok.fresh (by show h1.objs.size ≤ _; omega)
  rw [hkS]
  have hka : h1.objs.size + 2 ≠ h1.objs.size := by omega
  show wpAny (model X.prog X.w) X.A.in1.in1 (ksk_rest h1.objs.size f false us.toArray e1 (.ref (h1.objs.size + 2))) _ _ { s with heap := h2, toks := t1 }
  have fin : ∀ (s' : Shared), L2.EP X pins σ Q (.ref h1.objs.size) s' → ∃ v, PySem.Fin.done (.ret .none) = PySem.Fin.done (.ret v) ∧ wpAny (model X.prog X.w) X.A.in1 (ret (.ref h1.objs.size)) (fun fin s' => ∃ v, fin = PySem.Fin.done (.ret v) ∧ L2.EP X pins σ Q v s') X.xe s' := fun s' h => ⟨_, rfl, wpAny_pure ⟨_, rfl, h⟩⟩
  have hlt : ∀ b o, s.heap.get? b = some o → b < h1.objs.size := fun b o eb => Heap.lt_size (k1 b o eb)
  have hkS2 : h1.objs.size + 2 = h1.objs.size + 2 := rfl
  generalize h1.objs.size = a at *
  generalize hKe : a + 2 = kS at *
  unfold ksk_rest
  refine wpAny_bind (wpAny_rule ?_)
  first
    | rw [List.forIn_toArray]
    | (rw [← Array.forIn_toList]; simp only [List.toList_toArray])
    | rw [← Array.forIn_toList]
  refine wpAny_bind (ksk_fold (fun i s' => ∃ (kA : Array Value) (e : Nat) (H' : Hp) (ks : List V), Inv X pins σ H' s' ∧ Same H H' ∧ H' a = none ∧ H' kS = none ∧ s'.heap.get? kS = some (seqObj "list" kA e) ∧ s'.heap.get? a = some (seqObj "list" #[] e1) ∧ Vals ks kA.toList ∧ RpL X.K H' ks (kz.take i) [] ∧
      (∀ b o, s.heap.get? b = some o → H b = none → b ∉ frs X.stack → s'.heap.get? b = some o ∧ H' b = none)) us 0 _
    ⟨#[], 0, H, [], I2, Same.refl, Ha, Hk, nkS, na, .nil, by rw [List.take_zero]; exact .nil, fun b o eb n _ => ⟨k2 _ _ (k1 _ _ eb), n⟩⟩ ?step ?done)
  case step =>
    rintro j x s' hx ⟨kA, e, H', ks, I', sm, Ha', Hk', nk', na', vk, rk, kp⟩
    simp only [Nat.zero_add] at rk ⊢
    have hj : j < us.length := (List.getElem?_eq_some_iff.mp hx).1
    obtain ⟨kd, hkj⟩ : ∃ k, kz[j]? = some k := ⟨_, List.getElem?_eq_getElem (by omega)⟩
    obtain ⟨v, hvj, rvx⟩ := Vals.get hv hx
    have hzA : kA.size ≤ us.length := by
      have q1 : ks.length = kA.toList.length := vk.length
      have q2 : ks.length = (kz.take j).length := rk.length
      rw [Array.length_toList (xs := kA)] at q1
      rw [List.length_take] at q2
      omega
    refine wpAny_bind (wpAny_attempt (wpAny_mono (turn j v kd hvj hkj s' H' x I' sm (fun b o eb n nf => (kp b o eb n nf).1) rvx) (fun r s'' he => ?_) fun _ _ hF => hF.elim))
    obtain ⟨kv, H'', I'', sm2, un, rkv, rpk⟩ := he
    obtain ⟨nk2, Hk2⟩ := un_keepO un Ok Hk' nk'
    obtain ⟨na2, Ha2⟩ := un_keepO un Oa Ha' na'
    have s1 := Heap.SameBut.update s''.heap kS (Obj.mapSeq (·.push r))
    obtain ⟨c2, hc2⟩ : ∃ c2, (s''.heap.update kS (Obj.mapSeq (·.push r))).get? kS = some (seqObj "list" (kA.push r) c2) := ⟨_, get?_update_seq nk2 (·.push r)⟩
    have ek : kz.take (j + 1) = kz.take j ++ [kd] := by rw [List.take_add_one, hkj]; simp
    have ea : (kA.push r).toList = kA.toList ++ [r] := by simp
    have keepB : ∀ b o, b ≠ kS → s''.heap.get? b = some o → (s''.heap.update kS (Obj.mapSeq (·.push r))).get? b = some o := fun b o hb eb => (s1.2 b hb).trans eb
    refine wpAny_bind (listUpdate_at nk2 rfl ?_ (Nat.le_trans hzA hL) (Nat.le_trans (Nat.le_of_eq (Array.size_push ..)) (Nat.succ_le_succ (Nat.le_trans hzA hL))))
    refine wpAny_pure ⟨rfl, kA.push r, c2, H'', ks ++ [kv], Inv.ours I'' Ok Hk2 keepB, same_trans sm sm2, Ha2, Hk2, hc2, keepB _ _ hka.symm na2, ?_, ?_, fun b o eb n nf => ?_⟩
    · rw [ea]; exact Vals.snoc vk rkv
    · rw [ek]; exact RpL.snoc (rk.same sm2) rpk
    · obtain ⟨g1, g2⟩ := kp b o eb n nf
      refine ⟨keepB b o (fun z => ?_) (un.keep b o g1 g2 nf (by simp)), un.free b o g1 g2 (by simp)⟩
      exact absurd (hlt b o eb) (Nat.not_lt.mpr (by rw [z, ← hKe]; exact Nat.le_add_right a 2))
  case done =>
    rintro s' ⟨kA, e, H', ks, I', sm, Ha', Hk', nk', na', vk, rk, kp⟩
    have e3 : kz.take (0 + us.length) = kz := List.take_of_length_le (by omega)
    rw [e3] at rk
    have hk' : PySem.W.EachIs (fun v k => ∃ as, Reads s'.heap v k as) kA.toList kz := each_rp I' rk vk hpu
    have hszK : kA.size = us.length := by
      have q1 := hk'.length
      rw [Array.length_toList] at q1
      omega
    refine wpAny_bind (listItems_at nk' rfl ?_)
    have hid : ∀ b o, (PySem.W.hideAll s'.heap [kS]).get? b = some o → s'.heap.get? b = some o := fun b o eb => PySem.W.of_hideAll [kS] eb
    have hne : ∀ b o, b ≠ kS → s'.heap.get? b = some o → (PySem.W.hideAll s'.heap [kS]).get? b = some o := fun b o hb eb => PySem.W.hideAll_get [kS] eb (by simpa using hb)
    refine PySem.W.keyH_end (κ := PySem.W.dataKind s'.heap kz) (h₁ := PySem.W.hideAll s'.heap [kS]) (fun b o _ eb => hid b o eb) (PySem.W.hideAll_none [kS] (by simp)) nk' na' (by omega) (PySem.W.SortsAt.data (s := s') hk' hal hsb (fun d m => ?_)) hszK hL fun h3 tk3 c k3 n3 => ?_
    · have := hdp d m
      show X.A.units + 1 + 1 + d.depth < cLine
      omega
    refine fin _ ?_
    have hzz : (vs.zip kz).map Prod.snd = kz := List.map_snd_zip (by omega)
    have ko : PySem.W.KeyedOut false ((vs.zip kz).map Prod.snd) us (PySem.W.sortVals (PySem.W.dataKind s'.heap kz) false kA.toList us) := ⟨s'.heap, kA.toList, by rw [hzz]; exact hal, by rw [hzz], by rw [hzz]; exact hk'⟩
    have hout := PySem.W.keyedOut_each (β := V × D) Prod.snd ko (each_zip hv hlen)
    have hvals := each_vals hout
    have kk : ∀ b o, b ≠ a → b ≠ kS → s'.heap.get? b = some o → h3.get? b = some o := fun b o h1 h2 eb => k3 b o h1 (hne b o h2 eb)
    have nt : ∀ b u, H' b = some u → b ≠ a ∧ b ≠ kS := fun b u eb => ⟨fun z => (by rw [z, Ha'] at eb; cases eb), fun z => (by rw [z, Hk'] at eb; cases eb)⟩
    have nc : ∀ b, b ∉ [a, kS] → b ≠ a ∧ b ≠ kS := fun b m => ⟨fun z => m (by simp [z]), fun z => m (by simp [z])⟩
    refine ⟨.ref a, upd H' a (.lst (keyed vs kz)), ?_, rfl, q a _ (same_trans sm (same_upd Ha')) Ha upd_same⟩
    refine I'.step (g' := s'.gens) (d' := s'.drawn) (t' := tk3) (ch := [a, kS]) (fun b m => ?_) (fun b o _ _ hc e _ => kk b o (nc b hc).1 (nc b hc).2 e) (fun b o _ _ hc e _ => ⟨o.slots, kk b o (nc b hc).1 (nc b hc).2 e⟩)
      (fun b o hc e n => by rw [upd_ne (nc b hc).1]; exact n) (fun b o hc e => ⟨o, kk b o (nc b hc).1 (nc b hc).2 e⟩) (fun b xs e => by rw [upd_ne (nt b _ e).1]; exact e) (fun b o u e => by rw [upd_ne (nt b _ e).1]; exact e) (fun b ps e => ⟨#[], by rw [upd_ne (nt b _ e).1, e]; simp⟩) (fun m hm => ?_) (fun b u e => ?_) I'.bare
    · have : b = a ∨ b = kS := by simpa using m
      rcases this with z | z
      · rw [z]; exact ⟨.inr Oa.ge, Oa.loc, Oa.cell, Oa.pin⟩
      · rw [z]; exact ⟨.inr Ok.ge, Ok.loc, Ok.cell, Ok.pin⟩
    · obtain ⟨o, es, ep, ho, r⟩ := hm
      exact ⟨o, es, ep, kk _ o (Ne.symm Oa.loc) (Ne.symm Ok.loc) ho, r⟩
    · by_cases hb : b = a
      · rw [hb, upd_same] at e
        cases e
        rw [hb]
        refine ⟨?_, _, c, hvals, n3⟩
        unfold keyed
        rw [List.length_map, List.length_mergeSort, List.length_zip]
        exact mil_line (by omega)
      · rw [upd_ne hb] at e
        refine (I'.hok b u e).stay (fun c v hc r => ?_) (fun c r => by rw [upd_ne (nt c _ r).1]; exact r) fun c xs r => by rw [upd_ne (nt c _ r).1]; exact r
        rcases hc with z | z
        · rw [z] at r ⊢; exact kk _ _ (nt b _ e).1 (nt b _ e).2 r
        · exact kk _ _ (nt c _ z).1 (nt c _ z).2 r
end
end PV

set_option Elab.async false
set_option linter.all false
set_option maxRecDepth 100000
set_option maxHeartbeats 2000000
/-! sorted(xs, key=lambda i: ..) by values -/
namespace PV
open PySem PySem.Spec PyProof.Rows L2
variable [TN]

/-- what is sorted: a list, a tuple, a range -/
def SrcK (K : PySem.W.Frag) (H : Hp) (v : V) (xs : List V) : Prop := ∃ a, v = .ref a ∧ (SqL K H a xs ∨ SqT K H a xs ∨ ∃ lo hi, H a = some (.rng lo hi) ∧ xs = rgV lo hi ∧ RgOk lo hi)
theorem SrcK.same {K : PySem.W.Frag} {H H' : Hp} {v : V} {xs : List V} (h : SrcK K H v xs) (s : Same H H') : SrcK K H' v xs := by
  obtain ⟨a, e, h⟩ := h
  refine ⟨a, e, ?_⟩
  rcases h with h | h | ⟨lo, hi, h, e2, e3⟩
  · exact .inl (seq_keep h s)
  · exact .inr (.inl (sqT_keep h (Keep.of_same (F := fun _ => True) s)))
  · exact .inr (.inr ⟨lo, hi, s.at_ _ _ h trivial, e2, e3⟩)
theorem srcK_col {X : Cx} {pins : List (Addr × Obj)} {σ : L2.St} {H : Hp} {s : Shared} {v : V} {u : Value} {xs : List V} (hc : X.calm = true) (I : Inv X pins σ H s) (h : SrcK X.K H v xs) (r : RelV v u) (hz : xs.length ≤ 1000000) (E' : Value → Shared → Prop) (Q' : List Value → Shared → Prop)
    (q : ∀ us h' tk, Vals xs us → (∀ b o, s.heap.get? b = some o → h'.get? b = some o) → Q' us { s with heap := h', toks := tk }) : wpAny (model X.prog X.w) X.A.in1 (collect u) Q' E' s := by
  obtain ⟨a, e, h⟩ := h
  subst e
  obtain rfl : u = Value.ref a := r
  rcases h with h | h | ⟨lo, hi, h, e2, e3⟩
  · obtain ⟨its, rv, ⟨o, n, e, c, _, d⟩, _⟩ := I.list h
    exact collectSz (.inl rfl) e c d (by rw [List.size_toArray, ← rv.length]; exact mil_line hz) fun h' _ k => by
      simpa using q its h' s.toks rv k
  · obtain ⟨its, rv, ⟨o, e, c, n, d⟩, _⟩ := I.tuple h
    exact collectSz (.inr rfl) e c d (by rw [List.size_toArray, ← rv.length]; exact mil_line hz) fun h' _ k => by
      simpa using q its h' s.toks rv k
  · obtain ⟨t, u, v, ho⟩ := I.hok a _ h
    obtain ⟨b1, b2, b3, b4, b5⟩ := e3
    subst e2
    exact collect_range (n := (hi - lo).toNat) (show X.A.in1.handled = none from I.ok.hd hc) (show IsRange s.heap a lo hi 1 t u v from ho) (small_one b1 b2 b3 b4) (rangeSize_nat lo hi) b5 fun h' tk acc hk hi => q _ h' tk (vals_rg hi) hk
def restK (K : PySem.W.Frag) (j : Nat) (hk : Rh → Option D) (σ : L2.St) (Q : VK) (v : V) (H1 : Hp) : Prop := ∃ xs kz, SrcK K H1 v xs ∧ xs.length ≤ 1000000 ∧ TabI H1 ∧ okSort kz = true ∧ kz.length = xs.length ∧
  (∀ (i : Nat) (x : V) (kd : D), xs[i]? = some x → kz[i]? = some kd → ∀ H', Same H1 H' → ∃ ρ, RhR K ρ (σ.set j (some x)) H' ∧ hk ρ = some kd) ∧ ∀ p H', Same H1 H' → H1 p = none → H' p = some (.lst (keyed xs kz)) → Q (.ref p) H'
def tSrtK (K : PySem.W.Frag) (j : Nat) (hk : Rh → Option D) (ti : TE) : TE := fun σ H Q => ti σ H fun v H1 => restK K j hk σ Q v H1
section
variable {X : Cx} {k j : Nat} {c P : Addr} {params : Arguments} {body src : Expr} {scope : Scope} {a : Str} {p pos lpos kpos : Pos} {fb : Bool} {hk : Rh → Option D} {ti : TE}
theorem pe_sortK (hr : Room (k + 3) X.A) (hc : X.calm = true) (hg : Gl X "sorted") (hm : X.mg "sorted" = none) (hs : PE X src ti) (hn : TN.nm P = some (X.env.qual ++ "<lambda>")) (TB : LamX.TabB X.base X.mg c P) (hcode : X.env.code = .ref c)
    (L : Lam1 X.env.scope scope a) (hj : X.N[j]? = some a) (hjj : ∀ i, X.N[i]? = some a → i = j) (hb : ∀ (s : Shared) (H : Hp) (f c' : Addr), EP fb (LamX.lamCx X X.A.in1.in1 X.stack s H C8.E0 scope f c') body hk)
    (hdef : defaultsOf params X.env = ([], []) := by rfl) (hbind : ∀ (q : Str) (cl : List (Str × Addr)) (pm cv ctv u : Value), bindArgs (PySem.W.kla_fn "<lambda>" q params body scope cl pm cv ctv) ⟨[u], []⟩ = pure [(a, u)] := by intros; rfl)
    (he : backTo pos (starEach [src] X.env) = (false, eval src X.env) :: backTo pos (starEach [] X.env) := by rfl) (hpl : (backTo pos (starEach [src] X.env)).any (·.1) = false := by rfl) (na : starEach [src] X.env = (false, eval src X.env) :: starEach [] X.env := by rfl) :
    PE X (.Call (.Name "sorted" p) [src] [⟨some "key", .Lambda params body scope lpos, kpos⟩] pos) (tSrtK X.K j hk ti) := by
  refine ⟨fun pins s σ H Q I h => ?_⟩
  refine wpAny_Call_Name_kw (ld_blt I hg hm (show bootBuiltins (Str.ofString "sorted") = some (.builtin "sorted") by decide +kernel) ?_ (by decide) (by decide))
  refine PyProof.Rows.callWith_kw (thn ((pa_cons hs pa_nil na).run pos pins s σ H (fun vs H1 => match vs with | [v] => restK X.K j hk σ Q v H1 | _ => False) I h) fun us s1 hq => ?_) he hpl rfl rfl
  obtain ⟨vs, H1, I1, r1, q1⟩ := hq
  cases r1 with
  | nil => exact q1.elim
  | @cons v u _ _ r1 r2 =>
    cases r2 with
    | cons _ _ => exact q1.elim
    | nil =>
      obtain ⟨xs, kz, hsrc, hxl, tb, ok, hlen, turn, q⟩ := q1
      show wpAny _ _ (evalAll [do let v ← eval (.Lambda params body scope lpos) X.env; standAt pos; pure v]) _ _ s1
      refine wpAny_evalAll_cons (wpAny_bind (lam_make3 I1 tb hn TB hcode hdef (L.has I1.ok) fun f c' pm ctv H2 s2 I2 sm hf hfn hfr hcf => wpAny_bind (wpAny_standAt (wpAny_pure ?_))))
      refine wpAny_evalAll_nil ?_
      show wpAny (model X.prog X.w) X.A (call (.builtin "sorted") [u] [(Str.ofString "key", .ref f)]) _ _ s2
      have src2 : SrcK X.K H2 v xs := hsrc.same sm
      have hun := hr.un
      refine sortK_run (vs := xs) (kz := kz) (by omega) I2 ok hlen hxl (fun a => ksk_t1 f a) (fun E' Q' hq => srcK_col hc I2 src2 r1 hxl E' Q' hq) (fun i x kd hxi hki s' H' w I' sm' kp rw' => ?_) fun p H' sm' np hp => q p H' (same_trans sm sm') (Same.new sm np) hp
      obtain ⟨ρ, Rr, hkd⟩ := turn i x kd hxi hki H' (same_trans sm sm')
      obtain ⟨tb', pb, qb⟩ := hb s' H' f c'
      have hcf' : CodeF H' c' (X.env.qual ++ "<lambda>") := by
        obtain ⟨oc, vs, t, g1, g2⟩ := hcf
        exact ⟨oc, vs, t, sm'.at_ _ _ g1 trivial, g2⟩
      have hpk : pureD kd = true := pureL_mem (okSort_alike ok).1 _ (List.mem_of_getElem? hki)
      refine wpAny_call (codeAny_mono (lam_call (A := X.A.in1.in1) (k := k) (Q := fun kv H'' => Same H' H'' ∧ Rp X.K H'' kv kd []) I' L hr.in1.in1 (show X.A.frames = some X.stack from I'.ok.frames) (kp f _ hf hfn hfr) hcf' (hbind _ _ _ _ _ _) hj hjj rw' pb ?_) fun r s3 hq => ?_)
      · refine qb ρ (σ.set j (some x)) H' kd _ Rr hkd fun kv H'' fp s4 rp _ => ⟨s4, ?_⟩
        rw [Rp.pure _ _ _ rp hpk] at rp
        exact rp
      · cases r with
        | error e =>
          have hq : L2.CX X.prog X.w X.stack H' s' C8.E0 e s3 := hq
          obtain ⟨_, _, _, _, _, _, _, _, _, _, _, _, z⟩ := hq
          exact z.elim
        | ok fl =>
          cases fl with
          | ret u2 =>
            obtain ⟨kv, H'', os, bare, un, hok, r2, s4, rp⟩ := hq
            obtain ⟨hh, g, d, t, os'⟩ := s3
            obtain rfl : os' = s'.os := os
            exact ⟨kv, H'', I'.call (h' := hh) (g' := g) (d' := d) (t' := t) (ch := []) un hok bare (fun b z => absurd z (by simp)), s4, un, r2, rp⟩
          | next => exact False.elim hq
          | brk => exact False.elim hq
          | cont => exact False.elim hq
end
end PV

set_option Elab.async false
set_option linter.all false
set_option maxRecDepth 100000
set_option maxHeartbeats 2000000
/-! sorted(xs, key=lambda i: ..), sorted(range(n), key=lambda i: ..) by values -/
namespace PV
open PySem PySem.Spec PyProof.Rows L2
variable [TN]

def keysD (j : Nat) (hk : Rh → Option D) (ρ : Rh) : List D → Option (List D)
  | [] => some []
  | d :: ds => match hk (ρ.set j (some ⟨d, .ro⟩)), keysD j hk ρ ds with
    | some k, some ks => some (k :: ks)
    | _, _ => none
def sortKD (ds kz : List D) : List D := (isort (PySem.W.dataLe false Prod.snd) (ds.zip kz)).map Prod.fst
def sortKR (j : Nat) (hk : Rh → Option D) (ρ : Rh) (ds : List D) : Option D := if pureL ds = true ∧ ds.length ≤ 1000000 then (match keysD j hk ρ ds with
  | some kz => if okSort kz = true then some (.list (sortKD ds kz)) else none
  | none => none) else none
def sortKL (j : Nat) (hk h : Rh → Option D) : Rh → Option D := fun ρ => match h ρ with
  | some (.list ds) => sortKR j hk ρ ds
  | some (.tuple ds) => sortKR j hk ρ ds
  | _ => none
def sortKG (j : Nat) (hk h : Rh → Option D) : Rh → Option D := fun ρ => match h ρ with
  | some (.int n) => if n.natAbs ≤ 1000000 then sortKR j hk ρ (rangeD 0 n.toNat) else none
  | _ => none
theorem keysD_get {j : Nat} {hk : Rh → Option D} {ρ : Rh} : ∀ {ds kz : List D}, keysD j hk ρ ds = some kz → kz.length = ds.length ∧ ∀ (i : Nat) (d k : D), ds[i]? = some d → kz[i]? = some k → hk (ρ.set j (some ⟨d, .ro⟩)) = some k
  | [], kz, h => by cases h; exact ⟨rfl, fun i d k e => by simp at e⟩
  | d :: ds, kz, h => by
    unfold keysD at h
    split at h
    · rename_i k ks e1 e2
      cases h
      obtain ⟨l, g⟩ := keysD_get e2
      refine ⟨by simp [l], fun i d' k' h1 h2 => ?_⟩
      cases i with
      | zero => simp at h1 h2; subst h1; subst h2; exact e1
      | succ i => exact g i d' k' (by simpa using h1) (by simpa using h2)
    · cases h
theorem RhR.setRo {K : PySem.W.Frag} {ρ : Rh} {σ : L2.St} {H : Hp} {v : V} {d : D} {fp : List Addr} (R : RhR K ρ σ H) (j : Nat) (r : Rp K H v d fp) : RhR K (ρ.set j (some ⟨d, .ro⟩)) (σ.set j (some v)) H := by
  refine ⟨R.tb, by rw [List.length_set, List.length_set]; exact R.len, fun i c e => ?_⟩
  by_cases hi : i = j
  · subst hi
    by_cases hl : i < ρ.length
    · rw [List.getElem?_set_self hl] at e
      cases e
      exact ⟨v, fp, List.getElem?_set_self (by rw [R.len]; exact hl), r⟩
    · rw [List.getElem?_eq_none (by rw [List.length_set]; omega)] at e; cases e
  · rw [List.getElem?_set_ne (Ne.symm hi)] at e ⊢
    exact R.rp i c e
theorem RpL.getN0 {K : PySem.W.Frag} {H : Hp} : ∀ {vs : List V} {ds : List D}, RpL K H vs ds [] → ∀ {i : Nat} {v : V}, vs[i]? = some v → ∃ d, ds[i]? = some d ∧ Rp K H v d [] := fun {vs ds} r {i v} e => by
  obtain ⟨d, f, e1, r1, m⟩ := r.getV e
  have : f = [] := List.eq_nil_iff_forall_not_mem.mpr fun a ha => by cases m a ha
  subst this
  exact ⟨d, e1, r1⟩
theorem zip_mapL {α β γ : Type} (f : α → β) : ∀ (l : List α) (m : List γ), (l.map f).zip m = (l.zip m).map fun t => (f t.1, t.2)
  | [], _ => rfl
  | _ :: _, [] => rfl
  | a :: l, b :: m => by simp [zip_mapL f l m]
/-- the sorted items read as the sorted data -/
theorem keyed_rp {K : PySem.W.Frag} {H : Hp} {vs : List V} {ds kz : List D} (r : RpL K H vs ds []) (hl : kz.length = ds.length) : RpL K H (keyed vs kz) (sortKD ds kz) [] := by
  obtain ⟨ps, e1, e2, hp⟩ := r.pairs
  subst e1; subst e2
  have h1 : (ps.map Prod.fst).zip kz = (ps.zip kz).map (fun t => (t.1.1, t.2)) := zip_mapL _ ps kz
  have h2 : (ps.map Prod.snd).zip kz = (ps.zip kz).map (fun t => (t.1.2, t.2)) := zip_mapL _ ps kz
  unfold keyed sortKD
  rw [isort_eq (dataLe_total _ _), h1, h2, ← PySem.W.sort_maps (r := PySem.W.dataLe false Prod.snd) (s := PySem.W.dataLe false Prod.snd) (fun t : (V × D) × D => (t.1.1, t.2)) (fun _ _ _ _ => rfl), ← PySem.W.sort_maps (r := PySem.W.dataLe false Prod.snd) (s := PySem.W.dataLe false Prod.snd) (fun t : (V × D) × D => (t.1.2, t.2)) (fun _ _ _ _ => rfl), List.map_map, List.map_map]
  have := RpL.of_pairs (K := K) (H := H) (ps := ((ps.zip kz).mergeSort (PySem.W.dataLe false Prod.snd)).map Prod.fst) fun p m => by
    obtain ⟨t, ht, rfl⟩ := List.mem_map.mp m
    exact hp _ (List.of_mem_zip (List.mem_mergeSort.mp ht)).1
  rw [List.map_map, List.map_map] at this
  exact this
theorem keyed_len {vs : List V} {kz : List D} (h : kz.length = vs.length) : (keyed vs kz).length = vs.length := by
  unfold keyed
  rw [List.length_map, List.length_mergeSort, List.length_zip, h, Nat.min_self]
theorem sortK_rest {K : PySem.W.Frag} {j : Nat} {hk : Rh → Option D} {ρ : Rh} {σ : L2.St} {H1 : Hp} {v : V} {xs : List V} {ds : List D} {d : D} {Q : VK} (R : RhR K ρ σ H1) (hs : SrcK K H1 v xs) (r : RpL K H1 xs ds []) (h : sortKR j hk ρ ds = some d)
    (q : ∀ v H' fp, Same H1 H' → Rp K H' v d fp → (fp.Nodup ∧ ∀ a ∈ fp, H1 a = none) → Q v H') : restK K j hk σ Q v H1 := by
  unfold sortKR at h
  split at h
  · rename_i hc
    split at h
    · rename_i kz ek
      split at h
      · rename_i ok
        cases h
        obtain ⟨hl, hg⟩ := keysD_get ek
        have hlv : kz.length = xs.length := hl.trans r.length.symm
        refine ⟨xs, kz, hs, by rw [r.length]; exact hc.2, R.tb, ok, hlv, fun i x kd e1 e2 H' s' => ?_, fun p H' s' np hp => ?_⟩
        · obtain ⟨d, ed, rd⟩ := r.getN0 e1
          exact ⟨_, (R.same s').setRo j (rd.same s'), hg i d kd ed e2⟩
        · refine q (.ref p) H' [p] s' (.lst hp ?_ (keyed_rp (r.same s') hl)) ⟨by simp, fun a m => by rw [List.mem_singleton] at m; rw [m]; exact np⟩
          rw [keyed_len hlv, r.length]
          exact mil_line hc.2
      · cases h
    · cases h
  · cases h
section
variable {X : Cx} {k j : Nat} {c P : Addr} {params : Arguments} {body src : Expr} {scope : Scope} {a : Str} {p p2 pos pos2 lpos kpos : Pos} {fa fb : Bool} {h hk : Rh → Option D}
theorem ep_sortLam (hr : Room (k + 3) X.A) (hc : X.calm = true) (hg : Gl X "sorted") (hm : X.mg "sorted" = none) (hs : EP fa X src h) (hn : TN.nm P = some (X.env.qual ++ "<lambda>")) (TB : LamX.TabB X.base X.mg c P) (hcode : X.env.code = .ref c)
    (L : lam1B X.env.scope scope a = true) (hj : X.N[j]? = some a) (hjj : ∀ i, X.N[i]? = some a → i = j) (hb : ∀ (s : Shared) (H : Hp) (f c' : Addr), EP fb (LamX.lamCx X X.A.in1.in1 X.stack s H C8.E0 scope f c') body hk)
    (hdef : defaultsOf params X.env = ([], []) := by rfl) (hbind : ∀ (q : Str) (cl : List (Str × Addr)) (pm cv ctv u : Value), bindArgs (PySem.W.kla_fn "<lambda>" q params body scope cl pm cv ctv) ⟨[u], []⟩ = pure [(a, u)] := by intros; rfl)
    (he : backTo pos (starEach [src] X.env) = (false, eval src X.env) :: backTo pos (starEach [] X.env) := by rfl) (hpl : (backTo pos (starEach [src] X.env)).any (·.1) = false := by rfl) (na : starEach [src] X.env = (false, eval src X.env) :: starEach [] X.env := by rfl) :
    EP true X (.Call (.Name "sorted" p) [src] [⟨some "key", .Lambda params body scope lpos, kpos⟩] pos) (sortKL j hk h) := by
  obtain ⟨t, pe, hq⟩ := hs
  refine ⟨_, pe_sortK hr hc hg hm pe hn TB hcode (lam1_by L) hj hjj hb hdef hbind he hpl na, fun ρ σ H d Q R hd q => ?_⟩
  have go : ∀ {ds : List D} {v : V} {xs : List V} {H1 : Hp} {fp : List Addr}, Same H H1 → SrcK X.K H1 v xs → RpL X.K H1 xs ds fp → sortKR j hk ρ ds = some d → restK X.K j hk σ Q v H1 := fun {ds v xs H1 fp} s hs r e => by
    have hp : pureL ds = true := by
      unfold sortKR at e
      split at e
      · rename_i hc; exact hc.1
      · cases e
    rw [RpL.pure _ _ _ r hp] at r
    exact sortK_rest (R.same s) hs r e fun v H' fp s' rp n => q v H' fp (same_trans s s') rp fun _ => ⟨n.1, fun a m => Same.new s (n.2 a m)⟩
  unfold sortKL at hd
  split at hd
  · rename_i ds e1
    refine hq ρ σ H _ _ R e1 fun v H1 fp s r _ => ?_
    cases r with
    | lst h1 h2 h3 => exact go s ⟨_, rfl, .inl (.inl (.inl h1))⟩ h3 hd
  · rename_i ds e1
    refine hq ρ σ H _ _ R e1 fun v H1 fp s r _ => ?_
    cases r with
    | tup h1 h2 h3 => exact go s ⟨_, rfl, .inr (.inl (sqt h1))⟩ h3 hd
  · cases hd
/-- range(e) as a value -/
theorem pe_rng1 {e : Expr} {te : TE} (hg : Gl X "range") (hm : X.mg "range" = none) (he : PE X e te) (na : starEach [e] X.env = (false, eval e X.env) :: starEach [] X.env := by rfl) :
    PE X (.Call (.Name "range" p2) [e] [] pos2) (fun σ H Q => te σ H fun v H1 => ∃ n, v = .int n ∧ ∀ q, H1 q = none → Q (.ref q) (upd H1 q (.rng 0 n))) := by
  refine ⟨fun pins s σ H Q I h => ?_⟩
  refine Call_ (ld_blt I hg hm boot_range (PyProof.Rows.callWith_type1 (one_arg he I h (fun v s2 x H2 I2 r q => ?_) na) na))
  obtain ⟨n, rfl, q⟩ := q
  obtain ⟨t, rfl⟩ := r
  refine call_range_1 ⟨.ref s2.heap.objs.size, upd H2 s2.heap.objs.size (.rng 0 n), I2.laid (t' := s2.toks + 1 + 1) (fun b o e => Heap.get?_push_of_some _ e) (Nat.le_refl _) ?_, rfl, q _ (I2.hok.fresh (Nat.le_refl _))⟩
  exact ⟨_, _, _, Heap.get?_push_size _ rfl⟩
theorem ep_sortLamR {e : Expr} (hr : Room (k + 3) X.A) (hc : X.calm = true) (hg : Gl X "sorted") (hm : X.mg "sorted" = none) (hg2 : Gl X "range") (hm2 : X.mg "range" = none) (hs : EP fa X e h) (hn : TN.nm P = some (X.env.qual ++ "<lambda>")) (TB : LamX.TabB X.base X.mg c P) (hcode : X.env.code = .ref c)
    (L : lam1B X.env.scope scope a = true) (hj : X.N[j]? = some a) (hjj : ∀ i, X.N[i]? = some a → i = j) (hb : ∀ (s : Shared) (H : Hp) (f c' : Addr), EP fb (LamX.lamCx X X.A.in1.in1 X.stack s H C8.E0 scope f c') body hk)
    (hdef : defaultsOf params X.env = ([], []) := by rfl) (hbind : ∀ (q : Str) (cl : List (Str × Addr)) (pm cv ctv u : Value), bindArgs (PySem.W.kla_fn "<lambda>" q params body scope cl pm cv ctv) ⟨[u], []⟩ = pure [(a, u)] := by intros; rfl)
    (ne : starEach [e] X.env = (false, eval e X.env) :: starEach [] X.env := by rfl)
    (he : backTo pos (starEach [.Call (.Name "range" p2) [e] [] pos2] X.env) = (false, eval (.Call (.Name "range" p2) [e] [] pos2) X.env) :: backTo pos (starEach [] X.env) := by rfl) (hpl : (backTo pos (starEach [.Call (.Name "range" p2) [e] [] pos2] X.env)).any (·.1) = false := by rfl)
    (na : starEach [.Call (.Name "range" p2) [e] [] pos2] X.env = (false, eval (.Call (.Name "range" p2) [e] [] pos2) X.env) :: starEach [] X.env := by rfl) :
    EP true X (.Call (.Name "sorted" p) [.Call (.Name "range" p2) [e] [] pos2] [⟨some "key", .Lambda params body scope lpos, kpos⟩] pos) (sortKG j hk h) := by
  obtain ⟨t, pe, hq⟩ := hs
  refine ⟨_, pe_sortK hr hc hg hm (pe_rng1 hg2 hm2 pe ne) hn TB hcode (lam1_by L) hj hjj hb hdef hbind he hpl na, fun ρ σ H d Q R hd q => ?_⟩
  unfold sortKG at hd
  split at hd
  · rename_i n e1
    split at hd
    · rename_i hn
      refine hq ρ σ H _ _ R e1 fun v H1 fp s r _ => ?_
      cases r
      refine ⟨n, rfl, fun q0 nq => ?_⟩
      have s1 : Same H1 (upd H1 q0 (.rng 0 n)) := same_upd nq
      have hr0 := rg_rel (K := X.K) (H := upd H1 q0 (.rng 0 n)) 0 n
      rw [Int.sub_zero] at hr0
      refine sortK_rest ((R.same s).same s1) ⟨q0, rfl, .inr (.inr ⟨0, n, upd_same, rfl, rgOk_of (by decide) hn⟩)⟩ hr0 hd fun v H' fp s' rp m => q v H' fp (same_trans (same_trans s s1) s') rp fun _ => ⟨m.1, fun a ma => Same.new (same_trans s s1) (m.2 a ma)⟩
    · cases hd
  · cases hd
end
end PV

set_option Elab.async false
set_option linter.all false
set_option maxRecDepth 100000
set_option maxHeartbeats 2000000
/-! defs that make lambdas; the end with tables of code objects -/
namespace PV
open PySem PySem.Spec PyProof.Rows L2
section
variable [TN]
/-- the def at f: its code object and its table, which is followed -/
structure HasTab (K : PySem.W.Frag) (mg : Str → Option Value) (base : Heap) (f : Addr) (q : Str) : Prop where
  ex : ∃ c P, (∀ oc od fd osl, K.lookup f = some ⟨oc, od, .func fd, osl⟩ → fd.code = .ref c) ∧ TN.nm P = some ((q ++ ".<locals>.") ++ "<lambda>") ∧ LamX.TabB base mg c P
variable {P : Program} {w : World} {K : PySem.W.Frag} {mg : Str → Option Value} {base : Heap}
theorem FnD.walkL {x qual : Str} {st : Stmt} {f : Addr} {fd : FuncData} {N ps : List Str} {k : Nat} {sp : Sp} (F : FnD K x qual st f fd) (T : HasTab K mg base f qual) (S : FnScope N ps (defScope st)) (hl : ∀ vs H Q E, sp vs H Q E → vs.length = ps.length)
    (hb : ∀ (c PT : Addr), TN.nm PT = some ((qual ++ ".<locals>.") ++ "<lambda>") → LamX.TabB base mg c PT → ∀ (A : Around) (outer : List Env) (s : Shared) (H : Hp) (vs : List V) (Q : VK) (E : XK), Room k (A.deeper (envOfC qual (defScope st) s.heap.objs.size f (.ref c))) → sp vs H Q E →
      ∃ t, PSs (cxOf CX0 P w K mg base N qual (defScope st) f (.ref c) A outer s H E).nox (defBody st) t ∧ t { nx := fun _ H' => Q .non H', rt := Q } (start N vs) H) : FnOk P w K mg base CX0 (k + 1) f fd ps sp := by
  obtain ⟨oc, od, dV, kV, doc, pm, an, cdv, ct, osl, rfl, lk, hcd, _, _⟩ := F.ex
  obtain ⟨c, PT, h1, h2, h3⟩ := T.ex
  have e : cdv = .ref c := h1 _ _ _ _ lk
  subst e
  exact fn_of lk hcd S hl fun A outer s H vs Q E hr hsp => let ⟨t, h, q⟩ := hb c PT h2 h3 A outer s H vs Q E hr hsp; ⟨t, h.nox, q⟩
theorem fnPL {x qual : Str} {st : Stmt} {f : Addr} {fd : FuncData} {N ps : List Str} {k : Nat} {B : Rh → Out} (F : FnD K x qual st f fd) (T : HasTab K mg base f qual) (S : FnScope N ps (defScope st))
    (hb : ∀ (c PT : Addr), TN.nm PT = some ((qual ++ ".<locals>.") ++ "<lambda>") → LamX.TabB base mg c PT → ∀ (A : Around) (outer : List Env) (s : Shared) (H : Hp) (E : XK), Room k (A.deeper (envOfC qual (defScope st) s.heap.objs.size f (.ref c))) → BS (cxOf CX0 P w K mg base N qual (defScope st) f (.ref c) A outer s H E).nox (defBody st) B) :
    FnOk P w K mg base CX0 (k + 1) f fd ps (spP K ps.length (runP N.length B)) := by
  refine F.walkL T S (fun vs H Q E h => h.1) fun c PT hn TB A outer s H vs Q E hr h => ?_
  obtain ⟨hl, ds, fs, d, rp, hd, tb, q⟩ := h
  obtain ⟨t, pe, hq⟩ := hb c PT hn TB A outer s H E hr
  refine ⟨t, pe, ?_⟩
  obtain ⟨f0, hf0⟩ := rp.fn
  have hlen := rp.length
  have R : Rho K ⟨fun a => H a ≠ none, fun _ => False⟩ (fun _ => none) (rho0 N.length ds) (start N vs) H f0 := by
    refine ⟨tb, ?_, fun a h => h.elim id fun z => z.elim, fun i c e => ?_, fun i c e wr => ?_, fun i c e a m z => z, fun i j c c' hij e wr => ?_, fun i v z => nomatch z⟩
    · unfold rho0 L2.start; simp [hlen]
    · obtain ⟨d', e1, rfl⟩ := rho0_get e
      obtain ⟨v, e2, r⟩ := hf0 i d' e1
      exact ⟨v, start_get e2, r⟩
    · obtain ⟨d', e1, rfl⟩ := rho0_get e; cases wr
    · obtain ⟨d', e1, rfl⟩ := rho0_get e; cases wr
  refine hq _ _ _ _ H f0 _ R ?_
  have sm : ∀ H', Keep (Fm.all ⟨fun a => H a ≠ none, fun _ => False⟩) H H' → Same H H' := fun H' k => ⟨fun a o e n => k.at_ a o e (.inl (.inl (fun z => by rw [e] at z; cases z))) n, fun a n => Classical.byContradiction fun z => z (k.dom a (.inl z) n), k.tab⟩
  unfold runP at hd
  split at hd
  · rename_i d' ρ' e
    cases hd
    rw [e]
    exact fun v σ' H' f' fp R' fr k => q v H' fp (sm H' k) fr.rp fr.nd fun a m => Classical.byContradiction fun z => fr.nf a m (.inl z)
  · rename_i ρ' e
    cases hd
    rw [e]
    exact fun σ' H' f' R' k => q .non H' [] (sm H' k) .non List.nodup_nil fun a m => nomatch m
  · cases hd
theorem KnP.ofAL {x y qual : Str} {st : Stmt} {f : Addr} {fd : FuncData} {N ps : List Str} {k : Nat} {B : Rh → Out} (F : FnD K x qual st f fd) (T : HasTab K mg base f qual) (S : FnScope N ps (defScope st)) (hm : mg y = some (.ref f)) (hb : Binds K fd ps [])
    (h : ∀ (c PT : Addr), TN.nm PT = some ((qual ++ ".<locals>.") ++ "<lambda>") → LamX.TabB base mg c PT → ∀ (A : Around) (outer : List Env) (s : Shared) (H : Hp) (E : XK), Room k (A.deeper (envOfC qual (defScope st) s.heap.objs.size f (.ref c))) → BS (cxOf CX0 P w K mg base N qual (defScope st) f (.ref c) A outer s H E).nox (defBody st) B) :
    KnP P w K mg base (k + 1) y ps.length (runF ps.length N.length B) :=
  ⟨⟨f, fd, ps, hm, F.kp, hb, rfl, fnP_imp (fnPL F T S h) fun ds d e => by unfold runF at e; split at e <;> first | exact e | cases e⟩, fun ds d e => by unfold runF at e; split at e <;> first | assumption | cases e⟩
theorem nd_ixP {α : Type} {a : α} : ∀ {l : List α} {i j : Nat}, l.Nodup → l[i]? = some a → l[j]? = some a → i = j
  | [], i, j, _, h, _ => by simp at h
  | b :: l, 0, 0, _, _, _ => rfl
  | b :: l, 0, j + 1, nd, h1, h2 => by
    rw [List.nodup_cons] at nd
    simp at h1 h2
    exact absurd (h1 ▸ List.mem_of_getElem? h2) nd.1
  | b :: l, i + 1, 0, nd, h1, h2 => by
    rw [List.nodup_cons] at nd
    simp at h1 h2
    exact absurd (h2 ▸ List.mem_of_getElem? h1) nd.1
  | b :: l, i + 1, j + 1, nd, h1, h2 => by
    rw [List.nodup_cons] at nd
    have : i = j := nd_ixP (l := l) nd.2 (by simpa using h1) (by simpa using h2)
    rw [this]
end
/-! ### the names of the tables -/
/-- the followed tables: those of the defs told -/
@[reducible] def tnK (K : PySem.W.Frag) (tf : List (He.Defn × Str)) : TN := ⟨fun P => (tf.find? fun p => (He.cT K p.1).2 == P).map fun p => (p.2 ++ ".<locals>.") ++ "<lambda>"⟩
theorem tnK_nm {K : PySem.W.Frag} {tf : List (He.Defn × Str)} (nd : (tf.map fun p => (He.cT K p.1).2).Nodup) {p : He.Defn × Str} (h : p ∈ tf) : (tnK K tf).nm (He.cT K p.1).2 = some ((p.2 ++ ".<locals>.") ++ "<lambda>") := by
  show ((tf.find? fun q => (He.cT K q.1).2 == (He.cT K p.1).2).map _) = _
  have : tf.find? (fun q => (He.cT K q.1).2 == (He.cT K p.1).2) = some p := by
    induction tf with
    | nil => cases h
    | cons q tf ih =>
      rw [List.map_cons, List.nodup_cons] at nd
      rw [List.find?_cons]
      rcases List.mem_cons.mp h with e | e
      · subst e; simp
      · have hne : ((He.cT K q.1).2 == (He.cT K p.1).2) = false := by
          cases z : ((He.cT K q.1).2 == (He.cT K p.1).2) with
          | false => rfl
          | true => exact absurd (List.mem_map.mpr ⟨p, e, (beq_iff_eq.mp z).symm⟩) nd.1
        rw [hne]
        exact ih nd.2 e
  rw [this]; rfl
theorem tabI_start {K : PySem.W.Frag} {tf : List (He.Defn × Str)} {H : Hp} (h : ∀ p ∈ tf.map (fun p => He.cT K p.1), H p.2 = some (.tbl #[])) : @TabI (tnK K tf) H := by
  intro P q e
  have e' : (tnK K tf).nm P = some q := e
  unfold tnK at e'
  simp only at e'
  cases z : tf.find? fun p => (He.cT K p.1).2 == P with
  | none => rw [z] at e'; cases e'
  | some p =>
    have hm := List.mem_of_find?_eq_some z
    have hp := List.find?_some z
    have hP : (He.cT K p.1).2 = P := beq_iff_eq.mp hp
    have ht := h _ (List.mem_map.mpr ⟨p, hm, rfl⟩)
    rw [hP] at ht
    exact ⟨#[], ht, True.intro, fun pos cv hc => by
      have z : codeAmong pos [] = some cv := hc
      simp [codeAmong] at z⟩
theorem hasTab_of {K : PySem.W.Frag} {mg : Str → Option Value} {base : Heap} {tf : List (He.Defn × Str)} {x q : Str} {p : He.Defn} (nd : (tf.map fun p => (He.cT K p.1).2).Nodup) (h : (p, q) ∈ tf) (TB : LamX.TabB base mg (He.cT K p).1 (He.cT K p).2) {fd0 : FuncData} {st : Stmt} (D : FnD K x q st (He.fAd K p) fd0) : @HasTab (tnK K tf) K mg base (He.fAd K p) q := by
  refine @HasTab.mk (tnK K tf) K mg base _ _ ⟨(He.cT K p).1, (He.cT K p).2, fun oc od fd osl lk => ?_, tnK_nm nd h, TB⟩
  obtain ⟨oc', od', dV, kV, doc, pm, an, cdv, ct, osl', rfl, lk', hcd, _, _⟩ := D.ex
  obtain ⟨c, ec⟩ := He.codeIn_ref hcd
  rw [lk'] at lk
  cases lk
  have : He.codeOf K p = c := He.codeOf_eq lk' ec
  show cdv = .ref (He.codeOf K p)
  rw [this]; exact ec
/-- the end of a law whose defs make lambdas -/
theorem walk_ofTE {l : PySem.W.OpenLaw} {n k : Nat} {q : Program} {loose : List Str} {XP : (Str → Option Value) → Heap → Prop} {YP : World → Heap → Prop} {d : DefRec} {CX : CXT} {x : Str}
    (hn : l.most = some n) (hn2 : n ≤ sizeLine) (hdf : d.params.defaults = []) (hr : Room k callerA)
    (F : ∀ (w : World) (mg : Str → Option Value) (fa : Addr) (h : Heap), YP w h → h.Ns mainGlobals mg → mg d.name = some (.ref fa) →
      ∃ (K : PySem.W.Frag) (fd : FuncData) (cs : List (Addr × Addr)) (sp : Sp), K.In h ∧ (∀ p ∈ cs, h.get? p.2 = some { cls := .none, data := .fields #[] }) ∧ (∀ p ∈ cs, K.lookup p.2 = none) ∧ (∀ p ∈ cs, PySem.W.CodeHd h p.1 p.2) ∧ (∀ (s : Shared) (u : Value), BindsTo s fd ⟨[u], []⟩ [(x, u)]) ∧
        (∀ (H : Hp) (a : Addr) (ns : List Int), ns.length ≤ n → (∀ p ∈ cs, H p.2 = some (.tbl #[])) → SqL K H a (ns.map V.int) → sp [.ref a] H (fun v _ => v = .bl true) fun _ _ _ => False) ∧
        ∀ base : Heap, K.In base → base.Ns mainGlobals mg → (∀ p ∈ cs, LamX.TabB base mg p.1 p.2) → FnOk l.prog w K mg base CX k fa fd [x] sp)
    (hCX : ∀ (H : Hp) (s : Shared) (e : Value) (s' : Shared), CX [] H s (fun _ _ _ => False) e s' → False) :
    PySem.W.WalkO q loose XP YP l.row.toRowW d [] (fun f vs => PySem.call f vs) := by
  refine Att.attach_call hn hdf fun w s₀ s₁ mg mb fa o pm cd doc a vs ns G Y ho hd hcd hmg hobj hints hlen hg => ?_
  obtain ⟨K, fd, cs, sp, KX, hT, nT, C, hb, hsp, hF⟩ := F w mg fa _ Y G.T.g hmg
  exact LamX.law_callTs KX G.T.g G.T.b G.T.builtins G.T.nolimit hg hT nT C G.T.bmain hobj hints (Nat.le_trans hlen hn2) hr hF hb (fun H hH hS => hsp H a ns hlen hH hS) fun H e s' => hCX H s₁ e s'
end PV
namespace PV
open PySem PySem.Spec PyProof.Rows L2
theorem room3 {k : Nat} {A : Around} (r : Room (k + 3) A) (env : Env) : Room k (A.in1.in1.deeper env) := (r.in1.in1).deeper env
end PV

set_option Elab.async false
set_option linter.all false
set_option maxRecDepth 100000
set_option maxHeartbeats 2000000
/-! t[::-1] -/
namespace PV
open PySem PySem.Spec PyProof.Rows L2
variable [TN]

section
variable {prog : Program} {w : World} {A : Around} {E : Value → Shared → Prop} {s : Shared}
theorem adjust_rev (n : Nat) : Builtin.Slice.sliceAdjust none none (-1) (n : Int) = ((n : Int) - 1, -1) := by
  unfold Builtin.Slice.sliceAdjust
  rfl
theorem places_rev (n : Nat) : Builtin.Slice.slicePlaces ((n : Int) - 1) (-1) (-1) = n := by
  unfold Builtin.Slice.slicePlaces
  simp
  split <;> omega
theorem fm_congr {α β : Type} {f g : α → Option β} : ∀ {l : List α}, (∀ a ∈ l, f a = g a) → l.filterMap f = l.filterMap g
  | [], _ => rfl
  | a :: l, h => by rw [List.filterMap_cons, List.filterMap_cons, h a List.mem_cons_self, fm_congr fun b m => h b (List.mem_cons_of_mem _ m)]
theorem fm_range {α : Type} : ∀ ys : List α, (List.range ys.length).filterMap (fun m => ys[m]?) = ys
  | [] => rfl
  | y :: ys => by
    rw [List.length_cons, List.range_succ_eq_map, List.filterMap_cons]
    simp only [List.getElem?_cons_zero]
    rw [List.filterMap_map]
    have : ((fun m => (y :: ys)[m]?) ∘ Nat.succ) = fun m => ys[m]? := by funext m; simp
    rw [this, fm_range ys]
theorem pick_rev (xs : List Value) : ((List.range xs.length).filterMap fun (m : Nat) => (xs.toArray)[(((xs.length : Int) - 1) + (m : Int) * (-1)).toNat]?) = xs.reverse := by
  have e : ∀ m ∈ List.range xs.length, (xs.toArray)[(((xs.length : Int) - 1) + (m : Int) * (-1)).toNat]? = xs.reverse[m]? := fun m hm => by
    have hm := List.mem_range.mp hm
    have : (((xs.length : Int) - 1) + (m : Int) * (-1)).toNat = xs.length - 1 - m := by omega
    rw [this, List.getElem?_reverse hm]
    simp
  rw [fm_congr e]
  have := fm_range xs.reverse
  rw [List.length_reverse] at this
  exact this
theorem getItem_tuple_rev {t sl : Addr} {items : List Value} {vs : Value} {Q : Value → Shared → Prop} (ht : IsTup s.heap t items.toArray) (hs : s.heap.IsSliceOf sl .none .none vs) (ps : IsPart vs (some (-1)))
    (h : Q (.ref s.heap.objs.size) { s with heap := s.heap.push { cls := .type "tuple", data := .seq items.reverse.toArray } }) (hsz : items.length ≤ sizeLine) : wpAny (model prog w) A (getItem (.ref t) (.ref sl)) Q E s := by
  have htake : sizeOk (.seq items.reverse.toArray) := by
    show items.reverse.toArray.size ≤ sizeLine
    rw [List.size_toArray, List.length_reverse]; exact hsz
  obtain ⟨os, hos, hcs, hds⟩ := id hs
  have hTs : s.TypeIs (.ref sl) "slice" := ⟨os, hos, hcs⟩
  unfold getItem
  try with_reducible refine wpAny_holding ?_
  first | refine wpAny_bind (wpAny_pure ?_) | skip
  refine wpAny_bind (wpAny_sequenceKey ht.typeIs (by decide) ?_)
  refine wpAny_bind (wpAny_callSpecial?_slot (name := Str.ofString "__getitem__") ht.typeIs PyProof.Rows.slot_tuple_getitem
    (wpAny_call_entry PyProof.Rows.slot_tuple_getitem ht.typeIs entry_tuple_getitem ?_ (args_tuple_getitem _ _)))
  show wpAny _ _ (Builtin.Tuple.tupleItemsOf (.ref t) >>= _) _ _ s
  refine wpAny_bind (tupleItemsOf_ ht ?_)
  refine wpAny_bind (wpAny_typeOf hTs ?_)
  rw [if_pos (by decide)]
  have hap : ∀ (Q2 : Int × Int × Nat → Shared → Prop) (E2 : Value → Shared → Prop) (A2 : Around), Q2 ((items.length : Int) - 1, -1, items.length) s → wpAny (model prog w) A2 (Builtin.Slice.sliceApplied (.ref sl) (pure (items.toArray.size : Int))) Q2 E2 s := fun Q2 E2 A2 h2 => by
    unfold Builtin.Slice.sliceApplied Builtin.Slice.sliceFields
    refine wpAny_bind (wpAny_bind (wpAny_field hos hds (x := .none) rfl (wpAny_bind (wpAny_field hos hds (x := .none) rfl (wpAny_bind (wpAny_field hos hds (x := vs) rfl (wpAny_pure ?_)))))))
    refine wpAny_bind (HT.slicePart_ ps ?_)
    show wpAny _ _ (if ((-1 : Int) == 0) = true then _ else _) _ _ s
    rw [if_neg (by decide)]
    refine wpAny_bind (HT.slicePart_ .none (wpAny_bind (HT.slicePart_ .none (wpAny_bind (wpAny_pure ?_)))))
    rw [List.size_toArray]
    show wpAny _ _ (match Builtin.Slice.sliceAdjust none none (-1) (items.length : Int) with | (lo, hi) => pure (lo, (-1 : Int), Builtin.Slice.slicePlaces lo hi (-1))) _ _ s
    rw [adjust_rev]
    show wpAny _ _ (pure ((items.length : Int) - 1, (-1 : Int), Builtin.Slice.slicePlaces ((items.length : Int) - 1) (-1) (-1))) _ _ s
    rw [places_rev]
    exact wpAny_pure h2
  refine wpAny_bind (hap _ _ _ ?_)
  show wpAny _ _ (if (((items.length : Int) - 1) == 0 && (-1 : Int) == 1 && items.length == items.toArray.size) = true then _ else _) _ _ s
  rw [if_neg (by simp), pick_rev]
  first
    | exact wpAny_bind (m := Builtin.Tuple.tupleExact _) (wpAny_newObj_type (wpAny_pure ⟨_, rfl, wpAny_pure h⟩) htake)
    | exact wpAny_bind (m := Builtin.Tuple.tupleExact _) (wpAny_newObj_type (wpAny_bind (wpAny_pure (wpAny_pure ⟨_, rfl, wpAny_pure h⟩))) htake)
    | exact wpAny_bind (wpAny_bind (m := Builtin.Tuple.tupleExact _) (wpAny_newObj_type (wpAny_pure (wpAny_pure ⟨_, rfl, wpAny_pure h⟩)) htake))
    | exact wpAny_bind (wpAny_bind (m := Builtin.Tuple.tupleExact _) (wpAny_newObj_type (wpAny_pure ⟨_, rfl, wpAny_pure h⟩) htake))
end
/-- xs[::-1], t[::-1] -/
def rRevB (K : PySem.W.Frag) : V → Hp → VK → Prop := fun x H Q => ∃ a xs, x = .ref a ∧ ((SqL K H a xs ∧ ∀ p, H p = none → Q (.ref p) (upd H p (.lst xs.reverse))) ∨ (SqT K H a xs ∧ ∀ p, H p = none → Q (.ref p) (upd H p (.tup xs.reverse))))
section
variable {X : Cx} {fa : Bool} {h : Rh → Option D} {g : Rh → Option (D × Rh)} {a : Expr} {pos : Pos}
theorem pe_revB {e : Expr} {te : TE} {k : Nat} {p1 p2 p3 pos : Pos} (he : PE X e te) : PE X (.Subscript e (.Slice none none (some (.UnaryOp .USub (.Constant (.int 1) k p1) p2)) p3) pos) (tUn (rRevB X.K) te) := by
  refine ⟨fun pins s σ H Q I h => ?_⟩
  refine Subscript_ (thn (he.run pins s σ H _ I h) fun v s1 ⟨x, H1, I1, r1, q1⟩ => ?_)
  obtain ⟨a, xs, ex, q1⟩ := q1
  subst ex
  cases r1
  have hst : PO X (some (.UnaryOp .USub (.Constant (.int 1) k p1) p2)) (tPart (tUn (rU fun i => .int (-i)) (tC (.int 1)))) := po_some (pe_un un_neg pe_int)
  refine wpAny_Slice (thn (po_none.run pins s1 σ H1 (fun o H2 => o = none ∧ H2 = H1) I1 ⟨rfl, rfl⟩) fun vl s2 ⟨l, H2, I2, pl, el, e2⟩ => ?_)
  subst el e2
  refine thn (po_none.run pins s2 σ H2 (fun o H3 => o = none ∧ H3 = H2) I2 ⟨rfl, rfl⟩) fun vu s3 ⟨u, H3, I3, pu, eu, e3⟩ => ?_
  subst eu e3
  refine thn (hst.run pins s3 σ H3 (fun o H4 => o = some (-1) ∧ H4 = H3) I3 ⟨1, rfl, -1, rfl, rfl, rfl⟩) fun vs s4 ⟨o, H4, I4, ps, eo, e4⟩ => ?_
  subst eo e4
  have I5 : Inv X pins σ H4 { s4 with heap := s4.heap.push { cls := .type "slice", data := .fields #[vl, vu, vs] } } := I4.kept (t' := s4.toks) fun b ob q => Heap.get?_push_of_some _ q
  show wpAny (model X.prog X.w) X.A (subscriptTail e (.Slice none none (some (.UnaryOp .USub (.Constant (.int 1) k p1) p2)) p3) (.ref a) (.ref s4.heap.objs.size)) (L2.EP X pins σ Q) X.xe { s4 with heap := s4.heap.push { cls := .type "slice", data := .fields #[vl, vu, vs] } }
  rcases q1 with ⟨hx, q⟩ | ⟨hx, q⟩
  · obtain ⟨its, r, ht, hz⟩ := I5.list hx
    have hlen := r.length
    refine tail_any (ops := [.ref a, .ref s4.heap.objs.size]) ht.isList.typeIs (PySem.slot_list_getitem.lookup) ?_ (by with_unfolding_all rfl)
    refine wpAny_getItem_list_slice ht.isList (Heap.IsSliceOf.new _ vl vu vs) pl pu ps (by decide) ?_ (by rw [List.size_toArray]; omega)
    rw [PySem.W.krv_pick]
    refine ⟨.ref _, _, I5.laid (t' := s4.toks) (o := .lst xs.reverse) (fun b ob q => Heap.get?_push_of_some _ q) (Nat.le_refl _) ?_, rfl, q _ (I5.hok.fresh (Nat.le_refl _))⟩
    exact ⟨by rw [List.length_reverse]; exact hz, _, 0, r.reverse, Heap.get?_push_size _ rfl⟩
  · obtain ⟨its, r, ht, hz⟩ := I5.tuple hx
    have hlen := r.length
    cases pl
    cases pu
    refine tail_any (ops := [.ref a, .ref s4.heap.objs.size]) ht.typeIs (PyProof.Rows.slot_tuple_getitem.lookup) ?_ (by with_unfolding_all rfl)
    refine getItem_tuple_rev ht (Heap.IsSliceOf.new _ .none .none vs) ps ?_ (by omega)
    refine ⟨.ref _, _, I5.laid (t' := s4.toks) (o := .tup xs.reverse) (fun b ob q => Heap.get?_push_of_some _ q) (Nat.le_refl _) ?_, rfl, q _ (I5.hok.fresh (Nat.le_refl _))⟩
    exact ⟨by rw [List.length_reverse]; exact hz, its.reverse, r.reverse, IsTup.new _ _⟩
def revE : D → Option D
  | .list ds => if pureL ds = true then some (.list ds.reverse) else none
  | .tuple ds => if pureL ds = true then some (.tuple ds.reverse) else none
  | _ => none
theorem revE_ok {K : PySem.W.Frag} (H : Hp) (x : V) (d z : D) (fx : List Addr) (Q : VK) (rx : Rp K H x d fx) (hz : revE d = some z) (q : ∀ v H' fp, Same H H' → Rp K H' v z fp → (fp.Nodup ∧ ∀ a ∈ fp, H a = none) → Q v H') : rRevB K x H Q := by
  unfold revE at hz
  split at hz
  · split at hz
    · rename_i ds hp
      cases hz
      cases rx with
      | lst k1 k2 k3 =>
        exact ⟨_, _, rfl, .inl ⟨.inl (.inl k1), fun p np => q _ _ [p] (same_upd np) (.lst upd_same (by rw [List.length_reverse]; exact k2) ((k3.pureN hp).rev.same (same_upd np))) (one_new np)⟩⟩
    · cases hz
  · split at hz
    · rename_i ds hp
      cases hz
      cases rx with
      | tup k1 k2 k3 =>
        exact ⟨_, _, rfl, .inr ⟨sqt k1, fun p np => q _ _ [] (same_upd np) (.tup upd_same (by rw [List.length_reverse]; exact k2) ((k3.pureN hp).rev.same (same_upd np))) no_mem⟩⟩
    · cases hz
  · cases hz
theorem ep_revE {k : Nat} {p1 p3 p4 : Pos} (ha : EP fa X a h) : EP true X (.Subscript a (.Slice none none (some (.UnaryOp .USub (.Constant (.int 1) k p1) p3)) p4) pos) (u1 revE h) :=
  ep_un (r := rRevB X.K) (fun pa => pe_revB pa) (fun H x d z fx Q rx hz q => revE_ok H x d z fx Q rx hz fun v H' fp s r n => q v H' fp s r fun _ => n) ha
theorem ev_revE {k : Nat} {p1 p3 p4 : Pos} (ha : EV X a g) : EV X (.Subscript a (.Slice none none (some (.UnaryOp .USub (.Constant (.int 1) k p1) p3)) p4) pos) (w1 revE g) :=
  ev_un (r := rRevB X.K) (fun pa => pe_revB pa) (fun H x d z fx Q rx hz q => revE_ok H x d z fx Q rx hz q) ha
end
end PV

set_option Elab.async false
set_option linter.all false
set_option maxRecDepth 100000
set_option maxHeartbeats 1000000
/-! the head's facts over the objects that some names reach -/
namespace PV
open PySem PySem.Spec PyProof.Rows L2
open HandSHeadRun (frNat frNat_eq)
def fcL {α : Type} : List Nat → (List Nat → α) → α
  | [], k => k []
  | a :: as, k => frNat a fun a => fcL as fun as => k (a :: as)
theorem fcL_eq {α : Type} : ∀ (l : List Nat) (k : List Nat → α), fcL l k = k l
  | [], k => rfl
  | a :: as, k => by rw [fcL, frNat_eq, fcL_eq as]
def fcO {α : Type} (o : Obj) (k : Obj → α) : α := match o with
  | ⟨c, d, dt, sl⟩ => k ⟨c, d, dt, sl⟩
theorem fcO_eq {α : Type} (o : Obj) (k : Obj → α) : fcO o k = k o := by cases o; rfl
def fcK {α : Type} (g : Addr → Option Obj) : List Addr → (PySem.W.Frag → α) → α
  | [], k => k []
  | a :: as, k => match g a with
    | some o => fcO o fun o => fcK g as fun K => k ((a, o) :: K)
    | none => fcK g as k
theorem fcK_eq {α : Type} (g : Addr → Option Obj) : ∀ (as : List Addr) (k : PySem.W.Frag → α), fcK g as k = k (He.frG g as)
  | [], k => rfl
  | a :: as, k => by
    unfold fcK He.frG
    rw [List.filterMap_cons]
    cases g a with
    | none => exact fcK_eq g as k
    | some o => simp only [fcO_eq]; exact fcK_eq g as _
def nxA (g : Addr → Option Obj) (as : List Addr) : List Addr := as.flatMap fun a => match g a with
  | some o => He.refsD o
  | none => []
abbrev AlV : Type := He.AlT × Bool
/-- the objects of the names, and two steps on -/
def obsV (fa : List He.Fa) (fn : List He.DefD) (ts : List He.Tab) (ex : PySem.W.Frag → Bool) (ns : List Str) (g : Addr → Option Obj) : AlV :=
  fcL (ns.map (He.ga (He.frG g [mainGlobals]))) fun l1 => fcL (nxA g l1) fun l2 => fcL (nxA g l2) fun l3 => fcK g (mainGlobals :: (l1 ++ (l2 ++ l3))) fun K => (He.obsT fa fn ts K, ex K)
def valV2 (fn : List He.DefD) (ts : List He.Tab) (w : World) : AlV := (He.valT fn ts w, true)
structure SaysV (fa : List He.Fa) (fn : List He.DefD) (ts : List He.Tab) (ex : PySem.W.Frag → Bool) (w : World) (K : PySem.W.Frag) : Prop where
  t : He.SaysT fa fn ts w K
  more : ex K = true
theorem saysV_of {fa : List He.Fa} {fn : List He.DefD} {ts : List He.Tab} {ex : PySem.W.Frag → Bool} {ns : List Str} {w : World} {h : Heap} (e : obsV fa fn ts ex ns h.get? = valV2 fn ts w) : ∃ K : PySem.W.Frag, K.In h ∧ SaysV fa fn ts ex w K := by
  unfold obsV at e
  rw [fcL_eq, fcL_eq, fcL_eq, fcK_eq] at e
  exact ⟨_, He.frG_in, congrArg (fun z : AlV => z.1) e, congrArg (fun z : AlV => z.2) e⟩
def hookV (fa : List He.Fa) (fn : List He.DefD) (ts : List He.Tab) (ex : PySem.W.Frag → Bool) (ns : List Str) : PySem.W.Hook where
  α := AlV
  obs := fun s => obsV fa fn ts ex ns s.heap.get?
  val := fun w => valV2 fn ts w
  says := fun w h => ∃ K : PySem.W.Frag, K.In h ∧ SaysV fa fn ts ex w K
  of := fun _ _ e => saysV_of e
  keeps := fun _ _ _ ⟨K, hK, c⟩ k => ⟨K, PySem.W.Frag.In.keeps hK k, c⟩
def fcT {α : Type} (g : Addr → Option Obj) : List Addr → (PySem.W.Frag → α) → α
  | [], k => k []
  | a :: as, k => match g a with
    | some o => fcO o fun o => match He.emptyTab o with
      | true => fcT g as k
      | false => fcT g as fun K => k ((a, o) :: K)
    | none => fcT g as k
theorem fcT_eq {α : Type} (g : Addr → Option Obj) : ∀ (as : List Addr) (k : PySem.W.Frag → α), fcT g as k = k (He.frT g as)
  | [], k => rfl
  | a :: as, k => by
    unfold fcT He.frT He.frG
    rw [List.filterMap_cons]
    cases g a with
    | none => exact fcT_eq g as k
    | some o =>
      simp only [fcO_eq]
      cases h : He.emptyTab o with
      | true => simp only [Option.map_some, List.filter_cons, h]; exact fcT_eq g as k
      | false => simp only [Option.map_some, List.filter_cons, h]; exact fcT_eq g as _
/-- the same with the empty tables left out -/
def obsW (fa : List He.Fa) (fn : List He.DefD) (ts : List He.Tab) (tf : List (He.Defn × Str)) (ex : PySem.W.Frag → Bool) (ns : List Str) (g : Addr → Option Obj) : AlV :=
  fcL (ns.map (He.ga (He.frG g [mainGlobals]))) fun l1 => fcL (nxA g l1) fun l2 => fcL (nxA g l2) fun l3 => fcT g (mainGlobals :: (l1 ++ (l2 ++ l3))) fun K => (He.obsT fa fn ts K, ex K && (He.tabsB g (tf.map Prod.fst) K && decide ((tf.map fun p => (He.cT K p.1).2).Nodup)))
structure SaysW (fa : List He.Fa) (fn : List He.DefD) (ts : List He.Tab) (tf : List (He.Defn × Str)) (ex : PySem.W.Frag → Bool) (w : World) (h : Heap) (K : PySem.W.Frag) : Prop where
  t : He.SaysT fa fn ts w K
  more : ex K = true
  hd : ∀ p ∈ tf, PySem.W.codeHdIn K (He.cT K p.1).1 (He.cT K p.1).2 = true
  out : ∀ p ∈ tf, K.lookup (He.cT K p.1).2 = none
  empty : ∀ p ∈ tf, h.get? (He.cT K p.1).2 = some { cls := .none, data := .fields #[] }
  nd : (tf.map fun p => (He.cT K p.1).2).Nodup
theorem saysW_of {fa : List He.Fa} {fn : List He.DefD} {ts : List He.Tab} {tf : List (He.Defn × Str)} {ex : PySem.W.Frag → Bool} {ns : List Str} {w : World} {h : Heap} (e : obsW fa fn ts tf ex ns h.get? = valV2 fn ts w) : ∃ K : PySem.W.Frag, K.In h ∧ SaysW fa fn ts tf ex w h K := by
  unfold obsW at e
  rw [fcL_eq, fcL_eq, fcL_eq, fcT_eq] at e
  generalize hK : He.frT h.get? _ = K at e
  have e1 := congrArg (fun z : AlV => z.1) e
  have e2 : (ex K && (He.tabsB h.get? (tf.map Prod.fst) K && decide ((tf.map fun p => (He.cT K p.1).2).Nodup))) = true := congrArg (fun z : AlV => z.2) e
  simp only [Bool.and_eq_true, decide_eq_true_eq] at e2
  obtain ⟨h1, h2, h3⟩ := e2
  have key : ∀ p ∈ tf, PySem.W.codeHdIn K (He.cT K p.1).1 (He.cT K p.1).2 = true ∧ ∃ o, h.get? (He.cT K p.1).2 = some o ∧ He.emptyTab o = true := fun p hp => by
    have h4 := List.all_eq_true.mp h2 p.1 (List.mem_map.mpr ⟨p, hp, rfl⟩)
    simp only [Bool.and_eq_true] at h4
    refine ⟨h4.1, ?_⟩
    have h5 := h4.2
    cases q : h.get? (He.cT K p.1).2 with
    | none => rw [q] at h5; cases h5
    | some o => rw [q] at h5; exact ⟨o, rfl, h5⟩
  refine ⟨K, by rw [← hK]; exact He.frT_in, e1, h1, fun p hp => (key p hp).1, fun p hp => ?_, fun p hp => ?_, h3⟩
  · obtain ⟨_, o, q, z⟩ := key p hp
    generalize (He.cT K p.1).2 = P at q ⊢
    rw [← hK]
    exact He.frT_none q z
  · obtain ⟨_, o, q, z⟩ := key p hp
    rw [q, He.emptyTab_eq z]
def hookW (fa : List He.Fa) (fn : List He.DefD) (ts : List He.Tab) (tf : List (He.Defn × Str)) (ex : PySem.W.Frag → Bool) (ns : List Str) : PySem.W.Hook where
  α := AlV
  obs := fun s => obsW fa fn ts tf ex ns s.heap.get?
  val := fun w => valV2 fn ts w
  says := fun w h => ∃ K : PySem.W.Frag, K.In h ∧ SaysW fa fn ts tf ex w h K
  of := fun _ _ e => saysW_of e
  keeps := fun _ _ _ ⟨K, hK, c⟩ k => ⟨K, PySem.W.Frag.In.keeps hK k, c.t, c.more, c.hd, c.out, fun p hp => k _ _ (c.empty p hp), c.nd⟩
theorem obsW_eq {fa : List He.Fa} {fn : List He.DefD} {ts : List He.Tab} {tf : List (He.Defn × Str)} {ex : PySem.W.Frag → Bool} {ns : List Str} {g : Addr → Option Obj} {s : Shared} (h : ∀ a, g a = s.heap.get? a) : obsW fa fn ts tf ex ns g = (hookW fa fn ts tf ex ns).obs s := by
  have e : g = s.heap.get? := funext h
  rw [e] <;> rfl
theorem obsV_eq {fa : List He.Fa} {fn : List He.DefD} {ts : List He.Tab} {ex : PySem.W.Frag → Bool} {ns : List Str} {g : Addr → Option Obj} {s : Shared} (h : ∀ a, g a = s.heap.get? a) : obsV fa fn ts ex ns g = (hookV fa fn ts ex ns).obs s := by
  have e : g = s.heap.get? := funext h
  rw [e] <;> rfl
end PV

set_option Elab.async false
set_option linter.all false
set_option maxRecDepth 100000
set_option maxHeartbeats 4000000
/-! what the readings compute, for simp -/
namespace PV
open PySem PySem.Spec PyProof.Rows L2
instance (priority := low) tn0 : TN := ⟨fun _ => none⟩
@[simp] theorem sRet_e (g : Rh → Option (D × Rh)) (ρ : Rh) : sRet g ρ = (fun ρ => match g ρ with
  | some (d, ρ1) => .rt d ρ1
  | none => .no : Rh → Out) ρ := rfl
@[simp] theorem sSeq_e (f g : Rh → Out) (ρ : Rh) : sSeq f g ρ = (fun ρ => match f ρ with
  | .nx ρ' => g ρ'
  | o => o : Rh → Out) ρ := rfl
@[simp] theorem sIf_e (t : Rh → Option (Bool × Rh)) (f g : Rh → Out) (ρ : Rh) : sIf t f g ρ = (fun ρ => match t ρ with
  | some (true, ρ1) => f ρ1
  | some (false, ρ1) => g ρ1
  | none => .no : Rh → Out) ρ := rfl
@[simp] theorem sSet_e (p : Pat) (g : Rh → Option (D × Rh)) (ρ : Rh) : sSet p g ρ = (fun ρ => match g ρ with
  | some (d, ρ1) => match patS .own p d ρ1 with
    | some ρ2 => .nx ρ2
    | none => .no
  | none => .no : Rh → Out) ρ := rfl
@[simp] theorem sNil_e  (ρ : Rh) : sNil ρ = (.nx : Rh → Out) ρ := rfl
@[simp] theorem sDrop_e (g : Rh → Option (D × Rh)) (ρ : Rh) : sDrop g ρ = (fun ρ => match g ρ with
  | some (_, ρ1) => .nx ρ1
  | none => .no : Rh → Out) ρ := rfl
@[simp] theorem lift_e {α : Type} (h : Rh → Option α) (ρ : Rh) : lift h ρ = (fun ρ => (h ρ).map fun d => (d, ρ) : Rh → Option (α × Rh)) ρ := rfl
@[simp] theorem eand_e (h1 h2 : Rh → Option D) (ρ : Rh) : eand h1 h2 ρ = (fun ρ => match h1 ρ with
  | some (.bool true) => h2 ρ
  | some (.bool false) => some (.bool false)
  | _ => none : Rh → Option D) ρ := rfl
@[simp] theorem eor_e (h1 h2 : Rh → Option D) (ρ : Rh) : eor h1 h2 ρ = (fun ρ => match h1 ρ with
  | some (.bool false) => h2 ρ
  | some (.bool true) => some (.bool true)
  | _ => none : Rh → Option D) ρ := rfl
@[simp] theorem u1_e (fn : D → Option D) (h : Rh → Option D) (ρ : Rh) : u1 fn h ρ = (fun ρ => (h ρ).bind fn : Rh → Option D) ρ := rfl
@[simp] theorem w1_e (fn : D → Option D) (g : Rh → Option (D × Rh)) (ρ : Rh) : w1 fn g ρ = (fun ρ => match g ρ with
  | some (d, ρ') => (fn d).map fun z => (z, ρ')
  | none => none : Rh → Option (D × Rh)) ρ := rfl
@[simp] theorem cst_e (d : D) (ρ : Rh) : cst d ρ = (fun _ => some d : Rh → Option D) ρ := rfl
@[simp] theorem o2_e (fn : D → D → Option D) (h1 h2 : Rh → Option D) (ρ : Rh) : o2 fn h1 h2 ρ = (fun ρ => match h1 ρ, h2 ρ with
  | some x, some y => fn x y
  | _, _ => none : Rh → Option D) ρ := rfl
@[simp] theorem v2_e (fn : D → D → Option D) (g1 g2 : Rh → Option (D × Rh)) (ρ : Rh) : v2 fn g1 g2 ρ = (fun ρ => match g1 ρ with
  | some (x, ρ1) => match g2 ρ1 with
    | some (y, ρ2) => (fn x y).map fun z => (z, ρ2)
    | none => none
  | none => none : Rh → Option (D × Rh)) ρ := rfl
@[simp] theorem aCons_e (h : Rh → Option D) (hs : Rh → Option (List D)) (ρ : Rh) : aCons h hs ρ = (fun ρ => match h ρ, hs ρ with
  | some d, some ds => some (d :: ds)
  | _, _ => none : Rh → Option (List D)) ρ := rfl
@[simp] theorem aNil_e  (ρ : Rh) : aNil ρ = (fun _ => some [] : Rh → Option (List D)) ρ := rfl
@[simp] theorem bCons_e (g : Rh → Option (D × Rh)) (gs : Rh → Option (List D × Rh)) (ρ : Rh) : bCons g gs ρ = (fun ρ => match g ρ with
  | some (d, ρ1) => match gs ρ1 with
    | some (ds, ρ2) => some (d :: ds, ρ2)
    | none => none
  | none => none : Rh → Option (List D × Rh)) ρ := rfl
@[simp] theorem bNil_e  (ρ : Rh) : bNil ρ = (fun ρ => some ([], ρ) : Rh → Option (List D × Rh)) ρ := rfl
@[simp] theorem qB_e (h : Rh → Option D) (ρ : Rh) : qB h ρ = (fun ρ => (h ρ).bind asB : Rh → Option Bool) ρ := rfl
@[simp] theorem qT_e (h : Rh → Option D) (ρ : Rh) : qT h ρ = (fun ρ => (h ρ).bind truD : Rh → Option Bool) ρ := rfl
@[simp] theorem wB_e (g : Rh → Option (D × Rh)) (ρ : Rh) : wB g ρ = (fun ρ => match g ρ with | some (.bool b, ρ') => some (b, ρ') | _ => none : Rh → Option (Bool × Rh)) ρ := rfl
@[simp] theorem pnot_e (h : Rh → Option Bool) (ρ : Rh) : pnot h ρ = (fun ρ => (h ρ).map fun b => !b : Rh → Option Bool) ρ := rfl
@[simp] theorem por_e (g1 g2 : Rh → Option Bool) (ρ : Rh) : por g1 g2 ρ = (fun ρ => match g1 ρ with
  | some false => g2 ρ
  | o => o : Rh → Option Bool) ρ := rfl
@[simp] theorem pand_e (g1 g2 : Rh → Option Bool) (ρ : Rh) : pand g1 g2 ρ = (fun ρ => match g1 ρ with
  | some true => g2 ρ
  | o => o : Rh → Option Bool) ρ := rfl
@[simp] theorem tnot_e (h : Rh → Option (Bool × Rh)) (ρ : Rh) : tnot h ρ = (fun ρ => (h ρ).map fun p => (!p.1, p.2) : Rh → Option (Bool × Rh)) ρ := rfl
@[simp] theorem tor_e (g1 g2 : Rh → Option (Bool × Rh)) (ρ : Rh) : tor g1 g2 ρ = (fun ρ => match g1 ρ with
  | some (false, ρ1) => g2 ρ1
  | o => o : Rh → Option (Bool × Rh)) ρ := rfl
@[simp] theorem tand_e (g1 g2 : Rh → Option (Bool × Rh)) (ρ : Rh) : tand g1 g2 ρ = (fun ρ => match g1 ρ with
  | some (true, ρ1) => g2 ρ1
  | o => o : Rh → Option (Bool × Rh)) ρ := rfl
@[simp] theorem eif_e (t : Rh → Option Bool) (h1 h2 : Rh → Option D) (ρ : Rh) : eif t h1 h2 ρ = (fun ρ => match t ρ with
  | some true => h1 ρ
  | some false => h2 ρ
  | none => none : Rh → Option D) ρ := rfl
@[simp] theorem vif_e (t : Rh → Option (Bool × Rh)) (h1 h2 : Rh → Option (D × Rh)) (ρ : Rh) : vif t h1 h2 ρ = (fun ρ => match t ρ with
  | some (true, ρ1) => h1 ρ1
  | some (false, ρ1) => h2 ρ1
  | none => none : Rh → Option (D × Rh)) ρ := rfl
@[simp] theorem fnE_e (fn : List D → Option D) (h : Rh → Option (List D)) (ρ : Rh) : fnE fn h ρ = (fun ρ => match h ρ with
  | some ds => fn ds
  | none => none : Rh → Option D) ρ := rfl
@[simp] theorem fnV_e (fn : List D → Option D) (g : Rh → Option (List D × Rh)) (ρ : Rh) : fnV fn g ρ = (fun ρ => match g ρ with
  | some (ds, ρ') => (fn ds).map fun d => (d, ρ')
  | none => none : Rh → Option (D × Rh)) ρ := rfl
@[simp] theorem gE_e (h : Rh → Option D) (ρ : Rh) : gE h ρ = (fun ρ => (h ρ).bind gd : Rh → Option D) ρ := rfl
@[simp] theorem gd_e (d : D) : gd d = (if pureD d = true then some d else none : Option D) := rfl
@[simp] theorem mkT_e (h : Rh → Option (List D)) (ρ : Rh) : mkT h ρ = (fun ρ => match h ρ with
  | some ds => if ds.length ≤ 1000000 then some (.tuple ds) else none
  | none => none : Rh → Option D) ρ := rfl
@[simp] theorem mkL_e (h : Rh → Option (List D)) (ρ : Rh) : mkL h ρ = (fun ρ => match h ρ with
  | some ds => if ds.length ≤ 1000000 then some (.list ds) else none
  | none => none : Rh → Option D) ρ := rfl
@[simp] theorem nkT_e (g : Rh → Option (List D × Rh)) (ρ : Rh) : nkT g ρ = (fun ρ => match g ρ with
  | some (ds, ρ') => if ds.length ≤ 1000000 then some (.tuple ds, ρ') else none
  | none => none : Rh → Option (D × Rh)) ρ := rfl
@[simp] theorem nkL_e (g : Rh → Option (List D × Rh)) (ρ : Rh) : nkL g ρ = (fun ρ => match g ρ with
  | some (ds, ρ') => if ds.length ≤ 1000000 then some (.list ds, ρ') else none
  | none => none : Rh → Option (D × Rh)) ρ := rfl
@[simp] theorem notT_e (d : D) : notT d = ((truD d).map fun b => .bool !b : Option D) := rfl
@[simp] theorem chn_e (fn fn' : D → D → Option D) (h1 h2 h3 : Rh → Option D) (ρ : Rh) : chn fn fn' h1 h2 h3 ρ = (fun ρ => match h1 ρ, h2 ρ with
  | some x, some y => match fn x y with
    | some (.bool true) => match h3 ρ with
      | some z => fn' y z
      | none => none
    | some (.bool false) => some (.bool false)
    | _ => none
  | _, _ => none : Rh → Option D) ρ := rfl
@[simp] theorem runF_e (np n : Nat) (B : Rh → Out) (ds : List D) : runF np n B ds = (if ds.length = np then runP n B ds else none : Option D) := rfl
@[simp] theorem iS_e (h : Rh → Option D) (ρ : Rh) : iS h ρ = (fun ρ => (h ρ).bind seqD : Rh → Option (List D)) ρ := rfl
@[simp] theorem iE_e (h : Rh → Option D) (ρ : Rh) : iE h ρ = (fun ρ => ((h ρ).bind seqD).map enumD : Rh → Option (List D)) ρ := rfl
@[simp] theorem iR1_e (h : Rh → Option (List D)) (ρ : Rh) : iR1 h ρ = (fun ρ => (h ρ).bind rng1 : Rh → Option (List D)) ρ := rfl
@[simp] theorem iR2_e (h : Rh → Option (List D)) (ρ : Rh) : iR2 h ρ = (fun ρ => (h ρ).bind rng2 : Rh → Option (List D)) ρ := rfl
@[simp] theorem eLc_e (p : Pat) (vs : List Nat) (hi : Rh → Option (List D)) (t : Rh → Option Bool) (e : Rh → Option D) (ρ : Rh) : eLc p vs hi t e ρ = (fun ρ => match hi ρ with
  | none => none
  | some ds => if ds.length ≤ 1000000 then (match lcS (stepE p t e (wipR ρ vs)) ds with
    | none => none
    | some r => some (.list r)) else none : Rh → Option D) ρ := rfl
@[simp] theorem tAll_e  (ρ : Rh) : tAll ρ = (fun _ => some true : Rh → Option Bool) ρ := rfl
@[simp] theorem stepE_e (p : Pat) (t : Rh → Option Bool) (e : Rh → Option D) (ρ : Rh) (d : D) : stepE p t e ρ d = (match patS .ro p d ρ with
  | none => none
  | some ρ1 => match t ρ1 with
    | none => none
    | some false => some none
    | some true => match e ρ1 with
      | none => none
      | some x => some (some x) : Option (Option D)) := rfl
@[simp] theorem mvS_e (i : Nat) (ρ : Rh) : mvS i ρ = (match ρ[i]? with
  | some (some ⟨d, o⟩) => if pureD d = true then some (d, ρ) else match o with
    | .own => some (d, ρ.set i none)
    | _ => none
  | _ => none : Option (D × Rh)) := rfl
@[simp] theorem opn_e  (ρ : Rh) : opn ρ = (fun _ => some none : Rh → Option (Option Int)) ρ := rfl
@[simp] theorem ops_e (h : Rh → Option D) (ρ : Rh) : ops h ρ = (fun ρ => match h ρ with
  | some (.int i) => some (some i)
  | _ => none : Rh → Option (Option Int)) ρ := rfl
@[simp] theorem slE_e (h : Rh → Option D) (lo hi : Rh → Option (Option Int)) (ρ : Rh) : slE h lo hi ρ = (fun ρ => match h ρ, lo ρ, hi ρ with
  | some d, some l, some u => cutS d l u
  | _, _, _ => none : Rh → Option D) ρ := rfl
@[simp] theorem sPar_e (i j : Nat) (g : Rh → Option (List D × Rh)) (ρ : Rh) : sPar i j g ρ = (fun ρ => match g ρ with
  | some ([d, d'], ρ1) => match setS i ⟨d, .own⟩ ρ1 with
    | some ρ2 => match setS j ⟨d', .own⟩ ρ2 with
      | some ρ3 => .nx ρ3
      | none => .no
    | none => .no
  | _ => .no : Rh → Out) ρ := rfl
@[simp] theorem sFor_e (bs : List Nat) (p : Pat) (g : Rh → Option (List D × Rh)) (b : Rh → Out) (ρ : Rh) : sFor bs p g b ρ = (fun ρ => match g ρ with
  | none => .no
  | some (ds, ρ1) => match demS bs ρ1 with
    | none => .no
    | some ρ2 => forS p b ds ρ2 : Rh → Out) ρ := rfl
@[simp] theorem ivf_e (fn : List D → Option (List D)) (g : Rh → Option (List D × Rh)) (ρ : Rh) : ivf fn g ρ = (fun ρ => match g ρ with
  | some (ds, ρ') => (fn ds).map fun r => (r, ρ')
  | none => none : Rh → Option (List D × Rh)) ρ := rfl
@[simp] theorem appendV_e (i : Nat) (g : Rh → Option (D × Rh)) (ρ : Rh) : appendV i g ρ = (fun ρ => match lstAt i ρ, g ρ with
  | true, some (d, ρ1) => match wr i ρ1 with
    | some (.list ds, o) => if ds.length + 1 < 1000000 then some (.none, ρ1.set i (some ⟨.list (ds ++ [d]), o⟩)) else none
    | _ => none
  | _, _ => none : Rh → Option (D × Rh)) ρ := rfl
@[simp] theorem extendV_e (i : Nat) (g : Rh → Option (D × Rh)) (ρ : Rh) : extendV i g ρ = (fun ρ => match lstAt i ρ, g ρ with
  | true, some (.list es, ρ1) => match wr i ρ1 with
    | some (.list ds, o) => if ds.length + es.length < 1000000 then some (.none, ρ1.set i (some ⟨.list (ds ++ es), o⟩)) else none
    | _ => none
  | _, _ => none : Rh → Option (D × Rh)) ρ := rfl
@[simp] theorem dgt1_e (h1 h2 : Rh → Option D) (ρ : Rh) : dgt1 h1 h2 ρ = (o2 dgt1D h1 h2 : Rh → Option D) ρ := rfl
@[simp] theorem eLcD_e (i : Nat) (p : Pat) (vs : List Nat) (t : Rh → Option Bool) (e : Rh → Option D) (ρ : Rh) : eLcD i p vs t e ρ = (fun ρ => match getS i ρ with
  | some (.dict kvs) => if locked (.dict kvs) = false ∧ pureL (kvs.map (·.2)) = true then match eLc p vs (fun ρ => (getS i ρ).bind keysL) t e (lockR i kvs ρ) with
      | some (.list r) => if pureL r = true then some (.list r) else none
      | _ => none
    else none
  | _ => none : Rh → Option D) ρ := rfl
@[simp] theorem vLc_e (bs : List Nat) (p : Pat) (vs : List Nat) (gi : Rh → Option (List D × Rh)) (t : Rh → Option (Bool × Rh)) (e : Rh → Option (D × Rh)) (ρ : Rh) : vLc bs p vs gi t e ρ = (fun ρ => match gi ρ with
  | none => none
  | some (ds, ρ1) => if ds.length ≤ 1000000 ∧ noPin ρ1 vs = true then (match demS bs ρ1 with
    | none => none
    | some ρ2 => match lcV p t e vs ds (wipR ρ2 vs) with
      | none => none
      | some (r, ρ3) => some (.list r, ρ3)) else none : Rh → Option (D × Rh)) ρ := rfl
@[simp] theorem callM_e (i : Nat) (as : List Ag) (F : List D → Option (D × D)) (ρ : Rh) : callM i as F ρ = (fun ρ => match runAg as ρ with
  | none => none
  | some (xs, ρ1) => match wr i ρ1 with
    | none => none
    | some (_, o) => match valAgs ρ1 xs with
      | none => none
      | some ds => match F ds with
        | some (r, d') => some (r, ρ1.set i (some ⟨d', o⟩))
        | none => none : Rh → Option (D × Rh)) ρ := rfl
@[simp] theorem ixV_e (i : Nat) (g : Rh → Option (D × Rh)) (ρ : Rh) : ixV i g ρ = (fun ρ => match getS i ρ with
  | some (.list ds) => match pureL ds, g ρ with
    | true, some (k, ρ1) => match getS i ρ1 with
      | some d => match ixD d k with
        | some z => (gd z).map fun z => (z, ρ1)
        | none => none
      | none => none
    | _, _ => none
  | some (.tuple ds) => match pureL ds, g ρ with
    | true, some (k, ρ1) => match getS i ρ1 with
      | some d => match ixD d k with
        | some z => (gd z).map fun z => (z, ρ1)
        | none => none
      | none => none
    | _, _ => none
  | _ => none : Rh → Option (D × Rh)) ρ := rfl
@[simp] theorem sDput_e (i : Nat) (hk : Rh → Option D) (g : Rh → Option (D × Rh)) (ρ : Rh) : sDput i hk g ρ = (fun ρ => match g ρ with
  | some (d, ρ1) => match hk ρ1, wr i ρ1 with
    | some k, some (.dict kvs, ow) => match dputD kvs k d with
      | some kvs' => .nx (ρ1.set i (some ⟨.dict kvs', ow⟩))
      | none => .no
    | _, _ => .no
  | none => .no : Rh → Out) ρ := rfl
@[simp] theorem sSetIx_e (x : Nat) (gi gv : Rh → Option (D × Rh)) (ρ : Rh) : sSetIx x gi gv ρ = (fun ρ => match gv ρ with
  | some (d, ρ1) => match getS x ρ1, gi ρ1 with
    | some _, some (k, ρ2) => match wr x ρ2 with
      | some (.list ds, ow) => match ixSet ds k d with
        | some ds' => .nx (ρ2.set x (some ⟨.list ds', ow⟩))
        | none => .no
      | _ => .no
    | _, _ => .no
  | none => .no : Rh → Out) ρ := rfl
@[simp] theorem asB_bool (b : Bool) : asB (.bool b) = some b := rfl
@[simp] theorem truD_bool (b : Bool) : truD (.bool b) = some b := rfl
@[simp] theorem truD_none : truD .none = some false := rfl
@[simp] theorem truD_int (i : Int) : truD (.int i) = some (i != 0) := rfl
@[simp] theorem truD_tup (ds : List D) : truD (.tuple ds) = some (!ds.isEmpty) := rfl
@[simp] theorem truD_lst (ds : List D) : truD (.list ds) = some (!ds.isEmpty) := rfl
@[simp] theorem seqD_lst (ds : List D) : seqD (.list ds) = some ds := rfl
@[simp] theorem seqD_tup (ds : List D) : seqD (.tuple ds) = some ds := rfl
@[simp] theorem lenF_lst (ds : List D) : lenF [.list ds] = some (.int ds.length) := rfl
@[simp] theorem lenF_tup (ds : List D) : lenF [.tuple ds] = some (.int ds.length) := rfl
@[simp] theorem subD_int (i j : Int) : subD (.int i) (.int j) = some (.int (i - j)) := rfl
@[simp] theorem gtI_int (i j : Int) : gtI (.int i) (.int j) = some (.bool (decide (j < i))) := rfl
@[simp] theorem geI_int (i j : Int) : geI (.int i) (.int j) = some (.bool (decide (j ≤ i))) := rfl
@[simp] theorem isiD_int_none  : isiD "int" (.none ) = some (.bool false) := isi_int _ rfl
@[simp] theorem isiD_int_bool (b : Bool) : isiD "int" (.bool b) = some (.bool true) := isi_int _ rfl
@[simp] theorem isiD_int_int (i : Int) : isiD "int" (.int i) = some (.bool true) := isi_int _ rfl
@[simp] theorem isiD_int_str (s : Str) : isiD "int" (.str s) = some (.bool false) := isi_int _ rfl
@[simp] theorem isiD_int_tuple (ds : List D) : isiD "int" (.tuple ds) = some (.bool false) := isi_int _ rfl
@[simp] theorem isiD_int_list (ds : List D) : isiD "int" (.list ds) = some (.bool false) := isi_int _ rfl
@[simp] theorem isiD_bool_none  : isiD "bool" (.none ) = some (.bool false) := isi_bool _ rfl
@[simp] theorem isiD_bool_bool (b : Bool) : isiD "bool" (.bool b) = some (.bool true) := isi_bool _ rfl
@[simp] theorem isiD_bool_int (i : Int) : isiD "bool" (.int i) = some (.bool false) := isi_bool _ rfl
@[simp] theorem isiD_bool_str (s : Str) : isiD "bool" (.str s) = some (.bool false) := isi_bool _ rfl
@[simp] theorem isiD_bool_tuple (ds : List D) : isiD "bool" (.tuple ds) = some (.bool false) := isi_bool _ rfl
@[simp] theorem isiD_bool_list (ds : List D) : isiD "bool" (.list ds) = some (.bool false) := isi_bool _ rfl
@[simp] theorem isiD_str_none  : isiD "str" (.none ) = some (.bool false) := isi_str _ rfl
@[simp] theorem isiD_str_bool (b : Bool) : isiD "str" (.bool b) = some (.bool false) := isi_str _ rfl
@[simp] theorem isiD_str_int (i : Int) : isiD "str" (.int i) = some (.bool false) := isi_str _ rfl
@[simp] theorem isiD_str_str (s : Str) : isiD "str" (.str s) = some (.bool true) := isi_str _ rfl
@[simp] theorem isiD_str_tuple (ds : List D) : isiD "str" (.tuple ds) = some (.bool false) := isi_str _ rfl
@[simp] theorem isiD_str_list (ds : List D) : isiD "str" (.list ds) = some (.bool false) := isi_str _ rfl
@[simp] theorem isiD_tuple_none  : isiD "tuple" (.none ) = some (.bool false) := isi_tuple _ rfl
@[simp] theorem isiD_tuple_bool (b : Bool) : isiD "tuple" (.bool b) = some (.bool false) := isi_tuple _ rfl
@[simp] theorem isiD_tuple_int (i : Int) : isiD "tuple" (.int i) = some (.bool false) := isi_tuple _ rfl
@[simp] theorem isiD_tuple_str (s : Str) : isiD "tuple" (.str s) = some (.bool false) := isi_tuple _ rfl
@[simp] theorem isiD_tuple_tuple (ds : List D) : isiD "tuple" (.tuple ds) = some (.bool true) := isi_tuple _ rfl
@[simp] theorem isiD_tuple_list (ds : List D) : isiD "tuple" (.list ds) = some (.bool false) := isi_tuple _ rfl
@[simp] theorem isiD_list_none  : isiD "list" (.none ) = some (.bool false) := isi_list _ rfl
@[simp] theorem isiD_list_bool (b : Bool) : isiD "list" (.bool b) = some (.bool false) := isi_list _ rfl
@[simp] theorem isiD_list_int (i : Int) : isiD "list" (.int i) = some (.bool false) := isi_list _ rfl
@[simp] theorem isiD_list_str (s : Str) : isiD "list" (.str s) = some (.bool false) := isi_list _ rfl
@[simp] theorem isiD_list_tuple (ds : List D) : isiD "list" (.tuple ds) = some (.bool false) := isi_list _ rfl
@[simp] theorem isiD_list_list (ds : List D) : isiD "list" (.list ds) = some (.bool true) := isi_list _ rfl
@[simp] theorem isiD_dict_none  : isiD "dict" (.none ) = some (.bool false) := isi_dict _ rfl
@[simp] theorem isiD_dict_bool (b : Bool) : isiD "dict" (.bool b) = some (.bool false) := isi_dict _ rfl
@[simp] theorem isiD_dict_int (i : Int) : isiD "dict" (.int i) = some (.bool false) := isi_dict _ rfl
@[simp] theorem isiD_dict_str (s : Str) : isiD "dict" (.str s) = some (.bool false) := isi_dict _ rfl
@[simp] theorem isiD_dict_tuple (ds : List D) : isiD "dict" (.tuple ds) = some (.bool false) := isi_dict _ rfl
@[simp] theorem isiD_dict_list (ds : List D) : isiD "dict" (.list ds) = some (.bool false) := isi_dict _ rfl
@[simp] theorem locked_none : locked .none = false := rfl
@[simp] theorem locked_bool (b : Bool) : locked (.bool b) = false := rfl
@[simp] theorem locked_int (b : Int) : locked (.int b) = false := rfl
@[simp] theorem locked_str (b : Str) : locked (.str b) = false := rfl
@[simp] theorem locked_tup (b : List D) : locked (.tuple b) = false := rfl
@[simp] theorem locked_lst (b : List D) : locked (.list b) = false := rfl
@[simp] theorem pureD_none : pureD .none = true := rfl
@[simp] theorem pureD_bool (b : Bool) : pureD (.bool b) = true := rfl
@[simp] theorem pureD_int (b : Int) : pureD (.int b) = true := rfl
@[simp] theorem pureD_str (b : Str) : pureD (.str b) = true := rfl
@[simp] theorem pureD_tup (b : List D) : pureD (.tuple b) = pureL b := by simp [pureD]
@[simp] theorem pureD_lst (b : List D) : pureD (.list b) = false := rfl
@[simp] theorem pureD_dct (b : List (D × D)) : pureD (.dict b) = false := rfl
@[simp] theorem pureL_nil : pureL [] = true := rfl
@[simp] theorem pureL_cons (d : D) (ds : List D) : pureL (d :: ds) = (pureD d && pureL ds) := by simp [pureL]
@[simp] theorem noPin_nil (ρ : Rh) : noPin ρ [] = true := rfl
@[simp] theorem getS_z (c : Cl) (ρ : Rh) : getS 0 (some c :: ρ) = some c.d := rfl
@[simp] theorem getS_s (i : Nat) (c : Option Cl) (ρ : Rh) : getS (i + 1) (c :: ρ) = getS i ρ := rfl
@[simp] theorem wr_s (i : Nat) (c : Option Cl) (ρ : Rh) : wr (i + 1) (c :: ρ) = wr i ρ := rfl
@[simp] theorem wr_own (d : D) (ρ : Rh) : wr 0 (some ⟨d, .own⟩ :: ρ) = some (d, .own) := rfl
@[simp] theorem wr_pin (d : D) (ρ : Rh) : wr 0 (some ⟨d, .pin⟩ :: ρ) = some (d, .pin) := rfl
@[simp] theorem setS_none (c : Cl) (ρ : Rh) : setS 0 c (none :: ρ) = some (some c :: ρ) := rfl
@[simp] theorem setS_own (c : Cl) (d : D) (ρ : Rh) : setS 0 c (some ⟨d, .own⟩ :: ρ) = some (some c :: ρ) := rfl
@[simp] theorem setS_ro (c : Cl) (d : D) (ρ : Rh) : setS 0 c (some ⟨d, .ro⟩ :: ρ) = some (some c :: ρ) := rfl
@[simp] theorem setS_s (i : Nat) (c : Cl) (c' : Option Cl) (ρ : Rh) : setS (i + 1) c (c' :: ρ) = (setS i c ρ).map (c' :: ·) := by
  unfold setS
  simp only [List.getElem?_cons_succ, List.set_cons_succ]
  generalize ρ[i]? = x
  rcases x with _ | _ | ⟨d, o⟩
  · rfl
  · rfl
  · cases o <;> rfl
@[simp] theorem patS_nm (o : Ow) (i : Nat) (d : D) (ρ : Rh) : patS o (.nm i) d ρ = setS i ⟨d, o⟩ ρ := by simp [patS]
@[simp] theorem patS_tp (o : Ow) (ps : List Pat) (ds : List D) (ρ : Rh) : patS o (.tp ps) (.tuple ds) ρ = patsS o ps ds ρ := by simp [patS]
@[simp] theorem patsS_nil (o : Ow) (ρ : Rh) : patsS o [] [] ρ = some ρ := by simp [patsS]
@[simp] theorem patsS_cons (o : Ow) (p : Pat) (ps : List Pat) (d : D) (ds : List D) (ρ : Rh) : patsS o (p :: ps) (d :: ds) ρ = match patS o p d ρ with
  | some ρ1 => patsS o ps ds ρ1
  | none => none := by
  first
    | (rw [patsS]; done)
    | (rw [patsS]; cases patS o p d ρ <;> rfl)
@[simp] theorem wipR_nil (ρ : Rh) : wipR ρ [] = ρ := rfl
@[simp] theorem eqD_int (i j : Int) : eqD (.int i) (.int j) = some (.bool (i == j)) := rfl
@[simp] theorem neD_int (i j : Int) : neD (.int i) (.int j) = some (.bool (!(i == j))) := rfl
@[simp] theorem eqD_bool (i j : Bool) : eqD (.bool i) (.bool j) = some (.bool (i == j)) := rfl
theorem pure_nd {d : D} (h : pureD d = true) : locked d = false := by cases d <;> first | rfl | cases h
@[simp] theorem ltD_tup (a b c d : Int) : ltD (.tuple [.int a, .int b]) (.tuple [.int c, .int d]) = some (.bool (HT.lexLt [a, b] [c, d])) := rfl
theorem ixT {ds : List D} {k : Nat} {d : D} (h : ds[k]? = some d) : ixD (.tuple ds) (.int (k : Int)) = some d := atI_nat h
theorem ixL {ds : List D} {k : Nat} {d : D} (h : ds[k]? = some d) : ixD (.list ds) (.int (k : Int)) = some d := atI_nat h
@[simp] theorem ixT0 (d : D) (ds : List D) : ixD (.tuple (d :: ds)) (.int 0) = some d := ixT (k := 0) rfl
@[simp] theorem ixT1 (c d : D) (ds : List D) : ixD (.tuple (c :: d :: ds)) (.int 1) = some d := ixT (k := 1) rfl
@[simp] theorem ixT2 (b c d : D) (ds : List D) : ixD (.tuple (b :: c :: d :: ds)) (.int 2) = some d := ixT (k := 2) rfl
@[simp] theorem ixT3 (a b c d : D) (ds : List D) : ixD (.tuple (a :: b :: c :: d :: ds)) (.int 3) = some d := ixT (k := 3) rfl
@[simp] theorem ixL0 (d : D) (ds : List D) : ixD (.list (d :: ds)) (.int 0) = some d := ixL (k := 0) rfl
@[simp] theorem ixL1 (c d : D) (ds : List D) : ixD (.list (c :: d :: ds)) (.int 1) = some d := ixL (k := 1) rfl
@[simp] theorem ixL2 (b c d : D) (ds : List D) : ixD (.list (b :: c :: d :: ds)) (.int 2) = some d := ixL (k := 2) rfl
/-- comprehensions, item by item -/
theorem lcS_map {step : D → Option (Option D)} {g : D → D} : ∀ {ds : List D}, (∀ d ∈ ds, step d = some (some (g d))) → lcS step ds = some (ds.map g)
  | [], _ => rfl
  | d :: ds, h => by
    unfold lcS
    rw [h d (List.mem_cons_self), lcS_map fun e m => h e (List.mem_cons_of_mem _ m)]
    rfl
theorem lcS_mapM {α : Type} {step : D → Option (Option D)} {f : α → D} {g : α → D} : ∀ {ds : List α}, (∀ d ∈ ds, step (f d) = some (some (g d))) → lcS step (ds.map f) = some (ds.map g)
  | [], _ => rfl
  | d :: ds, h => by
    rw [List.map_cons]
    unfold lcS
    rw [h d (List.mem_cons_self), lcS_mapM fun e m => h e (List.mem_cons_of_mem _ m)]
    rfl
theorem boolsOf_eq {α : Type} {ds : List α} {g : α → Bool} : boolsOf (ds.map fun d => .bool (g d)) = some (ds.map g) := by
  rw [show (ds.map fun d => PyData.bool (g d)) = (ds.map g).map PyData.bool from by rw [List.map_map]; rfl]
  exact boolsOf_bools _
theorem allF_map {α : Type} {ds : List α} {g : α → Bool} : allF [.list (ds.map fun d => .bool (g d))] = some (.bool (ds.all g)) := by
  simp only [allF, boolsOf_eq]
  simp
theorem rng1_nat (n : Nat) (h : n ≤ 1000000) : rng1 [.int (n : Int)] = some (rangeD 0 n) := by
  simp only [rng1]
  rw [if_pos (by rw [Int.natAbs_natCast]; exact h)]
  rfl
theorem rng1_int {k : Int} (h0 : 0 ≤ k) (h1 : k ≤ 1000000) : rng1 [.int k] = some (rangeD 0 k.toNat) := by
  simp only [rng1]
  rw [if_pos (by omega)]
end PV

set_option Elab.async false
set_option linter.all false
set_option maxRecDepth 100000
set_option maxHeartbeats 4000000
/-! the box; comprehensions with a state -/
namespace PV
open PySem PySem.Spec PyProof.Rows L2
def IsBox (d : D) : Prop := ∃ cs z h, d = boxOf cs z h
theorem isBox_box (ns : List Int) : IsBox (boxD ns) := ⟨ns, 0, 4711 + ns.length, rfl⟩
theorem load_ok (cs : List Int) (z h : Int) : ∃ i cs' h', F__law_load [boxOf cs z h] = some (.int i, boxOf cs' z h') := by
  unfold boxOf F__law_load
  simp only [intL, intsOf_ints]
  cases cs with
  | nil => exact ⟨_, _, _, rfl⟩
  | cons c r =>
    simp only [ldI]
    by_cases h1 : 1000000000000000000 ≤ ldSize c
    · rw [if_pos h1]; exact ⟨_, _, _, rfl⟩
    · rw [if_neg h1]; exact ⟨_, _, _, rfl⟩
/-- the reading of _law_draw -/
def drawB : Rh → Out :=
  sSeq (sIf (lift (qB (o2 ltD (o2 ixD (getS 0) (cst (.int 1))) (getS 1)))) (sSet (.ix 0 (cst (.int 1))) (callM 0 [.rd 0] F__law_load)) (sNil))
    (sSeq (sSet (.nm 2) (lift (o2 modI (fnE intF (aCons (o2 ixD (getS 0) (cst (.int 1))) aNil)) (getS 1))))
    (sSeq (sSet (.ix 0 (cst (.int 1))) (lift (o2 fdivD (o2 ixD (getS 0) (cst (.int 1))) (getS 1))))
    (sRet (mvS 2))))
theorem ixSet_one (a b c d : D) : ixSet [a, b, c] (.int 1) d = some [a, d, c] := rfl
theorem draw_end (cs : List Int) (z h n : Int) (o : Option Cl) (h0 : 0 < n) (h1 : n.natAbs.log2 < 9000) :
    (sSeq (sSet (.nm 2) (lift (o2 modI (fnE intF (aCons (o2 ixD (getS 0) (cst (.int 1))) aNil)) (getS 1)))) (sSeq (sSet (.ix 0 (cst (.int 1))) (lift (o2 fdivD (o2 ixD (getS 0) (cst (.int 1))) (getS 1)))) (sRet (mvS 2)))) [some ⟨boxOf cs z h, .pin⟩, some ⟨.int n, .ro⟩, none]
      = .rt (.int (z % n)) [some ⟨boxOf cs (z / n) h, .pin⟩, some ⟨.int n, .ro⟩, some ⟨.int (z % n), .own⟩] := by
  simp [boxOf, intF, modI, h0, fdivD, h1, patS, wr, ixSet_one]
theorem log_ok {n : Int} (h0 : 0 < n) (h1 : n < 2 ^ 64) : n.natAbs.log2 < 9000 := by
  have : n.natAbs < 2 ^ 64 := by omega
  have h2 : n.natAbs.log2 < 64 := (Nat.log2_lt (by omega)).mpr this
  omega
theorem drawB_ok {b : D} (hb : IsBox b) {n : Int} (h0 : 0 < n) (h1 : n < 2 ^ 64) : ∃ k b', runN 2 3 0 drawB [b, .int n] = some (.int k, b') ∧ IsBox b' ∧ 0 ≤ k ∧ k < n := by
  obtain ⟨cs, z, h, rfl⟩ := hb
  have hl := log_ok h0 h1
  by_cases hz : z < n
  · obtain ⟨i, cs', h', e⟩ := load_ok cs z h
    refine ⟨i % n, boxOf cs' (i / n) h', ?_, ⟨_, _, _, rfl⟩, Int.emod_nonneg _ (by omega), Int.emod_lt_of_pos _ h0⟩
    have e1 : sIf (lift (qB (o2 ltD (o2 ixD (getS 0) (cst (.int 1))) (getS 1)))) (sSet (.ix 0 (cst (.int 1))) (callM 0 [.rd 0] F__law_load)) (sNil) [some ⟨boxOf cs z h, .pin⟩, some ⟨.int n, .ro⟩, none] = .nx [some ⟨boxOf cs' i h', .pin⟩, some ⟨.int n, .ro⟩, none] := by
      have e' := e
      unfold boxOf at e'
      simp [boxOf, hz, runAg, valAgs, valAg, e', patS, wr, ixSet_one]
    have e2 := draw_end cs' i h' n none h0 hl
    unfold runN
    rw [if_pos (by rfl : [boxOf cs z h, PyData.int n].length = 2)]
    unfold runM
    have er : rhoM 3 0 [boxOf cs z h, .int n] = [some ⟨boxOf cs z h, .pin⟩, some ⟨.int n, .ro⟩, none] := rfl
    rw [er]
    unfold drawB
    rw [sSeq_e]
    simp only [e1, e2]
    rfl
  · refine ⟨z % n, boxOf cs (z / n) h, ?_, ⟨_, _, _, rfl⟩, Int.emod_nonneg _ (by omega), Int.emod_lt_of_pos _ h0⟩
    have e1 : sIf (lift (qB (o2 ltD (o2 ixD (getS 0) (cst (.int 1))) (getS 1)))) (sSet (.ix 0 (cst (.int 1))) (callM 0 [.rd 0] F__law_load)) (sNil) [some ⟨boxOf cs z h, .pin⟩, some ⟨.int n, .ro⟩, none] = .nx [some ⟨boxOf cs z h, .pin⟩, some ⟨.int n, .ro⟩, none] := by
      simp [boxOf, hz]
    have e2 := draw_end cs z h n none h0 hl
    unfold runN
    rw [if_pos (by rfl : [boxOf cs z h, PyData.int n].length = 2)]
    unfold runM
    have er : rhoM 3 0 [boxOf cs z h, .int n] = [some ⟨boxOf cs z h, .pin⟩, some ⟨.int n, .ro⟩, none] := rfl
    rw [er]
    unfold drawB
    rw [sSeq_e]
    simp only [e1, e2]
    rfl
/-- what a comprehension with tests makes of its items -/
inductive LcR (Pr : D → D → Prop) : List D → List D → Prop
  | nil : LcR Pr [] []
  | skip {d : D} {ds r : List D} : LcR Pr ds r → LcR Pr (d :: ds) r
  | take {d x : D} {ds r : List D} : Pr d x → LcR Pr ds r → LcR Pr (d :: ds) (x :: r)
theorem lcV_inv {p : Pat} {t : Rh → Option (Bool × Rh)} {e : Rh → Option (D × Rh)} {vs : List Nat} (I : Rh → Prop) (Pd : D → Prop) (Pr : D → D → Prop)
    (hstep : ∀ d ρ, Pd d → I ρ → ∃ ρ1 b ρ2, patS .ro p d ρ = some ρ1 ∧ t ρ1 = some (b, ρ2) ∧ ((b = false ∧ noPin ρ2 vs = true ∧ I (wipR ρ2 vs)) ∨ (b = true ∧ ∃ x ρ3, e ρ2 = some (x, ρ3) ∧ Pr d x ∧ noPin ρ3 vs = true ∧ I (wipR ρ3 vs)))) :
    ∀ (ds : List D) (ρ : Rh), (∀ d ∈ ds, Pd d) → I ρ → ∃ r ρ', lcV p t e vs ds ρ = some (r, ρ') ∧ I ρ' ∧ LcR Pr ds r
  | [], ρ, _, hi => ⟨[], ρ, by rw [lcV], hi, .nil⟩
  | d :: ds, ρ, hd, hi => by
    obtain ⟨ρ1, b, ρ2, e1, e2, h⟩ := hstep d ρ (hd d List.mem_cons_self) hi
    have hd' : ∀ d ∈ ds, Pd d := fun d m => hd d (List.mem_cons_of_mem _ m)
    rcases h with ⟨rfl, hp, hI⟩ | ⟨rfl, x, ρ3, e3, hx, hp, hI⟩
    · obtain ⟨r, ρ', e4, i4, l4⟩ := lcV_inv I Pd Pr hstep ds _ hd' hI
      refine ⟨r, ρ', ?_, i4, .skip l4⟩
      rw [lcV, e1]
      simp only [e2]
      rw [if_pos hp]; exact e4
    · obtain ⟨r, ρ', e4, i4, l4⟩ := lcV_inv I Pd Pr hstep ds _ hd' hI
      refine ⟨x :: r, ρ', ?_, i4, .take hx l4⟩
      rw [lcV, e1]
      simp only [e2, e3]
      rw [if_pos hp]
      simp only [e4]
/-- without tests -/
theorem lcV_all {p : Pat} {e : Rh → Option (D × Rh)} {vs : List Nat} (I : Rh → Prop) (Pd : D → Prop) (Pr : D → D → Prop)
    (hstep : ∀ d ρ, Pd d → I ρ → ∃ ρ1 x ρ3, patS .ro p d ρ = some ρ1 ∧ e ρ1 = some (x, ρ3) ∧ Pr d x ∧ noPin ρ3 vs = true ∧ I (wipR ρ3 vs)) :
    ∀ (ds : List D) (ρ : Rh), (∀ d ∈ ds, Pd d) → I ρ → ∃ r ρ', lcV p (lift tAll) e vs ds ρ = some (r, ρ') ∧ I ρ' ∧ r.length = ds.length ∧ (∀ x ∈ r, ∃ d ∈ ds, Pr d x)
  | [], ρ, _, hi => ⟨[], ρ, by rw [lcV], hi, rfl, fun x m => nomatch m⟩
  | d :: ds, ρ, hd, hi => by
    obtain ⟨ρ1, x, ρ3, e1, e2, hx, hp, hI⟩ := hstep d ρ (hd d List.mem_cons_self) hi
    obtain ⟨r, ρ', e4, i4, l4, a4⟩ := lcV_all I Pd Pr hstep ds _ (fun d m => hd d (List.mem_cons_of_mem _ m)) hI
    refine ⟨x :: r, ρ', ?_, i4, by simp [l4], fun y m => ?_⟩
    · rw [lcV, e1]
      simp only [lift_e, tAll_e, Option.map_some, e2]
      rw [if_pos hp]
      simp only [e4]
    · rcases List.mem_cons.mp m with m | m
      · exact ⟨d, List.mem_cons_self, by rw [m]; exact hx⟩
      · obtain ⟨d', m', q⟩ := a4 y m
        exact ⟨d', List.mem_cons_of_mem _ m', q⟩
end PV
namespace PV
open PySem PySem.Spec PyProof.Rows L2
/-! ### runs: what follows from a statement -/
def Nxs (o : Out) (Po : Rh → Prop) : Prop := ∃ ρ, o = .nx ρ ∧ Po ρ
def Rts (o : Out) (Po : D → Rh → Prop) : Prop := ∃ d ρ, o = .rt d ρ ∧ Po d ρ
theorem Nxs.seqR {f g : Rh → Out} {ρ : Rh} {P1 : Rh → Prop} {Po : D → Rh → Prop} (h : Nxs (f ρ) P1) (k : ∀ ρ', P1 ρ' → Rts (g ρ') Po) : Rts (sSeq f g ρ) Po := by
  obtain ⟨ρ', e, p⟩ := h
  rw [sSeq_e]; simp only [e]; exact k ρ' p
theorem Nxs.seq {f g : Rh → Out} {ρ : Rh} {P1 : Rh → Prop} {Po : Rh → Prop} (h : Nxs (f ρ) P1) (k : ∀ ρ', P1 ρ' → Nxs (g ρ') Po) : Nxs (sSeq f g ρ) Po := by
  obtain ⟨ρ', e, p⟩ := h
  rw [sSeq_e]; simp only [e]; exact k ρ' p
theorem seqR1 {f g : Rh → Out} {ρ ρ' : Rh} {Po : D → Rh → Prop} (h : f ρ = .nx ρ') (k : Rts (g ρ') Po) : Rts (sSeq f g ρ) Po := by
  rw [sSeq_e]; simp only [h]; exact k
theorem seqN1 {f g : Rh → Out} {ρ ρ' : Rh} {Po : Rh → Prop} (h : f ρ = .nx ρ') (k : Nxs (g ρ') Po) : Nxs (sSeq f g ρ) Po := by
  rw [sSeq_e]; simp only [h]; exact k
theorem forS_inv {p : Pat} {b : Rh → Out} (I : Rh → Prop) : ∀ (ds : List D) (ρ : Rh), (∀ d ∈ ds, ∀ ρ, I ρ → ∃ ρ1, patS .ro p d ρ = some ρ1 ∧ Nxs (b ρ1) I) → I ρ → Nxs (forS p b ds ρ) I
  | [], ρ, _, hi => ⟨ρ, by rw [forS], hi⟩
  | d :: ds, ρ, h, hi => by
    obtain ⟨ρ1, e1, ρ2, e2, i2⟩ := h d List.mem_cons_self ρ hi
    obtain ⟨ρ3, e3, i3⟩ := forS_inv I ds ρ2 (fun d m => h d (List.mem_cons_of_mem _ m)) i2
    exact ⟨ρ3, by rw [forS]; simp only [e1, e2]; exact e3, i3⟩
theorem forS_pre {p : Pat} {b : Rh → Out} (I : List D → Rh → Prop) : ∀ (ds don : List D) (ρ : Rh), (∀ don d ρ, I don ρ → ∃ ρ1, patS .ro p d ρ = some ρ1 ∧ Nxs (b ρ1) (I (don ++ [d]))) → I don ρ → Nxs (forS p b ds ρ) (I (don ++ ds))
  | [], don, ρ, _, hi => ⟨ρ, by rw [forS], by rw [List.append_nil]; exact hi⟩
  | d :: ds, don, ρ, h, hi => by
    obtain ⟨ρ1, e1, ρ2, e2, i2⟩ := h don d ρ hi
    obtain ⟨ρ3, e3, i3⟩ := forS_pre I ds (don ++ [d]) ρ2 h i2
    exact ⟨ρ3, by rw [forS]; simp only [e1, e2]; exact e3, by simpa using i3⟩
theorem runN_of {np n m : Nat} {B : Rh → Out} {ds : List D} {Po : D → D → Prop} (hl : ds.length = np) (h : Rts (B (rhoM n m ds)) fun d ρ => ∃ c, ρ[m]? = some (some c) ∧ Po d c.d) : ∃ d b, runN np n m B ds = some (d, b) ∧ Po d b := by
  obtain ⟨d, ρ, e, c, ec, p⟩ := h
  refine ⟨d, c.d, ?_, p⟩
  unfold runN
  rw [if_pos hl]
  unfold runM
  rw [e]
  simp only [ec]
theorem runF_of {np n : Nat} {B : Rh → Out} {ds : List D} {Po : D → Prop} (hl : ds.length = np) (h : Rts (B (rho0 n ds)) fun d _ => Po d) : ∃ d, runF np n B ds = some d ∧ Po d := by
  obtain ⟨d, ρ, e, p⟩ := h
  refine ⟨d, ?_, p⟩
  unfold runF
  rw [if_pos hl]
  unfold runP
  rw [e]
end PV
namespace PV
open PySem PySem.Spec PyProof.Rows L2
theorem sRet_of {g : Rh → Option (D × Rh)} {ρ ρ1 : Rh} {d : D} (h : g ρ = some (d, ρ1)) : sRet g ρ = .rt d ρ1 := by rw [sRet_e]; simp only [h]
theorem w1_of {fn : D → Option D} {g : Rh → Option (D × Rh)} {ρ ρ1 : Rh} {d z : D} (h : g ρ = some (d, ρ1)) (h2 : fn d = some z) : w1 fn g ρ = some (z, ρ1) := by rw [w1_e]; simp only [h, h2, Option.map_some]
theorem vLc_of {bs : List Nat} {p : Pat} {vs : List Nat} {gi : Rh → Option (List D × Rh)} {t : Rh → Option (Bool × Rh)} {e : Rh → Option (D × Rh)} {ρ ρ1 ρ2 ρ3 : Rh} {ds r : List D} (hg : gi ρ = some (ds, ρ1)) (hl : ds.length ≤ 1000000) (hp : noPin ρ1 vs = true) (hd : demS bs ρ1 = some ρ2) (h : lcV p t e vs ds (wipR ρ2 vs) = some (r, ρ3)) :
    vLc bs p vs gi t e ρ = some (.list r, ρ3) := by
  rw [vLc_e]
  simp only [hg, hd, h]
  rw [if_pos ⟨hl, hp⟩]
theorem eLc_of {p : Pat} {vs : List Nat} {hi : Rh → Option (List D)} {t : Rh → Option Bool} {e : Rh → Option D} {ρ : Rh} {ds r : List D} (hg : hi ρ = some ds) (hl : ds.length ≤ 1000000) (h : lcS (stepE p t e (wipR ρ vs)) ds = some r) : eLc p vs hi t e ρ = some (.list r) := by
  rw [eLc_e]
  simp only [hg, h]
  rw [if_pos hl]
theorem sFor_of {bs : List Nat} {p : Pat} {g : Rh → Option (List D × Rh)} {b : Rh → Out} {ρ ρ1 ρ2 : Rh} {ds : List D} {Po : Rh → Prop} (hg : g ρ = some (ds, ρ1)) (hd : demS bs ρ1 = some ρ2) (h : Nxs (forS p b ds ρ2) Po) : Nxs (sFor bs p g b ρ) Po := by
  rw [sFor_e]
  simp only [hg, hd]
  exact h
theorem sSet_of {p : Pat} {g : Rh → Option (D × Rh)} {ρ ρ1 ρ2 : Rh} {d : D} (h : g ρ = some (d, ρ1)) (h2 : patS .own p d ρ1 = some ρ2) : sSet p g ρ = .nx ρ2 := by
  rw [sSet_e]
  simp only [h, h2]
theorem sIf_t {t : Rh → Option (Bool × Rh)} {f g : Rh → Out} {ρ ρ1 : Rh} (h : t ρ = some (true, ρ1)) : sIf t f g ρ = f ρ1 := by rw [sIf_e]; simp only [h]
theorem sIf_f {t : Rh → Option (Bool × Rh)} {f g : Rh → Out} {ρ ρ1 : Rh} (h : t ρ = some (false, ρ1)) : sIf t f g ρ = g ρ1 := by rw [sIf_e]; simp only [h]
theorem lcS_pred {step : D → Option (Option D)} {Pr : D → Prop} : ∀ {ds : List D}, (∀ d ∈ ds, ∃ x, step d = some (some x) ∧ Pr x) → ∃ r, lcS step ds = some r ∧ r.length = ds.length ∧ ∀ x ∈ r, Pr x
  | [], _ => ⟨[], rfl, rfl, fun x m => nomatch m⟩
  | d :: ds, h => by
    obtain ⟨x, e, p⟩ := h d List.mem_cons_self
    obtain ⟨r, e2, l2, p2⟩ := lcS_pred fun d m => h d (List.mem_cons_of_mem _ m)
    refine ⟨x :: r, by rw [lcS, e]; simp only [e2]; rfl, by simp [l2], fun y m => ?_⟩
    rcases List.mem_cons.mp m with m | m
    · rw [m]; exact p
    · exact p2 y m
end PV
namespace PV
open PySem PySem.Spec PyProof.Rows L2
theorem runF_rt {np n : Nat} {B : Rh → Out} {ds : List D} {d : D} {ρ0 ρ : Rh} (hl : ds.length = np) (hr : rho0 n ds = ρ0) (h : B ρ0 = .rt d ρ) : runF np n B ds = some d := by
  unfold runF
  rw [if_pos hl]
  unfold runP
  rw [hr, h]
end PV
namespace PV
open PySem PySem.Spec PyProof.Rows L2
/-- a slot that may be set -/
def NP (x : Option Cl) : Prop := ∀ c, x = some c → c.o ≠ .pin
theorem NP.none : NP none := fun c h => nomatch h
theorem NP.ro {d : D} : NP (some ⟨d, .ro⟩) := fun c h => by cases h; exact fun z => nomatch z
theorem NP.own {d : D} : NP (some ⟨d, .own⟩) := fun c h => by cases h; exact fun z => nomatch z
theorem setS_np {c : Cl} {x : Option Cl} {ρ : Rh} (h : NP x) : setS 0 c (x :: ρ) = some (some c :: ρ) := by
  rcases x with _ | ⟨d, o⟩
  · rfl
  · cases o
    · rfl
    · rfl
    · exact absurd rfl (h _ rfl)
theorem forS_rng {p : Pat} {b : Rh → Out} (I : Nat → Rh → Prop) (n : Nat) (ρ : Rh) (h0 : I 0 ρ) (h : ∀ k ρ, k < n → I k ρ → ∃ ρ1, patS .ro p (.int (k : Int)) ρ = some ρ1 ∧ Nxs (b ρ1) (I (k + 1))) : Nxs (forS p b (rangeD 0 n) ρ) (I n) := by
  have go : ∀ m s ρ, s + m = n → I s ρ → Nxs (forS p b ((List.range' s m).map fun (k : Nat) => PyData.int (0 + (k : Int))) ρ) (I n) := by
    intro m
    induction m with
    | zero =>
      intro s ρ hs hi
      have hsn : s = n := by omega
      subst hsn
      exact ⟨ρ, by simp [forS], hi⟩
    | succ m ih =>
      intro s ρ hs hi
      obtain ⟨ρ1, e1, ρ2, e2, i2⟩ := h s ρ (by omega) hi
      obtain ⟨ρ3, e3, i3⟩ := ih (s + 1) ρ2 (by omega) i2
      refine ⟨ρ3, ?_, i3⟩
      rw [List.range'_succ, List.map_cons, forS, Int.zero_add]
      simp only [e1, e2]
      exact e3
  have := go n 0 ρ (by omega) h0
  unfold rangeD
  rw [List.range_eq_range']
  exact this
theorem callM_of {i : Nat} {as : List Ag} {F : List D → Option (D × D)} {ρ ρ1 : Rh} {xs : List (D ⊕ Nat)} {d r d' : D} {o : Ow} {ds : List D} (h1 : runAg as ρ = some (xs, ρ1)) (h2 : wr i ρ1 = some (d, o)) (h3 : valAgs ρ1 xs = some ds) (h4 : F ds = some (r, d')) : callM i as F ρ = some (r, ρ1.set i (some ⟨d', o⟩)) := by
  rw [callM_e]
  simp only [h1, h2, h3, h4]
end PV
namespace PV
open PySem PySem.Spec PyProof.Rows L2
/-! ### what == takes -/
def Sh (k : Nat) (d : D) : Prop := noDct d = true ∧ PyData.canLay0 d = true ∧ PyData.depth d ≤ k
theorem Sh.mono {k l : Nat} {d : D} (h : Sh k d) (hl : k ≤ l) : Sh l d := ⟨h.1, h.2.1, Nat.le_trans h.2.2 hl⟩
theorem Sh.int {i : Int} : Sh 0 (.int i) := ⟨rfl, by simp [PyData.canLay0], by simp [PyData.depth]⟩
theorem Sh.bool {i : Bool} : Sh 0 (.bool i) := ⟨rfl, by simp [PyData.canLay0], by simp [PyData.depth]⟩
theorem Sh.none : Sh 0 .none := ⟨rfl, by simp [PyData.canLay0], by simp [PyData.depth]⟩
theorem Sh.all {k : Nat} : ∀ {ds : List D}, (∀ x ∈ ds, Sh k x) → noDctL ds = true ∧ PyData.canLayAll0 ds = true ∧ PyData.depthAll ds ≤ k
  | [], _ => ⟨rfl, by simp [PyData.canLayAll0], by simp [PyData.depthAll]⟩
  | d :: ds, h => by
    obtain ⟨a, b, c⟩ := Sh.all fun x m => h x (List.mem_cons_of_mem _ m)
    obtain ⟨a', b', c'⟩ := h d List.mem_cons_self
    exact ⟨by simp [noDctL, a, a'], by simp [PyData.canLayAll0, b, b'], by simp only [PyData.depthAll]; omega⟩
theorem Sh.list {k : Nat} {ds : List D} (h : ∀ x ∈ ds, Sh k x) : Sh (k + 1) (.list ds) := by
  obtain ⟨a, b, c⟩ := Sh.all h
  exact ⟨by simpa [noDct] using a, by simpa [PyData.canLay0] using b, by simp only [PyData.depth]; omega⟩
theorem Sh.tup {k : Nat} {ds : List D} (h : ∀ x ∈ ds, Sh k x) : Sh (k + 1) (.tuple ds) := by
  obtain ⟨a, b, c⟩ := Sh.all h
  exact ⟨by simpa [noDct] using a, by simpa [PyData.canLay0] using b, by simp only [PyData.depth]; omega⟩
theorem Sh.ok {k : Nat} {d : D} (h : Sh k d) (hk : k ≤ 64) : okEq d = true := by
  unfold okEq SeqAt.shaped
  simp only [h.1, h.2.1, Bool.true_and, decide_eq_true_eq]
  exact Nat.le_trans h.2.2 hk
theorem eqD_of {k l : Nat} {d e : D} (h : Sh k d) (hk : k ≤ 64) (h2 : Sh l e) (hl : l ≤ 64) : eqD d e = some (.bool (PyData.eqv d e)) := by
  unfold eqD
  rw [if_pos ⟨h.ok hk, h2.ok hl⟩]
theorem neD_of {k l : Nat} {d e : D} (h : Sh k d) (hk : k ≤ 64) (h2 : Sh l e) (hl : l ≤ 64) : neD d e = some (.bool (!PyData.eqv d e)) := by
  unfold neD
  rw [if_pos ⟨h.ok hk, h2.ok hl⟩]
theorem eqv_nil_l {ds : List D} : PyData.eqv (.list ds) (.list []) = ds.isEmpty := by
  cases ds <;> simp [PyData.eqv, PyData.eqvAll]
theorem eqv_nil_t {ds : List D} : PyData.eqv (.tuple ds) (.tuple []) = ds.isEmpty := by
  cases ds <;> simp [PyData.eqv, PyData.eqvAll]
theorem ixSet_nat {ds : List D} {k : Nat} (d : D) (h : k < ds.length) : ixSet ds (.int (k : Int)) d = some (ds.set k d) := by
  unfold ixSet ixN
  simp [h]
end PV
namespace PV
open PySem PySem.Spec PyProof.Rows L2
theorem addT_ok {X Y : List D} (hX : pureL X = true) (hY : pureL Y = true) (hl : X.length + Y.length ≤ 1000000) : addD (.tuple X) (.tuple Y) = some (.tuple (X ++ Y)) := by
  rw [addD_tup, if_pos ⟨hX, hY, hl⟩]
theorem addL_ok {X Y : List D} (hX : pureL X = true) (hY : pureL Y = true) (hl : X.length + Y.length ≤ 1000000) : addD (.list X) (.list Y) = some (.list (X ++ Y)) := by
  rw [addD_lst, if_pos ⟨hX, hY, hl⟩]
theorem cutT_ok {X : List D} (hX : pureL X = true) (lo hi : Option Int) : PV.cutS (.tuple X) lo hi = some (.tuple (PV.cutD X lo hi)) := by simp [PV.cutS, hX]
theorem cutL_ok {X : List D} (hX : pureL X = true) (lo hi : Option Int) : PV.cutS (.list X) lo hi = some (.list (PV.cutD X lo hi)) := by simp [PV.cutS, hX]
theorem pure_cut {X : List D} (hX : pureL X = true) (lo hi : Option Int) : pureL (PV.cutD X lo hi) = true := by
  rw [pureL_iff] at hX ⊢
  intro d hd
  unfold PV.cutD at hd
  exact hX d (List.mem_of_mem_drop (List.mem_of_mem_take hd))
theorem pure_app {X Y : List D} (hX : pureL X = true) (hY : pureL Y = true) : pureL (X ++ Y) = true := by
  rw [pureL_iff] at *
  intro d hd
  rcases List.mem_append.mp hd with h | h
  · exact hX d h
  · exact hY d h
theorem ixV_of {i : Nat} {g : Rh → Option (D × Rh)} {ρ ρ1 : Rh} {ds : List D} {j : Nat} {z : D} (h1 : getS i ρ = some (.list ds)) (hp : pureL ds = true) (hg : g ρ = some (.int (j : Int), ρ1)) (h2 : getS i ρ1 = some (.list ds)) (hj : ds[j]? = some z) : ixV i g ρ = some (z, ρ1) := by
  have hz : pureD z = true := pureL_iff.mp hp z (List.mem_of_getElem? hj)
  have hx := ixL hj
  unfold ixV
  simp only [h1, hp, hg, h2, hx, gd, hz, if_true, Option.map_some]
end PV
namespace PV
open PySem PySem.Spec PyProof.Rows L2
theorem cutD_len (ds : List D) (lo hi : Option Int) : (PV.cutD ds lo hi).length ≤ ds.length := by
  unfold PV.cutD
  rw [List.length_take, List.length_drop]
  omega
theorem sIx_m1 (n d : Nat) : HT.sIx n d (some (-1)) = n - 1 := by
  unfold HT.sIx
  simp
  omega
theorem cutD_init (ds : List D) : PV.cutD ds none (some (-1)) = ds.dropLast := by
  unfold PV.cutD
  rw [HT.sIx_none, sIx_m1, List.drop_zero, Nat.sub_zero, List.dropLast_eq_take]
theorem cutD_last (ds : List D) (d : D) : PV.cutD (ds ++ [d]) (some (-1)) none = [d] := by
  unfold PV.cutD
  rw [HT.sIx_none, sIx_m1]
  simp
theorem cutD_tail (d : D) (ds : List D) : PV.cutD (d :: ds) (some 1) none = ds := by
  unfold PV.cutD
  rw [HT.sIx_none, show (some 1 : Option Int) = some ((1 : Nat) : Int) from rfl, HT.sIx_nat]
  simp
end PV
namespace PV
open PySem PySem.Spec PyProof.Rows L2
theorem bCons_of {g : Rh → Option (D × Rh)} {gs : Rh → Option (List D × Rh)} {ρ ρ1 ρ2 : Rh} {d : D} {ds : List D} (h : g ρ = some (d, ρ1)) (h2 : gs ρ1 = some (ds, ρ2)) : bCons g gs ρ = some (d :: ds, ρ2) := by
  rw [bCons_e]; simp only [h, h2]
theorem bNil_of {ρ : Rh} : bNil ρ = some ([], ρ) := rfl
theorem nkL_of {g : Rh → Option (List D × Rh)} {ρ ρ1 : Rh} {ds : List D} (h : g ρ = some (ds, ρ1)) (hl : ds.length ≤ 1000000) : nkL g ρ = some (.list ds, ρ1) := by
  rw [nkL_e]; simp only [h]; rw [if_pos hl]
theorem nkT_of {g : Rh → Option (List D × Rh)} {ρ ρ1 : Rh} {ds : List D} (h : g ρ = some (ds, ρ1)) (hl : ds.length ≤ 1000000) : nkT g ρ = some (.tuple ds, ρ1) := by
  rw [nkT_e]; simp only [h]; rw [if_pos hl]
theorem lift_of {α : Type} {h : Rh → Option α} {ρ : Rh} {d : α} (e : h ρ = some d) : lift h ρ = some (d, ρ) := by rw [lift_e]; simp only [e, Option.map_some]
theorem v2_of {fn : D → D → Option D} {g1 g2 : Rh → Option (D × Rh)} {ρ ρ1 ρ2 : Rh} {x y z : D} (h1 : g1 ρ = some (x, ρ1)) (h2 : g2 ρ1 = some (y, ρ2)) (h3 : fn x y = some z) : v2 fn g1 g2 ρ = some (z, ρ2) := by
  rw [v2_e]; simp only [h1, h2, h3, Option.map_some]
end PV
namespace PV
open PySem PySem.Spec PyProof.Rows L2
theorem Sh.str {x : Str} (h : PySem.PyData.strOk x = true) : Sh 0 (.str x) := ⟨rfl, by simpa [PyData.canLay0] using h, by simp [PyData.depth]⟩
theorem eqD_str {a b : Str} {r : Bool} (h1 : PySem.PyData.strOk a = true) (h2 : PySem.PyData.strOk b = true) (e : (a == b) = r) : eqD (.str a) (.str b) = some (.bool r) := by
  rw [eqD_of (Sh.str h1) (by decide) (Sh.str h2) (by decide)]
  simp [PyData.eqv, e]
theorem neD_str {a b : Str} {r : Bool} (h1 : PySem.PyData.strOk a = true) (h2 : PySem.PyData.strOk b = true) (e : (a == b) = !r) : neD (.str a) (.str b) = some (.bool r) := by
  rw [neD_of (Sh.str h1) (by decide) (Sh.str h2) (by decide)]
  simp [PyData.eqv, e]
end PV
namespace PV
open PySem PySem.Spec PyProof.Rows L2
/-! ### loops by place; dicts of ints to True -/
theorem forS_lst {p : Pat} {b : Rh → Out} (I : Nat → Rh → Prop) (L : List D) (ρ : Rh) (h0 : I 0 ρ) (h : ∀ k (hk : k < L.length) ρ, I k ρ → ∃ ρ1, patS .ro p L[k] ρ = some ρ1 ∧ Nxs (b ρ1) (I (k + 1))) : Nxs (forS p b L ρ) (I L.length) := by
  have go : ∀ (m s : Nat) (ρ : Rh), s + m = L.length → I s ρ → Nxs (forS p b (L.drop s) ρ) (I L.length) := by
    intro m
    induction m with
    | zero =>
      intro s ρ hs hi
      rw [List.drop_of_length_le (by omega)]
      exact ⟨ρ, by simp [forS], by rw [show L.length = s by omega]; exact hi⟩
    | succ m ih =>
      intro s ρ hs hi
      have hlt : s < L.length := by omega
      obtain ⟨ρ1, e1, ρ2, e2, i2⟩ := h s hlt ρ hi
      obtain ⟨ρ3, e3, i3⟩ := ih (s + 1) ρ2 (by omega) i2
      refine ⟨ρ3, ?_, i3⟩
      rw [List.drop_eq_getElem_cons hlt, forS]
      simp only [e1, e2]
      exact e3
  have := go L.length 0 ρ (by omega) h0
  rw [List.drop_zero] at this
  exact this
theorem lcS_fm {α : Type} {step : D → Option (Option D)} {f : α → D} {g : α → Option D} : ∀ {ds : List α}, (∀ d ∈ ds, step (f d) = some (g d)) → lcS step (ds.map f) = some (ds.filterMap g)
  | [], _ => rfl
  | d :: ds, h => by
    rw [List.map_cons, lcS, h d List.mem_cons_self]
    simp only [lcS_fm fun e m => h e (List.mem_cons_of_mem _ m)]
    rw [List.filterMap_cons]
    cases g d <;> rfl
theorem enumD_range (ds : List D) : enumD ds = (List.range ds.length).map fun k => .tuple [.int k, ds.getD k .none] := by
  apply List.ext_getElem?
  intro i
  unfold enumD
  rw [List.getElem?_mapIdx, List.getElem?_map]
  by_cases h : i < ds.length
  · rw [List.getElem?_eq_getElem h, List.getElem?_range h]
    simp [List.getD_eq_getElem?_getD, List.getElem?_eq_getElem h]
  · rw [List.getElem?_eq_none (by omega), List.getElem?_eq_none (by simp; omega)]; rfl
def setD (ks : List Nat) : D := .dict (ks.map fun (k : Nat) => (PyData.int (k : Int), PyData.bool true))
theorem findG_set (ks : List Nat) (k : Nat) : findG sKey (ks.map fun (k : Nat) => (PyData.int (k : Int), PyData.bool true)) (.inl (k : Int)) = if k ∈ ks then some (.bool true) else none := by
  induction ks with
  | nil => rfl
  | cons a ks ih =>
    unfold findG at ih ⊢
    rw [List.map_cons, List.find?_cons]
    by_cases h : a = k
    · subst h
      have : decide (sKey (PyData.int (a : Int)) = some (Sum.inl (a : Int))) = true := decide_eq_true rfl
      simp only [this]
      simp
    · have : decide (sKey (PyData.int (a : Int)) = some (Sum.inl (k : Int))) = false := decide_eq_false (by simp [sKey]; omega)
      simp only [this]
      rw [ih]
      simp [List.mem_cons, Ne.symm h]
theorem dlook_set (ks : List Nat) (k : Nat) : dlook (setD ks) (.int (k : Int)) = some (if k ∈ ks then some (.bool true) else none) := by
  have := findG_set ks k
  unfold setD
  cases ks with
  | nil => rfl
  | cons a ks =>
    simp only [List.map_cons] at this ⊢
    simp only [dlook, sKey, this]
theorem dnin_set (ks : List Nat) (k : Nat) : dninD (.int (k : Int)) (setD ks) = some (.bool (!decide (k ∈ ks))) := by
  unfold dninD
  rw [dlook_set]
  by_cases h : k ∈ ks <;> simp [h]
theorem dput_set {ks : List Nat} {k : Nat} (h : k ∉ ks) (hl : ks.length < 1000000) : dputD (ks.map fun (k : Nat) => (PyData.int (k : Int), PyData.bool true)) (.int (k : Int)) (.bool true) = some ((ks ++ [k]).map fun (k : Nat) => (PyData.int (k : Int), PyData.bool true)) := by
  have hany : (ks.map fun (k : Nat) => (PyData.int (k : Int), PyData.bool true)).any (fun p => decide (sKey p.1 = some (Sum.inl (k : Int)))) = false := by
    rw [List.any_eq_false]
    intro p hp
    obtain ⟨a, ha, rfl⟩ := List.mem_map.mp hp
    have : a ≠ k := fun e => h (e ▸ ha)
    simp [sKey]
    omega
  have hput : putG sKey (ks.map fun (k : Nat) => (PyData.int (k : Int), PyData.bool true)) (.inl (k : Int)) (kD (.inl (k : Int))) (.bool true) = (ks ++ [k]).map fun (k : Nat) => (PyData.int (k : Int), PyData.bool true) := by
    unfold putG
    rw [hany]
    simp [kD]
  cases ks with
  | nil => rw [List.map_nil] at hput ⊢; simp only [dputD, sKey]; rw [if_pos ⟨rfl, by simp⟩, hput]
  | cons a ks =>
    simp only [List.map_cons] at hput ⊢
    simp only [dputD, sKey]
    rw [if_pos ⟨rfl, by simpa using hl⟩, hput]
end PV

set_option Elab.async false
set_option linter.all false
set_option maxRecDepth 100000
set_option maxHeartbeats 4000000
/-! dicts of tuple keys to ints -/
namespace PV
open PySem PySem.Spec PyProof.Rows L2
abbrev TK := List (List Key × Int)
def toldKV (T : TK) : List (D × D) := (.none, .none) :: T.map fun p => (tD p.1, .int p.2)
def tgt (T : TK) (k : List Key) : Option Int := (T.find? fun p => decide (p.1 = k)).map (·.2)
theorem findG_told (T : TK) (k : List Key) : findG tKey (T.map fun p => (tD p.1, PyData.int p.2)) k = (tgt T k).map .int := by
  induction T with
  | nil => rfl
  | cons a T ih =>
    unfold findG tgt at ih ⊢
    rw [List.map_cons, List.find?_cons, List.find?_cons]
    by_cases h : a.1 = k
    · have e1 : decide (tKey (tD a.1, PyData.int a.2).1 = some k) = true := decide_eq_true (by rw [tKey_tD, h])
      have e2 : decide (a.1 = k) = true := decide_eq_true h
      simp only [e1, e2]
      rfl
    · have e1 : decide (tKey (tD a.1, PyData.int a.2).1 = some k) = false := decide_eq_false (by rw [tKey_tD]; simpa using h)
      have e2 : decide (a.1 = k) = false := decide_eq_false h
      simp only [e1, e2]
      exact ih
theorem dlook_told (T : TK) (k : List Key) : dlook (.dict (toldKV T)) (tD k) = some ((tgt T k).map .int) := by
  unfold toldKV
  simp only [dlook, tKey_tD, findG_told]
theorem dlook_lock (T : TK) (k : List Key) : dlook (.dict ((.bool true, .none) :: toldKV T)) (tD k) = some ((tgt T k).map .int) := by
  unfold toldKV
  simp only [dlook, tKey_tD, findG_told]
theorem tgt_none {T : TK} {k : List Key} : tgt T k = none ↔ k ∉ T.map (·.1) := by
  induction T with
  | nil => simp [tgt]
  | cons a T ih =>
    unfold tgt at ih ⊢
    rw [List.find?_cons]
    by_cases h : a.1 = k
    · have e2 : decide (a.1 = k) = true := decide_eq_true h
      simp only [e2]
      simp [h]
    · have e2 : decide (a.1 = k) = false := decide_eq_false h
      simp only [e2]
      rw [ih]
      simp [Ne.symm h]
theorem dput_told {T : TK} {k : List Key} {v : Int} (h : tgt T k = none) (hl : T.length < 1000000) : dputD (toldKV T) (tD k) (.int v) = some (toldKV (T ++ [(k, v)])) := by
  have hn := tgt_none.mp h
  have hany : (T.map fun p => (tD p.1, PyData.int p.2)).any (fun p => decide (tKey p.1 = some k)) = false := by
    rw [List.any_eq_false]
    intro p hp
    obtain ⟨a, ha, rfl⟩ := List.mem_map.mp hp
    have : a.1 ≠ k := fun e => hn (List.mem_map.mpr ⟨a, ha, e⟩)
    rw [tKey_tD]
    simpa using this
  unfold toldKV
  simp only [dputD, tKey_tD]
  rw [if_pos ⟨rfl, by simpa using hl⟩]
  unfold putG
  rw [hany]
  simp
theorem din_told (T : TK) (k : List Key) : dinD (tD k) (.dict (toldKV T)) = some (.bool (tgt T k).isSome) := by
  unfold dinD
  rw [dlook_told]
  cases tgt T k <;> rfl
theorem dgt1_told (T : TK) (k : List Key) : dgt1D (.dict (toldKV T)) (tD k) = some (match tgt T k with | some v => .int v | none => .none) := by
  unfold dgt1D
  rw [dlook_told]
  cases tgt T k <;> rfl
theorem dget_told {T : TK} {k : List Key} {v : Int} (h : tgt T k = some v) : dgetD (.dict (toldKV T)) (tD k) = some (.int v) := by
  unfold dgetD
  rw [dlook_told, h]; rfl
theorem dget_lock {T : TK} {k : List Key} {v : Int} (h : tgt T k = some v) : dgetD (.dict ((.bool true, .none) :: toldKV T)) (tD k) = some (.int v) := by
  unfold dgetD
  rw [dlook_lock, h]; rfl
end PV

set_option Elab.async false
set_option linter.all false
set_option maxRecDepth 100000
set_option maxHeartbeats 4000000
namespace PV
open PySem PySem.Spec PyProof.Rows L2
/-! ### plain data of bounded depth, of short tuples -/
def At : D → Bool
  | .none => true
  | .bool _ => true
  | .int _ => true
  | .str s => PyData.strOk s
  | _ => false
def Gd : Nat → D → Prop
  | 0, d => At d = true
  | k + 1, d => At d = true ∨ ∃ ds, d = .tuple ds ∧ ds.length ≤ 1000 ∧ ∀ x ∈ ds, Gd k x
def Gl (k : Nat) (ds : List D) : Prop := ∀ x ∈ ds, Gd k x
theorem Gd.at {k : Nat} {d : D} (h : At d = true) : Gd k d := by
  cases k with
  | zero => exact h
  | succ k => exact .inl h
theorem Gd.succ : ∀ {k : Nat} {d : D}, Gd k d → Gd (k + 1) d
  | 0, d, h => .inl h
  | k + 1, d, h => by
    rcases h with h | ⟨ds, e, hl, ha⟩
    · exact .inl h
    · exact .inr ⟨ds, e, hl, fun x m => Gd.succ (ha x m)⟩
theorem Gd.mono {k l : Nat} {d : D} (h : Gd k d) (hl : k ≤ l) : Gd l d := by
  induction hl with
  | refl => exact h
  | step _ ih => exact ih.succ
theorem Gl.mono {k l : Nat} {ds : List D} (h : Gl k ds) (hl : k ≤ l) : Gl l ds := fun x m => (h x m).mono hl
theorem Gd.split {k : Nat} {d : D} (h : Gd k d) : At d = true ∨ ∃ ds, d = .tuple ds ∧ ds.length ≤ 1000 ∧ Gl k ds := by
  cases k with
  | zero => exact .inl h
  | succ k =>
    rcases h with h | ⟨ds, e, hl, ha⟩
    · exact .inl h
    · exact .inr ⟨ds, e, hl, fun x m => (ha x m).succ⟩
theorem at_pure {d : D} (h : At d = true) : pureD d = true := by cases d <;> first | rfl | cases h
theorem at_sh {d : D} (h : At d = true) : Sh 0 d := by
  cases d with
  | none => exact Sh.none
  | bool b => exact Sh.bool
  | int i => exact Sh.int
  | str s => exact Sh.str h
  | _ => cases h
theorem Gd.pure : ∀ {k : Nat} {d : D}, Gd k d → pureD d = true
  | 0, d, h => at_pure h
  | k + 1, d, h => by
    rcases h with h | ⟨ds, rfl, hl, ha⟩
    · exact at_pure h
    · rw [pureD_tup]; exact pureL_iff.mpr fun x m => Gd.pure (ha x m)
theorem Gd.sh : ∀ {k : Nat} {d : D}, Gd k d → Sh k d
  | 0, d, h => at_sh h
  | k + 1, d, h => by
    rcases h with h | ⟨ds, rfl, hl, ha⟩
    · exact (at_sh h).mono (Nat.zero_le _)
    · exact Sh.tup fun x m => Gd.sh (ha x m)
theorem Gl.pure {k : Nat} {ds : List D} (h : Gl k ds) : pureL ds = true := pureL_iff.mpr fun x m => (h x m).pure
theorem Gl.nil {k : Nat} : Gl k [] := fun x m => nomatch m
theorem Gl.cons {k : Nat} {d : D} {ds : List D} (h : Gd k d) (h2 : Gl k ds) : Gl k (d :: ds) := fun x m => by
  rcases List.mem_cons.mp m with m | m
  · exact m ▸ h
  · exact h2 x m
theorem Gl.app {k : Nat} {a b : List D} (h : Gl k a) (h2 : Gl k b) : Gl k (a ++ b) := fun x m => by
  rcases List.mem_append.mp m with m | m
  · exact h x m
  · exact h2 x m
theorem Gd.tup {k : Nat} {ds : List D} (hl : ds.length ≤ 1000) (h : Gl k ds) : Gd (k + 1) (.tuple ds) := .inr ⟨ds, rfl, hl, h⟩
theorem Gl.head {k : Nat} {d : D} {ds : List D} (h : Gl k (d :: ds)) : Gd k d := h d List.mem_cons_self
theorem Gl.tail {k : Nat} {d : D} {ds : List D} (h : Gl k (d :: ds)) : Gl k ds := fun x m => h x (List.mem_cons_of_mem _ m)
theorem gl_cons {k : Nat} {d : D} {ds : List D} : Gl k (d :: ds) ↔ Gd k d ∧ Gl k ds := ⟨fun h => ⟨h.head, h.tail⟩, fun h => .cons h.1 h.2⟩
theorem gl_app {k : Nat} {a b : List D} : Gl k (a ++ b) ↔ Gl k a ∧ Gl k b := ⟨fun h => ⟨fun x m => h x (List.mem_append.mpr (.inl m)), fun x m => h x (List.mem_append.mpr (.inr m))⟩, fun h => .app h.1 h.2⟩
end PV

set_option Elab.async false
set_option linter.all false
set_option maxRecDepth 100000
set_option maxHeartbeats 4000000
/-! lists and tuples of natural numbers -/
namespace PV
open PySem PySem.Spec PyProof.Rows L2
abbrev nI (k : Nat) : D := .int (k : Int)
abbrev tN (l : List Nat) : D := .tuple (l.map nI)
abbrev lN (l : List Nat) : D := .list (l.map nI)
theorem pure_nI (l : List Nat) : pureL (l.map nI) = true := pureL_iff.mpr fun d m => by
  obtain ⟨c, _, rfl⟩ := List.mem_map.mp m; rfl
theorem pure_tN (l : List Nat) : pureD (tN l) = true := by rw [pureD_tup]; exact pure_nI l
theorem pure_tNs (L : List (List Nat)) : pureL (L.map tN) = true := pureL_iff.mpr fun d m => by
  obtain ⟨c, _, rfl⟩ := List.mem_map.mp m; exact pure_tN c
theorem intsOf_nI (l : List Nat) : intsOf (l.map nI) = some (l.map fun k : Nat => (k : Int)) := by
  induction l with
  | nil => rfl
  | cons a l ih => simp only [List.map_cons, intsOf, ih]
theorem sum_cast (l : List Nat) : (l.map fun k : Nat => (k : Int)).sum = ((l.sum : Nat) : Int) := by
  induction l with
  | nil => rfl
  | cons a l ih => rw [List.map_cons, List.sum_cons, ih, List.sum_cons]; omega
theorem sum_tN (l : List Nat) : sumF [tN l] = some (nI l.sum) := by
  unfold sumF
  simp only [intsOf_nI, sum_cast]
theorem sum_lN (l : List Nat) : sumF [lN l] = some (nI l.sum) := by
  unfold sumF
  simp only [intsOf_nI, sum_cast]
theorem len_tN (l : List Nat) : lenF [tN l] = some (nI l.length) := by rw [lenF_tup, List.length_map]
theorem len_lN (l : List Nat) : lenF [lN l] = some (nI l.length) := by rw [lenF_lst, List.length_map]
theorem ix_tN {l : List Nat} {k : Nat} (h : k < l.length) : ixD (tN l) (nI k) = some (nI (l.getD k 0)) :=
  ixT (by rw [List.getElem?_map, List.getElem?_eq_getElem h]; simp [List.getD_eq_getElem?_getD, h])
theorem ix_lN {l : List Nat} {k : Nat} (h : k < l.length) : ixD (lN l) (nI k) = some (nI (l.getD k 0)) :=
  ixL (by rw [List.getElem?_map, List.getElem?_eq_getElem h]; simp [List.getD_eq_getElem?_getD, h])
theorem range_nI (n : Nat) : rangeD 0 n = (List.range n).map nI := by
  unfold rangeD
  exact List.map_congr_left fun i _ => by rw [Int.zero_add]
theorem range_nI' (a n : Nat) : rangeD (a : Int) n = (List.range n).map fun i => nI (a + i) := by
  unfold rangeD
  exact List.map_congr_left fun i _ => by rw [nI]; congr 1
/-! ### sorted -/
theorem insL_map {α β : Type} {r : β → β → Bool} {s : α → α → Bool} (f : α → β) (h : ∀ a b, r (f a) (f b) = s a b) (a : α) : ∀ l : List α, insL r (f a) (l.map f) = (insL s a l).map f
  | [] => rfl
  | b :: l => by
    simp only [List.map_cons, insL, h]
    cases s a b with
    | true => rfl
    | false => simp only [List.map_cons, insL_map f h a l]
theorem isort_map {α β : Type} {r : β → β → Bool} {s : α → α → Bool} (f : α → β) (h : ∀ a b, r (f a) (f b) = s a b) : ∀ l : List α, isort r (l.map f) = (isort s l).map f
  | [] => rfl
  | a :: l => by rw [List.map_cons, isort, isort_map f h l, insL_map f h]; rfl
def leN (a b : Nat) : Bool := Nat.ble a b
def geN (a b : Nat) : Bool := Nat.ble b a
theorem leN_iff {a b : Nat} : leN a b = true ↔ a ≤ b := by unfold leN; rw [Nat.ble_eq]
theorem geN_iff {a b : Nat} : geN a b = true ↔ b ≤ a := by unfold geN; rw [Nat.ble_eq]
theorem dataLe_nI (a b : Nat) : PySem.W.dataLe false id (nI a) (nI b) = leN a b := by
  have := congrFun (congrFun (PySem.W.dataLe_int (fun k : Nat => (k : Int))) a) b
  show PySem.W.dataLe false (fun k : Nat => nI k) a b = _
  rw [this]
  by_cases h : a ≤ b
  · rw [leN_iff.mpr h]; simp; omega
  · have : leN a b = false := by cases q : leN a b with | false => rfl | true => exact absurd (leN_iff.mp q) h
    rw [this]; simp; omega
theorem dataGe_nI (a b : Nat) : PySem.W.dataLe true id (nI a) (nI b) = geN a b := by
  have := congrFun (congrFun (PySem.W.dataGe_int (fun k : Nat => (k : Int))) a) b
  show PySem.W.dataLe true (fun k : Nat => nI k) a b = _
  rw [this]
  by_cases h : b ≤ a
  · rw [geN_iff.mpr h]; simp; omega
  · have : geN a b = false := by cases q : geN a b with | false => rfl | true => exact absurd (geN_iff.mp q) h
    rw [this]; simp; omega
theorem okSort_nI (l : List Nat) : okSort (l.map nI) = true := by
  have h1 : ((l.map nI).all fun d => (l.map nI).all fun e => PySem.W.alike d e) = true := by
    rw [List.all_eq_true]
    intro d hd
    obtain ⟨a, _, rfl⟩ := List.mem_map.mp hd
    rw [List.all_eq_true]
    intro e he
    obtain ⟨b, _, rfl⟩ := List.mem_map.mp he
    simp [nI, PySem.W.alike]
  have h2 : ((l.map nI).all fun d => match d with | .tuple _ => false | .none => false | _ => true) = true := by
    rw [List.all_eq_true]
    intro d hd
    obtain ⟨a, _, rfl⟩ := List.mem_map.mp hd
    rfl
  have h3 : ((l.map nI).all fun d => decide (d.depth ≤ 40)) = true := by
    rw [List.all_eq_true]
    intro d hd
    obtain ⟨a, _, rfl⟩ := List.mem_map.mp hd
    simp [nI, PyData.depth]
  have h4 := pure_nI l
  unfold okSort
  rw [Bool.and_eq_true, Bool.and_eq_true, Bool.and_eq_true, Bool.or_eq_true]
  exact ⟨⟨⟨h4, h1⟩, .inr h2⟩, h3⟩
theorem sort_lN (l : List Nat) : sortF false [lN l] = some (lN (isort leN l)) := by
  unfold sortF sortD
  simp only
  rw [if_pos (okSort_nI l), isort_map nI dataLe_nI]
theorem sort_tN (l : List Nat) : sortF false [tN l] = some (lN (isort leN l)) := by
  unfold sortF sortD
  simp only
  rw [if_pos (okSort_nI l), isort_map nI dataLe_nI]
theorem sortR_lN (l : List Nat) : sortF true [lN l] = some (lN (isort geN l)) := by
  unfold sortF sortD
  simp only
  rw [if_pos (okSort_nI l), isort_map nI dataGe_nI]
theorem insL_perm {α : Type} (le : α → α → Bool) (a : α) : ∀ l : List α, (insL le a l).Perm (a :: l)
  | [] => .refl _
  | b :: l => by
    unfold insL
    cases le a b with
    | true => exact .refl _
    | false => exact (List.Perm.cons b (insL_perm le a l)).trans (.swap a b l)
theorem isort_perm {α : Type} (le : α → α → Bool) : ∀ l : List α, (isort le l).Perm l
  | [] => .refl _
  | a :: l => (insL_perm le a _).trans (List.Perm.cons a (isort_perm le l))
theorem insL_sorted {α : Type} {le : α → α → Bool} (tr : ∀ a b c, le a b = true → le b c = true → le a c = true) (tot : ∀ a b, le a b = true ∨ le b a = true) (a : α) : ∀ {l : List α}, l.Pairwise (fun x y => le x y = true) → (insL le a l).Pairwise (fun x y => le x y = true)
  | [], _ => by simp [insL]
  | b :: l, h => by
    rw [List.pairwise_cons] at h
    unfold insL
    cases q : le a b with
    | true =>
      simp only
      rw [List.pairwise_cons]
      refine ⟨fun c m => ?_, List.pairwise_cons.mpr h⟩
      rcases List.mem_cons.mp m with m | m
      · rw [m]; exact q
      · exact tr _ _ _ q (h.1 c m)
    | false =>
      simp only
      rw [List.pairwise_cons]
      refine ⟨fun c m => ?_, insL_sorted tr tot a h.2⟩
      rcases List.mem_cons.mp ((insL_perm le a l).mem_iff.mp m) with m | m
      · rw [m]
        rcases tot a b with z | z
        · rw [q] at z; cases z
        · exact z
      · exact h.1 c m
theorem isort_sorted {α : Type} {le : α → α → Bool} (tr : ∀ a b c, le a b = true → le b c = true → le a c = true) (tot : ∀ a b, le a b = true ∨ le b a = true) : ∀ l : List α, (isort le l).Pairwise (fun x y => le x y = true)
  | [] => .nil
  | a :: l => insL_sorted tr tot a (isort_sorted tr tot l)
/-- sorted lists of the same items are the same, where alike items are the same -/
theorem sorted_unique {α : Type} {le : α → α → Bool} (anti : ∀ a b, le a b = true → le b a = true → a = b) : ∀ {l m : List α}, l.Pairwise (fun x y => le x y = true) → m.Pairwise (fun x y => le x y = true) → l.Perm m → l = m
  | [], m, _, _, p => (List.nil_perm.mp p).symm
  | a :: l, [], _, _, p => by cases List.perm_nil.mp p
  | a :: l, b :: m, h1, h2, p => by
    rw [List.pairwise_cons] at h1 h2
    have hab : a = b := by
      have ha : a ∈ b :: m := p.mem_iff.mp List.mem_cons_self
      have hb : b ∈ a :: l := p.mem_iff.mpr List.mem_cons_self
      rcases List.mem_cons.mp ha with e | e
      · exact e
      · rcases List.mem_cons.mp hb with e' | e'
        · exact e'.symm
        · exact anti _ _ (h1.1 _ e') (h2.1 _ e)
    subst hab
    rw [sorted_unique anti h1.2 h2.2 ((List.perm_cons a).mp p)]
theorem leN_tr (a b c : Nat) (h : leN a b = true) (k : leN b c = true) : leN a c = true := leN_iff.mpr (Nat.le_trans (leN_iff.mp h) (leN_iff.mp k))
theorem leN_tot (a b : Nat) : leN a b = true ∨ leN b a = true := (Nat.le_total a b).imp leN_iff.mpr leN_iff.mpr
theorem leN_anti (a b : Nat) (h : leN a b = true) (k : leN b a = true) : a = b := Nat.le_antisymm (leN_iff.mp h) (leN_iff.mp k)
theorem geN_tr (a b c : Nat) (h : geN a b = true) (k : geN b c = true) : geN a c = true := geN_iff.mpr (Nat.le_trans (geN_iff.mp k) (geN_iff.mp h))
theorem geN_tot (a b : Nat) : geN a b = true ∨ geN b a = true := (Nat.le_total a b).elim (fun h => .inr (geN_iff.mpr h)) fun h => .inl (geN_iff.mpr h)
theorem geN_anti (a b : Nat) (h : geN a b = true) (k : geN b a = true) : a = b := Nat.le_antisymm (geN_iff.mp k) (geN_iff.mp h)
theorem isort_le (l : List Nat) : (isort leN l).Pairwise (· ≤ ·) := (isort_sorted leN_tr leN_tot l).imp leN_iff.mp
theorem isort_ge (l : List Nat) : (isort geN l).Pairwise (· ≥ ·) := (isort_sorted geN_tr geN_tot l).imp geN_iff.mp
theorem isort_of_le {l m : List Nat} (h : m.Pairwise (· ≤ ·)) (p : m.Perm l) : isort leN l = m :=
  sorted_unique leN_anti (isort_sorted leN_tr leN_tot l) (h.imp leN_iff.mpr) ((isort_perm leN l).trans p.symm)
theorem isort_of_ge {l m : List Nat} (h : m.Pairwise (· ≥ ·)) (p : m.Perm l) : isort geN l = m :=
  sorted_unique geN_anti (isort_sorted geN_tr geN_tot l) (h.imp geN_iff.mpr) ((isort_perm geN l).trans p.symm)
theorem isort_rev (l : List Nat) : (isort leN l).reverse = isort geN l :=
  (isort_of_ge (by rw [List.pairwise_reverse]; exact (isort_le l)) ((List.reverse_perm _).trans (isort_perm leN l))).symm
/-! ### == -/
theorem sh_nI {k : Nat} : Sh 0 (nI k) := Sh.int
theorem sh_tN (l : List Nat) : Sh 1 (tN l) := Sh.tup fun x m => by
  obtain ⟨c, _, rfl⟩ := List.mem_map.mp m; exact sh_nI
theorem sh_tNs (L : List (List Nat)) : Sh 2 (.tuple (L.map tN)) := Sh.tup fun x m => by
  obtain ⟨c, _, rfl⟩ := List.mem_map.mp m; exact sh_tN c
theorem eqv_nI (l m : List Nat) : PyData.eqvAll (l.map nI) (m.map nI) = decide (l = m) := by
  induction l generalizing m with
  | nil => cases m <;> simp [PyData.eqvAll]
  | cons a l ih =>
    cases m with
    | nil => simp [PyData.eqvAll]
    | cons b m =>
      simp only [List.map_cons, PyData.eqvAll, ih, PyData.eqv, nI]
      by_cases h : a = b
      · subst h; simp
      · simp [h]; omega
theorem eqv_tN (l m : List Nat) : PyData.eqv (tN l) (tN m) = decide (l = m) := by
  simp only [PyData.eqv, eqv_nI]
theorem eq_tN (l m : List Nat) : eqD (tN l) (tN m) = some (.bool (decide (l = m))) := by
  rw [eqD_of (sh_tN l) (by decide) (sh_tN m) (by decide), eqv_tN]
theorem ne_tN (l m : List Nat) : neD (tN l) (tN m) = some (.bool (!decide (l = m))) := by
  rw [neD_of (sh_tN l) (by decide) (sh_tN m) (by decide), eqv_tN]
theorem ne_nI (a b : Nat) : neD (nI a) (nI b) = some (.bool (!decide (a = b))) := by
  rw [neD_int]
  by_cases h : a = b
  · subst h; simp
  · have : ((a : Int) == (b : Int)) = false := by simp; omega
    rw [this, decide_eq_false h]
theorem eq_nI (a b : Nat) : eqD (nI a) (nI b) = some (.bool (decide (a = b))) := by
  rw [eqD_int]
  by_cases h : a = b
  · subst h; simp
  · have : ((a : Int) == (b : Int)) = false := by simp; omega
    rw [this, decide_eq_false h]
theorem in_tNs (l : List Nat) (L : List (List Nat)) : inD (tN l) (.tuple (L.map tN)) = some (.bool (L.any fun m => decide (m = l))) := by
  have h1 : inF false (tN l) (.tuple (L.map tN)) = none := by
    simp [inF, flatD]
  have h2 : inL false (tN l) (.tuple (L.map tN)) = none := rfl
  have h3 : inT false (tN l) (.tuple (L.map tN)) = some (.bool (L.any fun m => decide (m = l))) := by
    have a1 := (sh_tN l)
    have a2 := (sh_tNs L)
    have b1 := a1.ok (by decide)
    have b2 := a2.ok (by decide)
    unfold okEq at b1 b2
    simp only [Bool.and_eq_true] at b1 b2
    unfold inT
    simp only
    rw [if_pos ⟨b1.1, b1.2, by simpa [noDct] using b2.1, b2.2⟩, List.any_map]
    have : ((fun z => PyData.eqv z (tN l)) ∘ tN) = fun m => decide (m = l) := by funext m; exact eqv_tN m l
    rw [this]; rfl
  show alt (inF false) (alt (inL false) (inT false)) _ _ = _
  have e : alt (inL false) (inT false) (tN l) (.tuple (L.map tN)) = inT false (tN l) (.tuple (L.map tN)) := rfl
  unfold alt at e ⊢
  simp only [h1]
  rw [← h3]
  exact e
end PV

set_option Elab.async false
set_option linter.all false
set_option maxRecDepth 100000
set_option maxHeartbeats 4000000
/-! what the newer readings compute, for simp -/
namespace PV
open PySem PySem.Spec PyProof.Rows L2
@[simp] theorem sAug_e (i : Nat) (fn : D → D → Option D) (g : Rh → Option (D × Rh)) (ρ : Rh) : sAug i fn g ρ = (fun ρ => match ρ[i]? with
  | some (some ⟨.int k, _⟩) => match g ρ with
    | some (d, ρ1) => match fn (.int k) d with
      | some z => match setS i ⟨z, .own⟩ ρ1 with
        | some ρ2 => .nx ρ2
        | none => .no
      | none => .no
    | none => .no
  | _ => .no : Rh → Out) ρ := rfl
@[simp] theorem sAugI_e (x : Nat) (fn : D → D → Option D) (hk he : Rh → Option D) (ρ : Rh) : sAugI x fn hk he ρ = (fun ρ => match wr x ρ, hk ρ with
  | some (.list ds, ow), some k => match ixD (.list ds) k with
    | some (.int j) => match he ρ with
      | some d => match fn (.int j) d with
        | some z => match ixSet ds k z with
          | some ds' => .nx (ρ.set x (some ⟨.list ds', ow⟩))
          | none => .no
        | none => .no
      | none => .no
    | _ => .no
  | _, _ => .no : Rh → Out) ρ := rfl
@[simp] theorem iZ_e (h1 h2 : Rh → Option D) (ρ : Rh) : iZ h1 h2 ρ = (fun ρ => match h1 ρ, h2 ρ with
  | some (.list xs), some (.list ys) => some (zipD xs ys)
  | some (.tuple xs), some (.tuple ys) => some (zipD xs ys)
  | _, _ => none : Rh → Option (List D)) ρ := rfl
@[simp] theorem iEZ_e (h1 h2 : Rh → Option D) (ρ : Rh) : iEZ h1 h2 ρ = (fun ρ => match h1 ρ, h2 ρ with
  | some (.list xs), some (.list ys) => some (enumD (zipD xs ys))
  | _, _ => none : Rh → Option (List D)) ρ := rfl
@[simp] theorem iR3_e (h : Rh → Option (List D)) (ρ : Rh) : iR3 h ρ = (fun ρ => (h ρ).bind rng3 : Rh → Option (List D)) ρ := rfl
@[simp] theorem dgt2_e (h1 h2 h3 : Rh → Option D) (ρ : Rh) : dgt2 h1 h2 h3 ρ = (fun ρ => match h1 ρ, h2 ρ, h3 ρ with
  | some d, some k, some z => dgt2D d k z
  | _, _, _ => none : Rh → Option D) ρ := rfl
@[simp] theorem rgL1_e (h : Rh → Option D) (ρ : Rh) : rgL1 h ρ = (fun ρ => rgMk .list (some (.int 0)) (h ρ) : Rh → Option D) ρ := rfl
@[simp] theorem rgT1_e (h : Rh → Option D) (ρ : Rh) : rgT1 h ρ = (fun ρ => rgMk .tuple (some (.int 0)) (h ρ) : Rh → Option D) ρ := rfl
@[simp] theorem rgL2_e (h h2 : Rh → Option D) (ρ : Rh) : rgL2 h h2 ρ = (fun ρ => rgMk .list (h ρ) (h2 ρ) : Rh → Option D) ρ := rfl
@[simp] theorem rgT2_e (h h2 : Rh → Option D) (ρ : Rh) : rgT2 h h2 ρ = (fun ρ => rgMk .tuple (h ρ) (h2 ρ) : Rh → Option D) ρ := rfl
@[simp] theorem dsp1T_e (hk hv : Rh → Option D) (ρ : Rh) : dsp1T hk hv ρ = (fun ρ => match hk ρ, hv ρ with
  | some k, some v => match tKey k with
    | some _ => if pureD v = true then some (.dict [(.none, .none), (k, v)]) else none
    | none => none
  | _, _ => none : Rh → Option D) ρ := rfl
@[simp] theorem sForD_e (i : Nat) (p : Pat) (b : Rh → Out) (ρ : Rh) : sForD i p b ρ = (fun ρ => match ρ[i]? with
  | some (some ⟨.dict kvs, .own⟩) => if locked (.dict kvs) = false ∧ pureL (kvs.map (·.2)) = true then match sFor [] p (lift fun ρ => (getS i ρ).bind keysL) b (lockP i kvs ρ) with
      | .nx ρ' => if okB i ρ' = true then .nx (ρ'.set i (some ⟨.dict kvs, .own⟩)) else .no
      | _ => .no
    else .no
  | _ => .no : Rh → Out) ρ := rfl
@[simp] theorem sortKL_e (j : Nat) (hk h : Rh → Option D) (ρ : Rh) : sortKL j hk h ρ = (fun ρ => match h ρ with
  | some (.list ds) => sortKR j hk ρ ds
  | some (.tuple ds) => sortKR j hk ρ ds
  | _ => none : Rh → Option D) ρ := rfl
@[simp] theorem sortKG_e (j : Nat) (hk h : Rh → Option D) (ρ : Rh) : sortKG j hk h ρ = (fun ρ => match h ρ with
  | some (.int n) => if n.natAbs ≤ 1000000 then sortKR j hk ρ (rangeD 0 n.toNat) else none
  | _ => none : Rh → Option D) ρ := rfl
@[simp] theorem popAtV_e (i : Nat) (g : Rh → Option (D × Rh)) (ρ : Rh) : popAtV i g ρ = (fun ρ => match lstAt i ρ, g ρ with
  | true, some (.int k, ρ1) => match wr i ρ1 with
    | some (.list ds, o) => match ixN ds.length k with
      | some j => match ds[j]? with
        | some d => if pureL ds = true then some (d, ρ1.set i (some ⟨.list (ds.eraseIdx j), o⟩)) else none
        | none => none
      | none => none
    | _ => none
  | _, _ => none : Rh → Option (D × Rh)) ρ := rfl
@[simp] theorem callT_e (F : List D → Option (D × D)) (g : Rh → Option (List D × Rh)) (ρ : Rh) : callT F g ρ = (fun ρ => match g ρ with
  | some (ds, ρ1) => match F ds with
    | some (r, _) => some (r, ρ1)
    | none => none
  | none => none : Rh → Option (D × Rh)) ρ := rfl
@[simp] theorem addI_int (i j : Int) : addI (.int i) (.int j) = some (.int (i + j)) := rfl
@[simp] theorem negI_int (i : Int) : negI (.int i) = some (.int (-i)) := rfl
theorem runF_eq {np n : Nat} {B : Rh → Out} {ds : List D} {z : D} (hl : ds.length = np) (h : Rts (B (rho0 n ds)) fun d _ => d = z) : runF np n B ds = some z := by
  obtain ⟨d, e, rfl⟩ := runF_of hl h
  exact e
@[simp] theorem Rts_rt {d : D} {ρ : Rh} {Po : D → Rh → Prop} : Rts (.rt d ρ) Po ↔ Po d ρ :=
  ⟨fun ⟨_, _, e, h⟩ => by cases e; exact h, fun h => ⟨d, ρ, rfl, h⟩⟩
@[simp] theorem Nxs_nx {ρ : Rh} {Po : Rh → Prop} : Nxs (.nx ρ) Po ↔ Po ρ := ⟨fun ⟨_, e, h⟩ => by cases e; exact h, fun h => ⟨ρ, rfl, h⟩⟩
theorem Rts.ret {g : Rh → Option (D × Rh)} {ρ ρ1 : Rh} {d : D} (h : g ρ = some (d, ρ1)) : Rts (sRet g ρ) fun d' _ => d' = d := ⟨d, ρ1, sRet_of h, rfl⟩
/-! order of tuples of natural numbers -/
def lexLtN : List Nat → List Nat → Bool
  | [], [] => false
  | [], _ :: _ => true
  | _ :: _, [] => false
  | a :: l, b :: m => match Nat.blt a b with
    | true => true
    | false => match Nat.beq a b with
      | true => lexLtN l m
      | false => false
def lexLeN (a b : List Nat) : Bool := !lexLtN b a
theorem lexLtN_int (l m : List Nat) : decide ((l.map fun k : Nat => (k : Int)) < (m.map fun k : Nat => (k : Int))) = lexLtN l m := by
  induction l generalizing m with
  | nil =>
    cases m with
    | nil => simp [lexLtN]
    | cons b m => simp [lexLtN]
  | cons a l ih =>
    cases m with
    | nil => simp [lexLtN]
    | cons b m =>
      rw [lexLtN, ← ih m]
      simp only [List.map_cons, List.cons_lt_cons_iff]
      by_cases h1 : a < b
      · have e1 : Nat.blt a b = true := by rw [Nat.blt_eq]; exact h1
        rw [e1]
        simp; omega
      · have e1 : Nat.blt a b = false := by
          cases q : Nat.blt a b with
          | false => rfl
          | true => rw [Nat.blt_eq] at q; exact absurd q h1
        rw [e1]
        by_cases h2 : a = b
        · subst h2
          simp
        · have e2 : Nat.beq a b = false := by
            cases q : Nat.beq a b with
            | false => rfl
            | true => exact absurd (Nat.eq_of_beq_eq_true q) h2
          rw [e2]
          simp; omega
theorem dataLe_tN (a b : List Nat) : PySem.W.dataLe false id (tN a) (tN b) = lexLeN a b := by
  have := congrFun (congrFun (PySem.W.dataLe_rows (fun l : List Nat => l.map fun k : Nat => (k : Int))) a) b
  have e : PySem.W.dataLe false (fun l : List Nat => tN l) a b = PySem.W.dataLe false (fun l : List Nat => PyData.list ((l.map fun k : Nat => (k : Int)).map .int)) a b := by
    rw [PySem.W.dataLe_eq, PySem.W.dataLe_eq]
    have h : ∀ l : List Nat, PySem.W.keyToks (tN l) = PySem.W.keyToks (PyData.list ((l.map fun k : Nat => (k : Int)).map .int)) := fun l => by
      simp only [PySem.W.keyToks, List.map_map]
      rfl
    simp only [cond_false, PySem.W.dataLt, h]
  show PySem.W.dataLe false (fun l : List Nat => tN l) a b = _
  rw [e, this]
  unfold lexLeN
  rw [← lexLtN_int]
  by_cases h : (b.map fun k : Nat => (k : Int)) < (a.map fun k : Nat => (k : Int))
  · rw [decide_eq_true h]
    simpa [List.not_le] using h
  · rw [decide_eq_false h]
    simpa [List.not_lt] using h
theorem alike_tN : ∀ l m : List Nat, PySem.W.alikeAll (l.map nI) (m.map nI) = true
  | [], _ => by simp [PySem.W.alikeAll]
  | _ :: _, [] => by simp [PySem.W.alikeAll]
  | a :: l, b :: m => by simp [PySem.W.alikeAll, nI, PySem.W.alike, alike_tN l m]
theorem depth_nIs : ∀ l : List Nat, PyData.depthAll (l.map nI) = 0
  | [] => by simp [PyData.depthAll]
  | a :: l => by simp [PyData.depthAll, PyData.depth, depth_nIs l]
theorem okSort_tNs {L : List (List Nat)} (h : ∀ l ∈ L, l ≠ []) : okSort (L.map tN) = true := by
  have h1 : ((L.map tN).all fun d => (L.map tN).all fun e => PySem.W.alike d e) = true := by
    rw [List.all_eq_true]
    intro d hd
    obtain ⟨a, _, rfl⟩ := List.mem_map.mp hd
    rw [List.all_eq_true]
    intro e he
    obtain ⟨b, _, rfl⟩ := List.mem_map.mp he
    simp [PySem.W.alike, alike_tN]
  have h2 : ((L.map tN).all fun d => match d with | .tuple (_ :: _) => true | _ => false) = true := by
    rw [List.all_eq_true]
    intro d hd
    obtain ⟨a, ha, rfl⟩ := List.mem_map.mp hd
    cases a with
    | nil => exact absurd rfl (h _ ha)
    | cons b a => rfl
  have h3 : ((L.map tN).all fun d => decide (d.depth ≤ 40)) = true := by
    rw [List.all_eq_true]
    intro d hd
    obtain ⟨a, _, rfl⟩ := List.mem_map.mp hd
    simp [PyData.depth, depth_nIs]
  unfold okSort
  rw [Bool.and_eq_true, Bool.and_eq_true, Bool.and_eq_true, Bool.or_eq_true]
  exact ⟨⟨⟨pure_tNs L, h1⟩, .inl h2⟩, h3⟩
theorem sort_tNs {L : List (List Nat)} (h : ∀ l ∈ L, l ≠ []) : sortF false [.list (L.map tN)] = some (.list ((isort lexLeN L).map tN)) := by
  unfold sortF sortD
  simp only
  rw [if_pos (okSort_tNs h), isort_map tN dataLe_tN]
end PV

set_option Elab.async false
set_option linter.all false
set_option maxRecDepth 100000
set_option maxHeartbeats 4000000
/-! loops that may return; sorted with a key; slices -/
namespace PV
open PySem PySem.Spec PyProof.Rows L2
theorem sFor_ofR {bs : List Nat} {p : Pat} {g : Rh → Option (List D × Rh)} {b : Rh → Out} {ρ ρ1 ρ2 : Rh} {ds : List D} {Po : D → Rh → Prop} (hg : g ρ = some (ds, ρ1)) (hd : demS bs ρ1 = some ρ2) (h : Rts (forS p b ds ρ2) Po) : Rts (sFor bs p g b ρ) Po := by
  rw [sFor_e]
  simp only [hg, hd]
  exact h
theorem Rts.seq {f g : Rh → Out} {ρ : Rh} {Po : D → Rh → Prop} (h : Rts (f ρ) Po) : Rts (sSeq f g ρ) Po := by
  obtain ⟨d, ρ', e, p⟩ := h
  rw [sSeq_e]; simp only [e]; exact ⟨d, ρ', rfl, p⟩
theorem Rts.imp {o : Out} {Po Po' : D → Rh → Prop} (h : Rts o Po) (k : ∀ d ρ, Po d ρ → Po' d ρ) : Rts o Po' := by
  obtain ⟨d, ρ', e, p⟩ := h
  exact ⟨d, ρ', e, k _ _ p⟩
theorem forS_ret {α : Type} {p : Pat} {b : Rh → Out} (I : Rh → Prop) (Po : D → Rh → Prop) (f : α → D) (T : α → Bool) : ∀ (L : List α) (ρ : Rh),
    (∀ a ∈ L, ∀ ρ, I ρ → T a = false → ∃ ρ1, patS .ro p (f a) ρ = some ρ1 ∧ Nxs (b ρ1) I) →
    (∀ a ∈ L, ∀ ρ, I ρ → T a = true → ∃ ρ1, patS .ro p (f a) ρ = some ρ1 ∧ Rts (b ρ1) Po) → I ρ →
    (L.any T = false → Nxs (forS p b (L.map f) ρ) I) ∧ (L.any T = true → Rts (forS p b (L.map f) ρ) Po)
  | [], ρ, _, _, hi => ⟨fun _ => ⟨ρ, by rw [List.map_nil, forS], hi⟩, fun h => by cases h⟩
  | a :: L, ρ, h1, h2, hi => by
    cases hT : T a with
    | false =>
      obtain ⟨ρ1, e1, ρ2, e2, i2⟩ := h1 a List.mem_cons_self ρ hi hT
      have := forS_ret I Po f T L ρ2 (fun d m => h1 d (List.mem_cons_of_mem _ m)) (fun d m => h2 d (List.mem_cons_of_mem _ m)) i2
      rw [List.any_cons, hT, Bool.false_or]
      rw [List.map_cons, forS]
      simp only [e1, e2]
      exact this
    | true =>
      obtain ⟨ρ1, e1, d, ρ2, e2, i2⟩ := h2 a List.mem_cons_self ρ hi hT
      rw [List.any_cons, hT, Bool.true_or]
      rw [List.map_cons, forS]
      simp only [e1, e2]
      exact ⟨fun z => (nomatch z), fun _ => ⟨d, ρ2, rfl, i2⟩⟩
theorem keysD_map {α : Type} {j : Nat} {hk : Rh → Option D} {ρ : Rh} {f g : α → D} : ∀ {L : List α}, (∀ a ∈ L, hk (ρ.set j (some ⟨f a, .ro⟩)) = some (g a)) → keysD j hk ρ (L.map f) = some (L.map g)
  | [], _ => rfl
  | a :: L, h => by
    rw [List.map_cons, keysD, h a List.mem_cons_self, keysD_map fun b m => h b (List.mem_cons_of_mem _ m)]
    rfl
theorem sIx_neg (n d k : Nat) (h : k ≤ n) (h1 : 1 ≤ k) : HT.sIx n d (some (-(k : Int))) = n - k := by
  unfold HT.sIx
  simp only
  split
  · omega
  · omega
theorem cut_take (ds : List D) (k : Nat) : PV.cutD ds none (some (k : Int)) = ds.take k := by
  unfold PV.cutD
  rw [HT.sIx_none, HT.sIx_nat]
  simp only [List.drop_zero, Nat.sub_zero]
  by_cases h : k ≤ ds.length
  · congr 1; omega
  · rw [List.take_of_length_le (by omega), List.take_of_length_le (by omega)]
theorem cut_lastk (ds : List D) (k : Nat) (h : k ≤ ds.length) (h1 : 1 ≤ k) : PV.cutD ds (some (-(k : Int))) none = ds.drop (ds.length - k) := by
  unfold PV.cutD
  rw [HT.sIx_none, sIx_neg _ _ _ h h1]
  rw [List.take_of_length_le (by rw [List.length_drop]; omega)]
theorem take_lN (l : List Nat) (k : Nat) : PV.cutS (lN l) none (some (k : Int)) = some (lN (l.take k)) := by
  rw [lN, cutL_ok (pure_nI l), cut_take, ← List.map_take]
theorem lastk_lN (l : List Nat) (k : Nat) (h : k ≤ l.length) (h1 : 1 ≤ k) : PV.cutS (lN l) (some (-(k : Int))) none = some (lN (l.drop (l.length - k))) := by
  rw [lN, cutL_ok (pure_nI l), cut_lastk _ _ (by simpa using h) h1, List.length_map, ← List.map_drop]
theorem take_tN (l : List Nat) (k : Nat) : PV.cutS (tN l) none (some (k : Int)) = some (tN (l.take k)) := by
  rw [tN, cutT_ok (pure_nI l), cut_take, ← List.map_take]
theorem rng2_nI (a b : Nat) (ha : a ≤ 1000000) (hb : b ≤ 1000000) : rng2 [nI a, nI b] = some ((List.range (b - a)).map fun i => nI (a + i)) := by
  have h : rng2 [nI a, nI b] = some (rangeD (a : Int) ((b : Int) - (a : Int)).toNat) := by
    unfold rng2
    simp only [nI]
    rw [if_pos ⟨by omega, by omega⟩]
  rw [h, ← range_nI']
  congr 2
  omega
end PV

set_option Elab.async false
set_option linter.all false
set_option maxRecDepth 100000
set_option maxHeartbeats 4000000
namespace T92
open PySem PySem.Spec PyProof.Rows L2 PV
def topS (i : Nat) : Stmt := PySem.Challenge.pw_toldbysums_k92_whole_scores_under_the_st.main.body.getD i (.Pass ⟨0, 0, 0, 0⟩)
structure Cs (mg : Str → Option Value) : Prop where
section
variable [TN]
variable {P : Program} {w : World} {K : PySem.W.Frag} {mg : Str → Option Value} {base : Heap}
/-! ### is_count -/
abbrev s_is_count : Stmt := topS 1
abbrev N_is_count : List Str := ["value", "least", "most"]
theorem sc_is_count : FnScope N_is_count ["value", "least", "most"] (defScope s_is_count) := ⟨rfl, rfl, rfl, by decide +kernel, rfl, by decide +kernel, by decide +kernel⟩
noncomputable def B_is_count : Rh → Out :=
  sRet (lift (eand (u1 (isiD "int") (getS 0)) (eand (u1 notT (u1 (isiD "bool") (getS 0))) (chn leD leD (getS 1) (getS 0) (getS 2)))))
noncomputable def F_is_count : List D → Option D := runF 3 3 B_is_count
theorem ok_is_count {f : Addr} {fd : FuncData} (F : FnD K "is_count" "is_count" s_is_count f fd) (hm : mg "is_count" = some (.ref f)) (hb : Binds K fd ["value", "least", "most"] []) (B : Bl mg) (C : Cs mg) :
    KnP P w K mg base 1 "is_count" 3 F_is_count := by
  have sc := sc_is_count
  refine KnP.ofA F sc hm hb (k := 0) (B := B_is_count) fun cdv A outer s H E hr => ?_
  unfold B_is_count
  exact bs_one (ss_ret (EV.of (ep_and (ep_isi "int" (by rfl) B.isinstance (by rfl) B.int (by decide +kernel) (ep_var (pv 0))) (ep_and (ep_notT (ep_isi "bool" (by rfl) B.isinstance (by rfl) B.bool (by decide +kernel) (ep_var (pv 0)))) (ep_one (ep_chain (op_leA hr) (op_leA hr) r2_leA r2_leA (ep_var (pv 1)) (ep_var (pv 0)) (ep_var (pv 2))))))))
/-! ### games_of -/
abbrev s_games_of : Stmt := topS 3
abbrev N_games_of : List Str := ["k"]
theorem sc_games_of : FnScope N_games_of ["k"] (defScope s_games_of) := ⟨rfl, rfl, rfl, by decide +kernel, rfl, by decide +kernel, by decide +kernel⟩
noncomputable def B_games_of : Rh → Out :=
  sRet (lift (o2 fdivD (o2 mulD (getS 0) (o2 subD (getS 0) (cst (.int 1)))) (cst (.int 2))))
noncomputable def F_games_of : List D → Option D := runF 1 1 B_games_of
theorem ok_games_of {f : Addr} {fd : FuncData} (F : FnD K "games_of" "games_of" s_games_of f fd) (hm : mg "games_of" = some (.ref f)) (hb : Binds K fd ["k"] []) (B : Bl mg) (C : Cs mg) :
    KnP P w K mg base 1 "games_of" 1 F_games_of := by
  have sc := sc_games_of
  refine KnP.ofA F sc hm hb (k := 0) (B := B_games_of) fun cdv A outer s H E hr => ?_
  unfold B_games_of
  exact bs_one (ss_ret (EV.of (ep_bin (op_fdivW) r2_fdivW (ep_bin (op_mulA) r2_mulA (ep_var (pv 0)) (ep_bin (op_sub) r2_sub (ep_var (pv 0)) ep_int)) ep_int)))
/-! ### is_clash -/
abbrev s_is_clash : Stmt := topS 4
abbrev N_is_clash : List Str := ["scores", "value", "n", "k", "told", "i"]
theorem sc_is_clash : FnScope N_is_clash ["scores", "value"] (defScope s_is_clash) := ⟨rfl, rfl, rfl, by decide +kernel, rfl, by decide +kernel, by decide +kernel⟩
noncomputable def B_is_clash : Rh → Out :=
  sSeq (sSet (.nm 2) (lift (fnE lenF (aCons (getS 0) aNil))))
    (sSeq (sIf (lift (por (pnot (qT (u1 (isiD "tuple") (getS 1)))) (por (qB (o2 eqD (getS 1) (mkT aNil))) (pnot (qT (fnE allF (aCons (eLc (.nm 5) [5] (iS (getS 1)) tAll (fnE F_is_count (aCons (getS 5) (aCons (cst (.int 0)) (aCons (o2 subD (getS 2) (cst (.int 1))) aNil))))) aNil))))))) (sRet (lift (cst (.bool false)))) (sNil))
    (sSeq (sIf (lift (pnot (qT (fnE allF (aCons (eLc (.nm 3) [3] (iR1 (aCons (o2 subD (fnE lenF (aCons (getS 1) aNil)) (cst (.int 1))) aNil)) tAll (o2 ltD (o2 ixD (getS 1) (getS 3)) (o2 ixD (getS 1) (o2 addD (getS 3) (cst (.int 1)))))) aNil))))) (sRet (lift (cst (.bool false)))) (sNil))
    (sSeq (sPar 3 4 (bCons (lift (fnE lenF (aCons (getS 1) aNil))) (bCons (lift (fnE sumF (aCons (eLc (.nm 5) [5] (iS (getS 1)) tAll (gE (o2 ixD (getS 0) (getS 5)))) aNil))) bNil)))
    (sRet (lift (eor (o2 ltD (getS 4) (fnE F_games_of (aCons (getS 3) aNil))) (o2 gtI (getS 4) (o2 addD (fnE F_games_of (aCons (getS 3) aNil)) (o2 mulD (getS 3) (o2 subD (getS 2) (getS 3)))))))))))
noncomputable def F_is_clash : List D → Option D := runF 2 6 B_is_clash
theorem ok_is_clash {f : Addr} {fd : FuncData} (F : FnD K "is_clash" "is_clash" s_is_clash f fd) (hm : mg "is_clash" = some (.ref f)) (hb : Binds K fd ["scores", "value"] []) (K_is_count : KnP P w K mg base 1 "is_count" 3 F_is_count) (K_games_of : KnP P w K mg base 1 "games_of" 1 F_games_of) (B : Bl mg) (C : Cs mg) :
    KnP P w K mg base 2 "is_clash" 2 F_is_clash := by
  have sc := sc_is_clash
  refine KnP.ofA F sc hm hb (k := 1) (B := B_is_clash) fun cdv A outer s H E hr => ?_
  unfold B_is_clash
  exact bs_cons (ss_set (fun pe => ps_set (i := 2) sc.nd rfl (by first | exact Or.inl rfl | exact Or.inr rfl) pe) (EV.of (ep_cb (fun pa => pe_callB call_lenA (by rfl) B.len PySem.boot_len pa) rn_lenA (ap_cons (ep_var (pv 0)) ap_nil))))
          (bs_cons (ss_if (TV.of (WP.tp (wp_or (tp_not (tp_t (ep_isi "tuple" (by rfl) B.isinstance (by rfl) B.tuple (by decide +kernel) (ep_var (pv 1))))) (wp_or (tp_cmp (op_eqD (hr.units)) r2_eqD (ep_var (pv 1)) (ep_tup ((ap_nil (fr := true)))) (nomark _)) (wp_or1 (tp_not (tp_t (ep_cb (fun pa => pe_callB (cr_all rfl) (by rfl) B.all (by decide +kernel) pa) rn_all (ap_cons (ep_lc (own := [("i", 5)]) (bs := [1]) rfl sc.nd (ip_seq (epb_var (pv 1))) (blkOk_by (N := N_is_clash) (sc := defScope s_is_clash) (by decide +kernel)) (fun _ _ _ _ _ => patc_nm (pg_name (i := 5) sc.nd rfl (by first | exact Or.inl rfl | exact Or.inr rfl) (by first | exact Or.inl rfl | exact Or.inr rfl)) (by decide)) (fun _ _ _ _ _ => tps_nil) (fun _ _ _ _ _ => ep_callK K_is_count (hr.mono (by decide)) (by rfl) (ap_cons (ep_var (pv 5)) (ap_cons (EP.weak ep_int) (ap_cons (EP.weak (ep_bin (op_sub) r2_sub (ep_var (pv 2)) ep_int)) ap_nil))))) ap_nil))))))))) (bs_one (ss_ret (EV.of ep_bl))) (bs_nil))
          (bs_cons (ss_if (TV.of (tp_not (tp_t (ep_cb (fun pa => pe_callB (cr_all rfl) (by rfl) B.all (by decide +kernel) pa) rn_all (ap_cons (ep_lc (own := [("k", 3)]) (bs := []) rfl sc.nd (ip_range1 (by rfl) B.range (ap_cons (ep_bin (op_sub) r2_sub (ep_cb (fun pa => pe_callB call_lenA (by rfl) B.len PySem.boot_len pa) rn_lenA (ap_cons (ep_var (pv 1)) ap_nil)) ep_int) ap_nil)) (blkOk_by (N := N_is_clash) (sc := defScope s_is_clash) (by decide +kernel)) (fun _ _ _ _ _ => patc_nm (pg_name (i := 3) sc.nd rfl (by first | exact Or.inl rfl | exact Or.inr rfl) (by first | exact Or.inl rfl | exact Or.inr rfl)) (by decide)) (fun _ _ _ _ _ => tps_nil) (fun _ _ _ _ _ => ep_cmp (op_ltA hr) r2_ltA (ep_ix (ep_var (pv 1)) (ep_var (pv 3)) (fun _ _ => rfl)) (ep_ix (ep_var (pv 1)) (ep_bin (op_addA) r2_addA (ep_var (pv 3)) ep_int) (fun _ _ => rfl)) (nomark _))) ap_nil))))) (bs_one (ss_ret (EV.of ep_bl))) (bs_nil))
          (bs_cons (ss_par (fun pa => ps_par rfl sc.nd rfl rfl (by decide) rfl rfl pa rfl) (av_cons (EV.of (ep_cb (fun pa => pe_callB call_lenA (by rfl) B.len PySem.boot_len pa) rn_lenA (ap_cons (ep_var (pv 1)) ap_nil))) (av_cons (EV.of (ep_cb (fun pa => pe_callB (cr_sumA rfl) (by rfl) B.sum (by decide +kernel) pa) rn_sum (ap_cons (ep_lc (own := [("i", 5)]) (bs := [1]) rfl sc.nd (ip_seq (epb_var (pv 1))) (blkOk_by (N := N_is_clash) (sc := defScope s_is_clash) (by decide +kernel)) (fun _ _ _ _ _ => patc_nm (pg_name (i := 5) sc.nd rfl (by first | exact Or.inl rfl | exact Or.inr rfl) (by first | exact Or.inl rfl | exact Or.inr rfl)) (by decide)) (fun _ _ _ _ _ => tps_nil) (fun _ _ _ _ _ => ep_g (ep_ix (ep_var (pv 0)) (ep_var (pv 5)) (fun _ _ => rfl)))) ap_nil))) av_nil)))
          (bs_one (ss_ret (EV.of (ep_or (ep_cmp (op_ltA hr) r2_ltA (ep_var (pv 4)) (ep_callK K_games_of (hr.mono (by decide)) (by rfl) (ap_cons (ep_var (pv 3)) ap_nil)) (nomark _)) (ep_one (ep_cmp (op_gt) r2_gtI (ep_var (pv 4)) (ep_bin (op_addA) r2_addA (ep_callK K_games_of (hr.mono (by decide)) (by rfl) (ap_cons (ep_var (pv 3)) ap_nil)) (ep_bin (op_mulA) r2_mulA (ep_var (pv 3)) (ep_bin (op_sub) r2_sub (ep_var (pv 2)) (ep_var (pv 3))))) (nomark _))))))))))
/-! ### by_score -/
abbrev s_by_score : Stmt := topS 5
abbrev N_by_score : List Str := ["scores", "i"]
theorem sc_by_score : FnScope N_by_score ["scores"] (defScope s_by_score) := ⟨rfl, rfl, rfl, by decide +kernel, rfl, by decide +kernel, by decide +kernel⟩
noncomputable def B_by_score : Rh → Out :=
  sRet (lift (sortKG 1 (mkT (aCons (gE (o2 ixD (getS 0) (getS 1))) (aCons (gE (getS 1)) aNil))) (fnE lenF (aCons (getS 0) aNil))))
noncomputable def F_by_score : List D → Option D := runF 1 2 B_by_score
theorem ok_by_score {f : Addr} {fd : FuncData} (F : FnD K "by_score" "by_score" s_by_score f fd) (hm : mg "by_score" = some (.ref f)) (hb : Binds K fd ["scores"] []) (T : HasTab K mg base f "by_score") (B : Bl mg) (C : Cs mg) :
    KnP P w K mg base 4 "by_score" 1 F_by_score := by
  have sc := sc_by_score
  refine KnP.ofAL F T sc hm hb (k := 3) (B := B_by_score) fun c PT hPT hTB A outer s H E hr => ?_
  unfold B_by_score
  exact bs_one (ss_ret (EV.of (ep_sortLamR (j := 1) hr rfl (by rfl) B.sorted (by rfl) B.range (ep_cb (fun pa => pe_callB call_lenA (by rfl) B.len PySem.boot_len pa) rn_lenA (ap_cons (ep_var (pv 0)) ap_nil)) hPT hTB rfl (by kernel_rfl) rfl (fun _ h => nd_ixP sc.nd h rfl) (fun _ _ _ _ => ep_tup (ap_cons (ep_g (ep_ix (ep_var (pv 0)) (ep_var (pv 1)) (fun _ _ => rfl))) (ap_cons (ep_g (ep_var (pv 1))) ap_nil))))))
/-! ### a_clash -/
abbrev s_a_clash : Stmt := topS 6
abbrev N_a_clash : List Str := ["scores", "order", "k", "some"]
theorem sc_a_clash : FnScope N_a_clash ["scores"] (defScope s_a_clash) := ⟨rfl, rfl, rfl, by decide +kernel, rfl, by decide +kernel, by decide +kernel⟩
noncomputable def B_a_clash : Rh → Out :=
  sSeq (sSet (.nm 1) (lift (fnE F_by_score (aCons (getS 0) aNil))))
    (sSeq (sFor [] (.nm 2) (lift (iR2 (aCons (cst (.int 1)) (aCons (o2 addD (fnE lenF (aCons (getS 1) aNil)) (cst (.int 1))) aNil)))) (sFor [] (.nm 3) (lift (iS (mkT (aCons (slE (getS 1) opn (ops (getS 2))) (aCons (slE (getS 1) (ops (u1 negI (getS 2))) opn) aNil))))) (sIf (lift (qT (fnE F_is_clash (aCons (getS 0) (aCons (u1 tupD (fnE (sortF false) (aCons (getS 3) aNil))) aNil))))) (sRet (lift (u1 tupD (fnE (sortF false) (aCons (getS 3) aNil))))) (sNil))))
    (sRet (lift (cst .none))))
noncomputable def F_a_clash : List D → Option D := runF 1 4 B_a_clash
theorem ok_a_clash {f : Addr} {fd : FuncData} (F : FnD K "a_clash" "a_clash" s_a_clash f fd) (hm : mg "a_clash" = some (.ref f)) (hb : Binds K fd ["scores"] []) (K_by_score : KnP P w K mg base 4 "by_score" 1 F_by_score) (K_is_clash : KnP P w K mg base 2 "is_clash" 2 F_is_clash) (B : Bl mg) (C : Cs mg) :
    KnP P w K mg base 5 "a_clash" 1 F_a_clash := by
  have sc := sc_a_clash
  refine KnP.ofA F sc hm hb (k := 4) (B := B_a_clash) fun cdv A outer s H E hr => ?_
  unfold B_a_clash
  exact bs_cons (ss_set (fun pe => ps_set (i := 1) sc.nd rfl (by first | exact Or.inl rfl | exact Or.inr rfl) pe) (EV.of (ep_callK K_by_score (hr.mono (by decide)) (by rfl) (ap_cons (ep_var (pv 0)) ap_nil))))
          (bs_cons (ss_for (bs := []) PassesOwn.never rfl (IV.of (ip_range2 (by rfl) B.range (ap_cons ep_int (ap_cons (ep_bin (op_addA) r2_addA (ep_cb (fun pa => pe_callB call_lenA (by rfl) B.len PySem.boot_len pa) rn_lenA (ap_cons (ep_var (pv 1)) ap_nil)) ep_int) ap_nil)))) (pat_nm (pg_name (i := 2) sc.nd rfl (by first | exact Or.inl rfl | exact Or.inr rfl))) (bs_one (ss_for (bs := []) PassesOwn.never rfl (IV.of (ip_seq (EPb.of (ep_tup (ap_cons (ep_slice (ep_var (pv 1)) po_n (po_s (ep_var (pv 2)))) (ap_cons (ep_slice (ep_var (pv 1)) (po_s (ep_neg (ep_var (pv 2)))) po_n) ap_nil)))))) (pat_nm (pg_name (i := 3) sc.nd rfl (by first | exact Or.inl rfl | exact Or.inr rfl))) (bs_one (ss_if (TV.of (tp_t (ep_callK K_is_clash (hr.mono (by decide)) (by rfl) (ap_cons (ep_var (pv 0)) (ap_cons (EP.weak (ep_tuple (by rfl) B.tuple (ep_cb (fun pa => pe_callB (cr_sortA hr) (by rfl) B.sorted (by decide +kernel) pa) rn_sortA (ap_cons (ep_var (pv 3)) ap_nil)))) ap_nil))))) (bs_one (ss_ret (EV.of (ep_tuple (by rfl) B.tuple (ep_cb (fun pa => pe_callB (cr_sortA hr) (by rfl) B.sorted (by decide +kernel) pa) rn_sortA (ap_cons (ep_var (pv 3)) ap_nil)))))) (bs_nil))))))
          (bs_one (ss_ret (EV.of ep_non))))
/-! ### is_score_row -/
abbrev s_is_score_row : Stmt := topS 7
abbrev N_is_score_row : List Str := ["scores"]
theorem sc_is_score_row : FnScope N_is_score_row ["scores"] (defScope s_is_score_row) := ⟨rfl, rfl, rfl, by decide +kernel, rfl, by decide +kernel, by decide +kernel⟩
noncomputable def B_is_score_row : Rh → Out :=
  sRet (lift (o2 isD (fnE F_a_clash (aCons (getS 0) aNil)) (cst .none)))
noncomputable def F_is_score_row : List D → Option D := runF 1 1 B_is_score_row
theorem ok_is_score_row {f : Addr} {fd : FuncData} (F : FnD K "is_score_row" "is_score_row" s_is_score_row f fd) (hm : mg "is_score_row" = some (.ref f)) (hb : Binds K fd ["scores"] []) (K_a_clash : KnP P w K mg base 5 "a_clash" 1 F_a_clash) (B : Bl mg) (C : Cs mg) :
    KnP P w K mg base 6 "is_score_row" 1 F_is_score_row := by
  have sc := sc_is_score_row
  refine KnP.ofA F sc hm hb (k := 5) (B := B_is_score_row) fun cdv A outer s H E hr => ?_
  unfold B_is_score_row
  exact bs_one (ss_ret (EV.of (ep_cmp (op_isA) r2_isA (ep_callK K_a_clash (hr.mono (by decide)) (by rfl) (ap_cons (ep_var (pv 0)) ap_nil)) ep_non (nomark _))))
/-! ### threes_of -/
abbrev s_threes_of : Stmt := topS 8
abbrev N_threes_of : List Str := ["scores", "n", "score"]
theorem sc_threes_of : FnScope N_threes_of ["scores"] (defScope s_threes_of) := ⟨rfl, rfl, rfl, by decide +kernel, rfl, by decide +kernel, by decide +kernel⟩
noncomputable def B_threes_of : Rh → Out :=
  sSeq (sSet (.nm 1) (lift (fnE lenF (aCons (getS 0) aNil))))
    (sRet (lift (o2 subD (o2 fdivD (o2 mulD (o2 mulD (getS 1) (o2 subD (getS 1) (cst (.int 1)))) (o2 subD (getS 1) (cst (.int 2)))) (cst (.int 6))) (fnE sumF (aCons (eLc (.nm 2) [2] (iS (getS 0)) tAll (fnE F_games_of (aCons (getS 2) aNil))) aNil)))))
noncomputable def F_threes_of : List D → Option D := runF 1 3 B_threes_of
theorem ok_threes_of {f : Addr} {fd : FuncData} (F : FnD K "threes_of" "threes_of" s_threes_of f fd) (hm : mg "threes_of" = some (.ref f)) (hb : Binds K fd ["scores"] []) (K_games_of : KnP P w K mg base 1 "games_of" 1 F_games_of) (B : Bl mg) (C : Cs mg) :
    KnP P w K mg base 2 "threes_of" 1 F_threes_of := by
  have sc := sc_threes_of
  refine KnP.ofA F sc hm hb (k := 1) (B := B_threes_of) fun cdv A outer s H E hr => ?_
  unfold B_threes_of
  exact bs_cons (ss_set (fun pe => ps_set (i := 1) sc.nd rfl (by first | exact Or.inl rfl | exact Or.inr rfl) pe) (EV.of (ep_cb (fun pa => pe_callB call_lenA (by rfl) B.len PySem.boot_len pa) rn_lenA (ap_cons (ep_var (pv 0)) ap_nil))))
          (bs_one (ss_ret (EV.of (ep_bin (op_sub) r2_sub (ep_bin (op_fdivW) r2_fdivW (ep_bin (op_mulA) r2_mulA (ep_bin (op_mulA) r2_mulA (ep_var (pv 1)) (ep_bin (op_sub) r2_sub (ep_var (pv 1)) ep_int)) (ep_bin (op_sub) r2_sub (ep_var (pv 1)) ep_int)) ep_int) (ep_cb (fun pa => pe_callB (cr_sumA rfl) (by rfl) B.sum (by decide +kernel) pa) rn_sum (ap_cons (ep_lc (own := [("score", 2)]) (bs := [0]) rfl sc.nd (ip_seq (epb_var (pv 0))) (blkOk_by (N := N_threes_of) (sc := defScope s_threes_of) (by decide +kernel)) (fun _ _ _ _ _ => patc_nm (pg_name (i := 2) sc.nd rfl (by first | exact Or.inl rfl | exact Or.inr rfl) (by first | exact Or.inl rfl | exact Or.inr rfl)) (by decide)) (fun _ _ _ _ _ => tps_nil) (fun _ _ _ _ _ => ep_callK K_games_of (hr.mono (by decide)) (by rfl) (ap_cons (ep_var (pv 2)) ap_nil))) ap_nil))))))
/-! ### rising_rows -/
abbrev s_rising_rows : Stmt := topS 9
abbrev N_rising_rows : List Str := ["n", "found", "k", "more", "row", "total", "least", "score"]
theorem sc_rising_rows : FnScope N_rising_rows ["n"] (defScope s_rising_rows) := ⟨rfl, rfl, rfl, by decide +kernel, rfl, by decide +kernel, by decide +kernel⟩
noncomputable def B_rising_rows : Rh → Out :=
  sSeq (sSet (.nm 1) (lift (mkL (aCons (mkT (aCons (mkT aNil) (aCons (cst (.int 0)) aNil))) aNil))))
    (sSeq (sFor [] (.nm 2) (lift (iR2 (aCons (cst (.int 1)) (aCons (o2 addD (getS 0) (cst (.int 1))) aNil)))) (sSeq (sSet (.nm 3) (lift (mkL aNil)))
    (sSeq (sFor [1] (.tp [.nm 4, .nm 5]) (lift (iS (getS 1))) (sSeq (sSet (.nm 6) (lift (fnE max2F (aCons (eif (qT (getS 4)) (gE (o2 ixD (getS 4) (u1 negI (cst (.int 1))))) (cst (.int 0))) (aCons (o2 subD (fnE F_games_of (aCons (getS 2) aNil)) (getS 5)) aNil)))))
    (sDrop (extendV 3 (lift (eLc (.nm 7) [7] (iR2 (aCons (getS 6) (aCons (getS 0) aNil))) tAll (mkT (aCons (o2 addD (getS 4) (mkT (aCons (gE (getS 7)) aNil))) (aCons (o2 addD (getS 5) (getS 7)) aNil)))))))))
    (sSet (.nm 1) (mvS 3)))))
    (sRet (lift (u1 tupD (fnE (sortF false) (aCons (eLc (.tp [.nm 4, .nm 5]) [4, 5] (iS (getS 1)) (qB (o2 eqD (getS 5) (fnE F_games_of (aCons (getS 0) aNil)))) (gE (getS 4))) aNil))))))
noncomputable def F_rising_rows : List D → Option D := runF 1 8 B_rising_rows
theorem ok_rising_rows {f : Addr} {fd : FuncData} (F : FnD K "rising_rows" "rising_rows" s_rising_rows f fd) (hm : mg "rising_rows" = some (.ref f)) (hb : Binds K fd ["n"] []) (K_games_of : KnP P w K mg base 1 "games_of" 1 F_games_of) (B : Bl mg) (C : Cs mg) :
    KnP P w K mg base 2 "rising_rows" 1 F_rising_rows := by
  have sc := sc_rising_rows
  refine KnP.ofA F sc hm hb (k := 1) (B := B_rising_rows) fun cdv A outer s H E hr => ?_
  unfold B_rising_rows
  exact bs_cons (ss_set (fun pe => ps_set (i := 1) sc.nd rfl (by first | exact Or.inl rfl | exact Or.inr rfl) pe) (EV.of (ep_lst (ap_cons (ep_tup (ap_cons (ep_tup ((ap_nil (fr := true)))) (ap_cons ep_int ap_nil))) ap_nil))))
          (bs_cons (ss_for (bs := []) PassesOwn.never rfl (IV.of (ip_range2 (by rfl) B.range (ap_cons ep_int (ap_cons (ep_bin (op_addA) r2_addA (ep_var (pv 0)) ep_int) ap_nil)))) (pat_nm (pg_name (i := 2) sc.nd rfl (by first | exact Or.inl rfl | exact Or.inr rfl))) (bs_cons (ss_set (fun pe => ps_set (i := 3) sc.nd rfl (by first | exact Or.inl rfl | exact Or.inr rfl) pe) (EV.of (ep_lst ((ap_nil (fr := true))))))
          (bs_cons (ss_for (bs := [1]) PassesOwn.never rfl (IV.of (ip_seq (epb_var (pv 1)))) (pat_tp rfl (pats_cons (pat_nm (pg_name (i := 4) sc.nd rfl (by first | exact Or.inl rfl | exact Or.inr rfl))) (pats_cons (pat_nm (pg_name (i := 5) sc.nd rfl (by first | exact Or.inl rfl | exact Or.inr rfl))) (pats_nil))) rfl) (bs_cons (ss_set (fun pe => ps_set (i := 6) sc.nd rfl (by first | exact Or.inl rfl | exact Or.inr rfl) pe) (EV.of (ep_cb (fun pa => pe_callB (call_max2 rfl) (by rfl) B.max (by decide +kernel) pa) rn_max2 (ap_cons (ep_if (tp_t (ep_var (pv 4))) (ep_g (ep_ix (ep_var (pv 4)) (ep_neg ep_int) (fun _ _ => rfl))) ep_int) (ap_cons (ep_bin (op_sub) r2_sub (ep_callK K_games_of (hr.mono (by decide)) (by rfl) (ap_cons (ep_var (pv 2)) ap_nil)) (ep_var (pv 5))) ap_nil)))))
          (bs_one (ss_expr (ev_extend (pv 3) (EV.of (ep_lc (own := [("score", 7)]) (bs := []) rfl sc.nd (ip_range2 (by rfl) B.range (ap_cons (ep_var (pv 6)) (ap_cons (ep_var (pv 0)) ap_nil))) (blkOk_by (N := N_rising_rows) (sc := defScope s_rising_rows) (by decide +kernel)) (fun _ _ _ _ _ => patc_nm (pg_name (i := 7) sc.nd rfl (by first | exact Or.inl rfl | exact Or.inr rfl) (by first | exact Or.inl rfl | exact Or.inr rfl)) (by decide)) (fun _ _ _ _ _ => tps_nil) (fun _ _ _ _ _ => ep_tup (ap_cons (ep_bin (op_addA) r2_addA (ep_var (pv 4)) (ep_tup (ap_cons (ep_g (ep_var (pv 7))) ap_nil))) (ap_cons (ep_bin (op_addA) r2_addA (ep_var (pv 5)) (ep_var (pv 7))) ap_nil))))))))))
          (bs_one (ss_set (fun pe => ps_set (i := 1) sc.nd rfl (by first | exact Or.inl rfl | exact Or.inr rfl) pe) (ev_mv (pv 3)))))))
          (bs_one (ss_ret (EV.of (ep_tuple (by rfl) B.tuple (ep_cb (fun pa => pe_callB (cr_sortA hr) (by rfl) B.sorted (by decide +kernel) pa) rn_sortA (ap_cons (ep_lc (own := [("row", 4), ("total", 5)]) (bs := [1]) rfl sc.nd (ip_seq (epb_var (pv 1))) (blkOk_by (N := N_rising_rows) (sc := defScope s_rising_rows) (by decide +kernel)) (fun _ _ _ _ _ => patc_tp rfl (patsc_cons (patc_nm (pg_name (i := 4) sc.nd rfl (by first | exact Or.inl rfl | exact Or.inr rfl) (by first | exact Or.inl rfl | exact Or.inr rfl)) (by decide)) (patsc_cons (patc_nm (pg_name (i := 5) sc.nd rfl (by first | exact Or.inl rfl | exact Or.inr rfl) (by first | exact Or.inl rfl | exact Or.inr rfl)) (by decide)) (patsc_nil))) rfl) (fun _ _ _ _ _ => tps_one (tp_cmp (op_eqD (hr.units)) r2_eqD (ep_var (pv 5)) (ep_callK K_games_of (hr.mono (by decide)) (by rfl) (ap_cons (ep_var (pv 0)) ap_nil)) (nomark _))) (fun _ _ _ _ _ => ep_g (ep_var (pv 4)))) ap_nil)))))))
/-! ### count_rising -/
abbrev s_count_rising : Stmt := topS 10
abbrev N_count_rising : List Str := ["n", "counts", "k", "more", "last", "total", "score", "key"]
theorem sc_count_rising : FnScope N_count_rising ["n"] (defScope s_count_rising) := ⟨rfl, rfl, rfl, by decide +kernel, rfl, by decide +kernel, by decide +kernel⟩
noncomputable def B_count_rising : Rh → Out :=
  sSeq (sSet (.nm 1) (lift (dsp1T (mkT (aCons (cst (.int 0)) (aCons (cst (.int 0)) aNil))) (cst (.int 1)))))
    (sSeq (sFor [] (.nm 2) (lift (iR2 (aCons (cst (.int 1)) (aCons (o2 addD (getS 0) (cst (.int 1))) aNil)))) (sSeq (sSet (.nm 3) (lift (cst (.dict [(.none, .none)]))))
    (sSeq (sForD 1 (.tp [.nm 4, .nm 5]) (sFor [] (.nm 6) (lift (iR2 (aCons (fnE max2F (aCons (getS 4) (aCons (o2 subD (fnE F_games_of (aCons (getS 2) aNil)) (getS 5)) aNil))) (aCons (getS 0) aNil)))) (sIf (lift (qB (o2 leD (o2 addD (getS 5) (getS 6)) (fnE F_games_of (aCons (getS 0) aNil))))) (sSeq (sSet (.nm 7) (lift (mkT (aCons (gE (getS 6)) (aCons (o2 addD (getS 5) (getS 6)) aNil)))))
    (sDput 3 (gE (getS 7)) (lift (o2 addD (dgt2 (getS 3) (getS 7) (cst (.int 0))) (o2 dgetD (getS 1) (mkT (aCons (gE (getS 4)) (aCons (gE (getS 5)) aNil)))))))) (sNil))))
    (sSet (.nm 1) (mvS 3)))))
    (sRet (lift (fnE sumF (aCons (eLcD 1 (.nm 7) [7] (qB (o2 eqD (o2 ixD (getS 7) (cst (.int 1))) (fnE F_games_of (aCons (getS 0) aNil)))) (gE (o2 dgetD (getS 1) (getS 7)))) aNil)))))
noncomputable def F_count_rising : List D → Option D := runF 1 8 B_count_rising
theorem ok_count_rising {f : Addr} {fd : FuncData} (F : FnD K "count_rising" "count_rising" s_count_rising f fd) (hm : mg "count_rising" = some (.ref f)) (hb : Binds K fd ["n"] []) (K_games_of : KnP P w K mg base 1 "games_of" 1 F_games_of) (B : Bl mg) (C : Cs mg) :
    KnP P w K mg base 2 "count_rising" 1 F_count_rising := by
  have sc := sc_count_rising
  refine KnP.ofA F sc hm hb (k := 1) (B := B_count_rising) fun cdv A outer s H E hr => ?_
  unfold B_count_rising
  exact bs_cons (ss_set (fun pe => ps_set (i := 1) sc.nd rfl (by first | exact Or.inl rfl | exact Or.inr rfl) pe) (EV.of (ep_dsp1T hr (ep_tup (ap_cons ep_int (ap_cons ep_int ap_nil))) ep_int)))
          (bs_cons (ss_for (bs := []) PassesOwn.never rfl (IV.of (ip_range2 (by rfl) B.range (ap_cons ep_int (ap_cons (ep_bin (op_addA) r2_addA (ep_var (pv 0)) ep_int) ap_nil)))) (pat_nm (pg_name (i := 2) sc.nd rfl (by first | exact Or.inl rfl | exact Or.inr rfl))) (bs_cons (ss_set (fun pe => ps_set (i := 3) sc.nd rfl (by first | exact Or.inl rfl | exact Or.inr rfl) pe) (EV.of ep_dnewT))
          (bs_cons (ss_forD (ss_for (bs := []) PassesOwn.never rfl (IV.of (ip_keys (pv 1))) (pat_tp rfl (pats_cons (pat_nm (pg_name (i := 4) sc.nd rfl (by first | exact Or.inl rfl | exact Or.inr rfl))) (pats_cons (pat_nm (pg_name (i := 5) sc.nd rfl (by first | exact Or.inl rfl | exact Or.inr rfl))) (pats_nil))) rfl) (bs_one (ss_for (bs := []) PassesOwn.never rfl (IV.of (ip_range2 (by rfl) B.range (ap_cons (EP.weak (ep_cb (fun pa => pe_callB (call_max2 rfl) (by rfl) B.max (by decide +kernel) pa) rn_max2 (ap_cons (ep_var (pv 4)) (ap_cons (EP.weak (ep_bin (op_sub) r2_sub (ep_callK K_games_of (hr.mono (by decide)) (by rfl) (ap_cons (ep_var (pv 2)) ap_nil)) (ep_var (pv 5)))) ap_nil)))) (ap_cons (ep_var (pv 0)) ap_nil)))) (pat_nm (pg_name (i := 6) sc.nd rfl (by first | exact Or.inl rfl | exact Or.inr rfl))) (bs_one (ss_if (TV.of (tp_cmp (op_leA hr) r2_leA (ep_bin (op_addA) r2_addA (ep_var (pv 5)) (ep_var (pv 6))) (ep_callK K_games_of (hr.mono (by decide)) (by rfl) (ap_cons (ep_var (pv 0)) ap_nil)) (nomark _))) (bs_cons (ss_set (fun pe => ps_set (i := 7) sc.nd rfl (by first | exact Or.inl rfl | exact Or.inr rfl) pe) (EV.of (ep_tup (ap_cons (ep_g (ep_var (pv 6))) (ap_cons (ep_bin (op_addA) r2_addA (ep_var (pv 5)) (ep_var (pv 6))) ap_nil)))))
          (bs_one (ss_dput hr (pv 3) (ep_g (ep_var (pv 7))) (EV.of (ep_bin (op_addA) r2_addA (ep_dgt2 hr (ep_var (pv 3)) (ep_var (pv 7)) ep_int) (ep_dget hr (ep_var (pv 1)) (ep_tup (ap_cons (ep_g (ep_var (pv 4))) (ap_cons (ep_g (ep_var (pv 5))) ap_nil))) (fun _ _ => rfl))))))) (bs_nil)))))))
          (bs_one (ss_set (fun pe => ps_set (i := 1) sc.nd rfl (by first | exact Or.inl rfl | exact Or.inr rfl) pe) (ev_mv (pv 3)))))))
          (bs_one (ss_ret (EV.of (ep_cb (fun pa => pe_callB (cr_sumA rfl) (by rfl) B.sum (by decide +kernel) pa) rn_sum (ap_cons (ep_lcD (own := [("key", 7)]) rfl sc.nd (pv 1) (blkOk_by (N := N_count_rising) (sc := defScope s_count_rising) (by decide +kernel)) (fun _ _ _ _ _ => patc_nm (pg_name (i := 7) sc.nd rfl (by first | exact Or.inl rfl | exact Or.inr rfl) (by first | exact Or.inl rfl | exact Or.inr rfl)) (by decide)) (fun _ _ _ _ _ => tps_one (tp_cmp (op_eqD (hr.units)) r2_eqD (ep_ix (ep_var (pv 7)) ep_int (fun _ _ => rfl)) (ep_callK K_games_of (hr.mono (by decide)) (by rfl) (ap_cons (ep_var (pv 0)) ap_nil)) (nomark _))) (fun _ _ _ _ _ => ep_g (ep_dget hr (ep_var (pv 1)) (ep_var (pv 7)) (fun _ _ => rfl)))) ap_nil))))))
/-! ### is_partition -/
abbrev s_is_partition : Stmt := topS 12
abbrev N_is_partition : List Str := ["value", "k", "part"]
theorem sc_is_partition : FnScope N_is_partition ["value"] (defScope s_is_partition) := ⟨rfl, rfl, rfl, by decide +kernel, rfl, by decide +kernel, by decide +kernel⟩
noncomputable def B_is_partition : Rh → Out :=
  sSeq (sIf (lift (pnot (qT (u1 (isiD "tuple") (getS 0))))) (sRet (lift (cst (.bool false)))) (sNil))
    (sSeq (sIf (lift (pnot (qT (fnE allF (aCons (eLc (.nm 2) [2] (iS (getS 0)) tAll (eand (u1 (isiD "int") (getS 2)) (eand (u1 notT (u1 (isiD "bool") (getS 2))) (o2 gtI (getS 2) (cst (.int 0)))))) aNil))))) (sRet (lift (cst (.bool false)))) (sNil))
    (sRet (lift (fnE allF (aCons (eLc (.nm 1) [1] (iR1 (aCons (o2 subD (fnE lenF (aCons (getS 0) aNil)) (cst (.int 1))) aNil)) tAll (o2 geI (o2 ixD (getS 0) (getS 1)) (o2 ixD (getS 0) (o2 addD (getS 1) (cst (.int 1)))))) aNil)))))
noncomputable def F_is_partition : List D → Option D := runF 1 3 B_is_partition
theorem ok_is_partition {f : Addr} {fd : FuncData} (F : FnD K "is_partition" "is_partition" s_is_partition f fd) (hm : mg "is_partition" = some (.ref f)) (hb : Binds K fd ["value"] []) (B : Bl mg) (C : Cs mg) :
    KnP P w K mg base 1 "is_partition" 1 F_is_partition := by
  have sc := sc_is_partition
  refine KnP.ofA F sc hm hb (k := 0) (B := B_is_partition) fun cdv A outer s H E hr => ?_
  unfold B_is_partition
  exact bs_cons (ss_if (TV.of (tp_not (tp_t (ep_isi "tuple" (by rfl) B.isinstance (by rfl) B.tuple (by decide +kernel) (ep_var (pv 0)))))) (bs_one (ss_ret (EV.of ep_bl))) (bs_nil))
          (bs_cons (ss_if (TV.of (tp_not (tp_t (ep_cb (fun pa => pe_callB (cr_all rfl) (by rfl) B.all (by decide +kernel) pa) rn_all (ap_cons (ep_lc (own := [("part", 2)]) (bs := [0]) rfl sc.nd (ip_seq (epb_var (pv 0))) (blkOk_by (N := N_is_partition) (sc := defScope s_is_partition) (by decide +kernel)) (fun _ _ _ _ _ => patc_nm (pg_name (i := 2) sc.nd rfl (by first | exact Or.inl rfl | exact Or.inr rfl) (by first | exact Or.inl rfl | exact Or.inr rfl)) (by decide)) (fun _ _ _ _ _ => tps_nil) (fun _ _ _ _ _ => ep_and (ep_isi "int" (by rfl) B.isinstance (by rfl) B.int (by decide +kernel) (ep_var (pv 2))) (ep_and (ep_notT (ep_isi "bool" (by rfl) B.isinstance (by rfl) B.bool (by decide +kernel) (ep_var (pv 2)))) (ep_one (ep_cmp (op_gt) r2_gtI (ep_var (pv 2)) ep_int (nomark _)))))) ap_nil))))) (bs_one (ss_ret (EV.of ep_bl))) (bs_nil))
          (bs_one (ss_ret (EV.of (ep_cb (fun pa => pe_callB (cr_all rfl) (by rfl) B.all (by decide +kernel) pa) rn_all (ap_cons (ep_lc (own := [("k", 1)]) (bs := []) rfl sc.nd (ip_range1 (by rfl) B.range (ap_cons (ep_bin (op_sub) r2_sub (ep_cb (fun pa => pe_callB call_lenA (by rfl) B.len PySem.boot_len pa) rn_lenA (ap_cons (ep_var (pv 0)) ap_nil)) ep_int) ap_nil)) (blkOk_by (N := N_is_partition) (sc := defScope s_is_partition) (by decide +kernel)) (fun _ _ _ _ _ => patc_nm (pg_name (i := 1) sc.nd rfl (by first | exact Or.inl rfl | exact Or.inr rfl) (by first | exact Or.inl rfl | exact Or.inr rfl)) (by decide)) (fun _ _ _ _ _ => tps_nil) (fun _ _ _ _ _ => ep_cmp (op_ge) r2_geI (ep_ix (ep_var (pv 0)) (ep_var (pv 1)) (fun _ _ => rfl)) (ep_ix (ep_var (pv 0)) (ep_bin (op_addA) r2_addA (ep_var (pv 1)) ep_int) (fun _ _ => rfl)) (nomark _))) ap_nil))))))
/-! ### size_of -/
abbrev s_size_of : Stmt := topS 13
abbrev N_size_of : List Str := ["partition"]
theorem sc_size_of : FnScope N_size_of ["partition"] (defScope s_size_of) := ⟨rfl, rfl, rfl, by decide +kernel, rfl, by decide +kernel, by decide +kernel⟩
noncomputable def B_size_of : Rh → Out :=
  sRet (lift (fnE sumF (aCons (getS 0) aNil)))
noncomputable def F_size_of : List D → Option D := runF 1 1 B_size_of
theorem ok_size_of {f : Addr} {fd : FuncData} (F : FnD K "size_of" "size_of" s_size_of f fd) (hm : mg "size_of" = some (.ref f)) (hb : Binds K fd ["partition"] []) (B : Bl mg) (C : Cs mg) :
    KnP P w K mg base 1 "size_of" 1 F_size_of := by
  have sc := sc_size_of
  refine KnP.ofA F sc hm hb (k := 0) (B := B_size_of) fun cdv A outer s H E hr => ?_
  unfold B_size_of
  exact bs_one (ss_ret (EV.of (ep_cb (fun pa => pe_callB (cr_sumA rfl) (by rfl) B.sum (by decide +kernel) pa) rn_sum (ap_cons (ep_var (pv 0)) ap_nil))))
/-! ### sorted_down -/
abbrev s_sorted_down : Stmt := topS 14
abbrev N_sorted_down : List Str := ["row", "part"]
theorem sc_sorted_down : FnScope N_sorted_down ["row"] (defScope s_sorted_down) := ⟨rfl, rfl, rfl, by decide +kernel, rfl, by decide +kernel, by decide +kernel⟩
noncomputable def B_sorted_down : Rh → Out :=
  sRet (lift (u1 tupD (fnE (sortF true) (aCons (eLc (.nm 1) [1] (iS (getS 0)) (qB (o2 gtI (getS 1) (cst (.int 0)))) (gE (getS 1))) aNil))))
noncomputable def F_sorted_down : List D → Option D := runF 1 2 B_sorted_down
theorem ok_sorted_down {f : Addr} {fd : FuncData} (F : FnD K "sorted_down" "sorted_down" s_sorted_down f fd) (hm : mg "sorted_down" = some (.ref f)) (hb : Binds K fd ["row"] []) (B : Bl mg) (C : Cs mg) :
    KnP P w K mg base 1 "sorted_down" 1 F_sorted_down := by
  have sc := sc_sorted_down
  refine KnP.ofA F sc hm hb (k := 0) (B := B_sorted_down) fun cdv A outer s H E hr => ?_
  unfold B_sorted_down
  exact bs_one (ss_ret (EV.of (ep_tuple (by rfl) B.tuple (ep_sortR hr (by rfl) B.sorted (ap_cons (ep_lc (own := [("part", 1)]) (bs := [0]) rfl sc.nd (ip_seq (epb_var (pv 0))) (blkOk_by (N := N_sorted_down) (sc := defScope s_sorted_down) (by decide +kernel)) (fun _ _ _ _ _ => patc_nm (pg_name (i := 1) sc.nd rfl (by first | exact Or.inl rfl | exact Or.inr rfl) (by first | exact Or.inl rfl | exact Or.inr rfl)) (by decide)) (fun _ _ _ _ _ => tps_one (tp_cmp (op_gt) r2_gtI (ep_var (pv 1)) ep_int (nomark _))) (fun _ _ _ _ _ => ep_g (ep_var (pv 1)))) ap_nil)))))
/-! ### sums_of -/
abbrev s_sums_of : Stmt := topS 15
abbrev N_sums_of : List Str := ["partition", "count", "found", "total", "k"]
theorem sc_sums_of : FnScope N_sums_of ["partition", "count"] (defScope s_sums_of) := ⟨rfl, rfl, rfl, by decide +kernel, rfl, by decide +kernel, by decide +kernel⟩
noncomputable def B_sums_of : Rh → Out :=
  sSeq (sSet (.nm 2) (lift (mkL aNil)))
    (sSeq (sSet (.nm 3) (lift (cst (.int 0))))
    (sSeq (sFor [] (.nm 4) (lift (iR1 (aCons (getS 1) aNil))) (sSeq (sAug 3 addI (lift (eif (qB (o2 ltD (getS 4) (fnE lenF (aCons (getS 0) aNil)))) (gE (o2 ixD (getS 0) (getS 4))) (cst (.int 0)))))
    (sDrop (appendV 2 (lift (gE (getS 3)))))))
    (sRet (mvS 2))))
noncomputable def F_sums_of : List D → Option D := runF 2 5 B_sums_of
theorem ok_sums_of {f : Addr} {fd : FuncData} (F : FnD K "sums_of" "sums_of" s_sums_of f fd) (hm : mg "sums_of" = some (.ref f)) (hb : Binds K fd ["partition", "count"] []) (B : Bl mg) (C : Cs mg) :
    KnP P w K mg base 1 "sums_of" 2 F_sums_of := by
  have sc := sc_sums_of
  refine KnP.ofA F sc hm hb (k := 0) (B := B_sums_of) fun cdv A outer s H E hr => ?_
  unfold B_sums_of
  exact bs_cons (ss_set (fun pe => ps_set (i := 2) sc.nd rfl (by first | exact Or.inl rfl | exact Or.inr rfl) pe) (EV.of (ep_lst ((ap_nil (fr := true))))))
          (bs_cons (ss_set (fun pe => ps_set (i := 3) sc.nd rfl (by first | exact Or.inl rfl | exact Or.inr rfl) pe) (EV.of ep_int))
          (bs_cons (ss_for (bs := []) PassesOwn.never rfl (IV.of (ip_range1 (by rfl) B.range (ap_cons (ep_var (pv 1)) ap_nil))) (pat_nm (pg_name (i := 4) sc.nd rfl (by first | exact Or.inl rfl | exact Or.inr rfl))) (bs_cons (ss_aug iop_add r2_addI sc.nd rfl (by first | exact Or.inl rfl | exact Or.inr rfl) (EV.of (ep_if (tp_cmp (op_ltA hr) r2_ltA (ep_var (pv 4)) (ep_cb (fun pa => pe_callB call_lenA (by rfl) B.len PySem.boot_len pa) rn_lenA (ap_cons (ep_var (pv 0)) ap_nil)) (nomark _)) (ep_g (ep_ix (ep_var (pv 0)) (ep_var (pv 4)) (fun _ _ => rfl))) ep_int)))
          (bs_one (ss_expr (ev_append (pv 2) (EV.of (ep_g (ep_var (pv 3)))))))))
          (bs_one (ss_ret (ev_mv (pv 2))))))
/-! ### dominates -/
abbrev s_dominates : Stmt := topS 16
abbrev N_dominates : List Str := ["one", "other", "count", "p", "q"]
theorem sc_dominates : FnScope N_dominates ["one", "other"] (defScope s_dominates) := ⟨rfl, rfl, rfl, by decide +kernel, rfl, by decide +kernel, by decide +kernel⟩
noncomputable def B_dominates : Rh → Out :=
  sSeq (sIf (lift (qB (o2 neD (fnE F_size_of (aCons (getS 0) aNil)) (fnE F_size_of (aCons (getS 1) aNil))))) (sRet (lift (cst (.bool false)))) (sNil))
    (sSeq (sSet (.nm 2) (lift (fnE max2F (aCons (fnE lenF (aCons (getS 0) aNil)) (aCons (fnE lenF (aCons (getS 1) aNil)) aNil)))))
    (sRet (lift (fnE allF (aCons (eLc (.tp [.nm 3, .nm 4]) [3, 4] (iZ (fnE F_sums_of (aCons (getS 0) (aCons (getS 2) aNil))) (fnE F_sums_of (aCons (getS 1) (aCons (getS 2) aNil)))) tAll (o2 geI (getS 3) (getS 4))) aNil)))))
noncomputable def F_dominates : List D → Option D := runF 2 5 B_dominates
theorem ok_dominates {f : Addr} {fd : FuncData} (F : FnD K "dominates" "dominates" s_dominates f fd) (hm : mg "dominates" = some (.ref f)) (hb : Binds K fd ["one", "other"] []) (K_size_of : KnP P w K mg base 1 "size_of" 1 F_size_of) (K_sums_of : KnP P w K mg base 1 "sums_of" 2 F_sums_of) (B : Bl mg) (C : Cs mg) :
    KnP P w K mg base 2 "dominates" 2 F_dominates := by
  have sc := sc_dominates
  refine KnP.ofA F sc hm hb (k := 1) (B := B_dominates) fun cdv A outer s H E hr => ?_
  unfold B_dominates
  exact bs_cons (ss_if (TV.of (tp_cmp (op_neD (hr.units)) r2_neD (ep_callK K_size_of (hr.mono (by decide)) (by rfl) (ap_cons (ep_var (pv 0)) ap_nil)) (ep_callK K_size_of (hr.mono (by decide)) (by rfl) (ap_cons (ep_var (pv 1)) ap_nil)) (nomark _))) (bs_one (ss_ret (EV.of ep_bl))) (bs_nil))
          (bs_cons (ss_set (fun pe => ps_set (i := 2) sc.nd rfl (by first | exact Or.inl rfl | exact Or.inr rfl) pe) (EV.of (ep_cb (fun pa => pe_callB (call_max2 rfl) (by rfl) B.max (by decide +kernel) pa) rn_max2 (ap_cons (ep_cb (fun pa => pe_callB call_lenA (by rfl) B.len PySem.boot_len pa) rn_lenA (ap_cons (ep_var (pv 0)) ap_nil)) (ap_cons (ep_cb (fun pa => pe_callB call_lenA (by rfl) B.len PySem.boot_len pa) rn_lenA (ap_cons (ep_var (pv 1)) ap_nil)) ap_nil)))))
          (bs_one (ss_ret (EV.of (ep_cb (fun pa => pe_callB (cr_all rfl) (by rfl) B.all (by decide +kernel) pa) rn_all (ap_cons (ep_lc (own := [("p", 3), ("q", 4)]) (bs := ([] ++ [])) rfl sc.nd (ip_zip (by rfl) B.zip (EPb.of (ep_callK K_sums_of (hr.mono (by decide)) (by rfl) (ap_cons (ep_var (pv 0)) (ap_cons (ep_var (pv 2)) ap_nil)))) (EPb.of (ep_callK K_sums_of (hr.mono (by decide)) (by rfl) (ap_cons (ep_var (pv 1)) (ap_cons (ep_var (pv 2)) ap_nil))))) (blkOk_by (N := N_dominates) (sc := defScope s_dominates) (by decide +kernel)) (fun _ _ _ _ _ => patc_tp rfl (patsc_cons (patc_nm (pg_name (i := 3) sc.nd rfl (by first | exact Or.inl rfl | exact Or.inr rfl) (by first | exact Or.inl rfl | exact Or.inr rfl)) (by decide)) (patsc_cons (patc_nm (pg_name (i := 4) sc.nd rfl (by first | exact Or.inl rfl | exact Or.inr rfl) (by first | exact Or.inl rfl | exact Or.inr rfl)) (by decide)) (patsc_nil))) rfl) (fun _ _ _ _ _ => tps_nil) (fun _ _ _ _ _ => ep_cmp (op_ge) r2_geI (ep_var (pv 3)) (ep_var (pv 4)) (nomark _))) ap_nil))))))
/-! ### part_at -/
abbrev s_part_at : Stmt := topS 18
abbrev N_part_at : List Str := ["partition", "k"]
theorem sc_part_at : FnScope N_part_at ["partition", "k"] (defScope s_part_at) := ⟨rfl, rfl, rfl, by decide +kernel, rfl, by decide +kernel, by decide +kernel⟩
noncomputable def B_part_at : Rh → Out :=
  sRet (lift (eif (qB (o2 ltD (getS 1) (fnE lenF (aCons (getS 0) aNil)))) (gE (o2 ixD (getS 0) (getS 1))) (cst (.int 0))))
noncomputable def F_part_at : List D → Option D := runF 2 2 B_part_at
theorem ok_part_at {f : Addr} {fd : FuncData} (F : FnD K "part_at" "part_at" s_part_at f fd) (hm : mg "part_at" = some (.ref f)) (hb : Binds K fd ["partition", "k"] []) (B : Bl mg) (C : Cs mg) :
    KnP P w K mg base 1 "part_at" 2 F_part_at := by
  have sc := sc_part_at
  refine KnP.ofA F sc hm hb (k := 0) (B := B_part_at) fun cdv A outer s H E hr => ?_
  unfold B_part_at
  exact bs_one (ss_ret (EV.of (ep_if (tp_cmp (op_ltA hr) r2_ltA (ep_var (pv 1)) (ep_cb (fun pa => pe_callB call_lenA (by rfl) B.len PySem.boot_len pa) rn_lenA (ap_cons (ep_var (pv 0)) ap_nil)) (nomark _)) (ep_g (ep_ix (ep_var (pv 0)) (ep_var (pv 1)) (fun _ _ => rfl))) ep_int)))
/-! ### moved -/
abbrev s_moved : Stmt := topS 19
abbrev N_moved : List Str := ["partition", "i", "j", "row", "part"]
theorem sc_moved : FnScope N_moved ["partition", "i", "j"] (defScope s_moved) := ⟨rfl, rfl, rfl, by decide +kernel, rfl, by decide +kernel, by decide +kernel⟩
noncomputable def B_moved : Rh → Out :=
  sSeq (sSet (.nm 3) (lift (o2 addD (fnE listF (aCons (getS 0) aNil)) (mkL (aCons (cst (.int 0)) aNil)))))
    (sSeq (sAugI 3 subD (gE (getS 1)) (cst (.int 1)))
    (sSeq (sAugI 3 addI (gE (getS 2)) (cst (.int 1)))
    (sRet (lift (u1 tupD (eLc (.nm 4) [4] (iS (getS 3)) (qB (o2 gtI (getS 4) (cst (.int 0)))) (gE (getS 4))))))))
noncomputable def F_moved : List D → Option D := runF 3 5 B_moved
theorem ok_moved {f : Addr} {fd : FuncData} (F : FnD K "moved" "moved" s_moved f fd) (hm : mg "moved" = some (.ref f)) (hb : Binds K fd ["partition", "i", "j"] []) (B : Bl mg) (C : Cs mg) :
    KnP P w K mg base 1 "moved" 3 F_moved := by
  have sc := sc_moved
  refine KnP.ofA F sc hm hb (k := 0) (B := B_moved) fun cdv A outer s H E hr => ?_
  unfold B_moved
  exact bs_cons (ss_set (fun pe => ps_set (i := 3) sc.nd rfl (by first | exact Or.inl rfl | exact Or.inr rfl) pe) (EV.of (ep_bin (op_addA) r2_addA (ep_cb (fun pa => pe_callTy call_list_of (by rfl) B.list (by decide +kernel) pa) rn_list (ap_cons (ep_var (pv 0)) ap_nil)) (ep_lst (ap_cons ep_int ap_nil)))))
          (bs_cons (ss_augI iop_sub r2_sub (pv 3) (ep_g (ep_var (pv 1))) ep_int)
          (bs_cons (ss_augI iop_add r2_addI (pv 3) (ep_g (ep_var (pv 2))) ep_int)
          (bs_one (ss_ret (EV.of (ep_tuple (by rfl) B.tuple (ep_lc (own := [("part", 4)]) (bs := [3]) rfl sc.nd (ip_seq (epb_var (pv 3))) (blkOk_by (N := N_moved) (sc := defScope s_moved) (by decide +kernel)) (fun _ _ _ _ _ => patc_nm (pg_name (i := 4) sc.nd rfl (by first | exact Or.inl rfl | exact Or.inr rfl) (by first | exact Or.inl rfl | exact Or.inr rfl)) (by decide)) (fun _ _ _ _ _ => tps_one (tp_cmp (op_gt) r2_gtI (ep_var (pv 4)) ep_int (nomark _))) (fun _ _ _ _ _ => ep_g (ep_var (pv 4))))))))))
/-! ### is_step -/
abbrev s_is_step : Stmt := topS 20
abbrev N_is_step : List Str := ["partition", "i", "j", "high", "low", "k"]
theorem sc_is_step : FnScope N_is_step ["partition", "i", "j"] (defScope s_is_step) := ⟨rfl, rfl, rfl, by decide +kernel, rfl, by decide +kernel, by decide +kernel⟩
noncomputable def B_is_step : Rh → Out :=
  sSeq (sSet (.tp [.nm 3, .nm 4]) (nkT (bCons (lift (gE (o2 ixD (getS 0) (getS 1)))) (bCons (lift (fnE F_part_at (aCons (getS 0) (aCons (getS 2) aNil)))) bNil))))
    (sSeq (sIf (lift (qB (o2 eqD (getS 2) (o2 addD (getS 1) (cst (.int 1)))))) (sRet (lift (o2 geI (o2 subD (getS 3) (getS 4)) (cst (.int 2))))) (sNil))
    (sRet (lift (eand (o2 eqD (o2 subD (getS 3) (getS 4)) (cst (.int 2))) (fnE allF (aCons (eLc (.nm 5) [5] (iR2 (aCons (o2 addD (getS 1) (cst (.int 1))) (aCons (getS 2) aNil))) tAll (o2 eqD (o2 ixD (getS 0) (getS 5)) (o2 subD (getS 3) (cst (.int 1))))) aNil))))))
noncomputable def F_is_step : List D → Option D := runF 3 6 B_is_step
theorem ok_is_step {f : Addr} {fd : FuncData} (F : FnD K "is_step" "is_step" s_is_step f fd) (hm : mg "is_step" = some (.ref f)) (hb : Binds K fd ["partition", "i", "j"] []) (K_part_at : KnP P w K mg base 1 "part_at" 2 F_part_at) (B : Bl mg) (C : Cs mg) :
    KnP P w K mg base 2 "is_step" 3 F_is_step := by
  have sc := sc_is_step
  refine KnP.ofA F sc hm hb (k := 1) (B := B_is_step) fun cdv A outer s H E hr => ?_
  unfold B_is_step
  exact bs_cons (ss_asg (fun pe pg => ps_asg pe pg) (ev_tup (av_cons (EV.of (ep_g (ep_ix (ep_var (pv 0)) (ep_var (pv 1)) (fun _ _ => rfl)))) (av_cons (EV.of (ep_callK K_part_at (hr.mono (by decide)) (by rfl) (ap_cons (ep_var (pv 0)) (ap_cons (ep_var (pv 2)) ap_nil)))) av_nil))) (pat_tp rfl (pats_cons (pat_nm (pg_name (i := 3) sc.nd rfl (by first | exact Or.inl rfl | exact Or.inr rfl))) (pats_cons (pat_nm (pg_name (i := 4) sc.nd rfl (by first | exact Or.inl rfl | exact Or.inr rfl))) (pats_nil))) rfl))
          (bs_cons (ss_if (TV.of (tp_cmp (op_eqD (hr.units)) r2_eqD (ep_var (pv 2)) (ep_bin (op_addA) r2_addA (ep_var (pv 1)) ep_int) (nomark _))) (bs_one (ss_ret (EV.of (ep_cmp (op_ge) r2_geI (ep_bin (op_sub) r2_sub (ep_var (pv 3)) (ep_var (pv 4))) ep_int (nomark _))))) (bs_nil))
          (bs_one (ss_ret (EV.of (ep_and (ep_cmp (op_eqD (hr.units)) r2_eqD (ep_bin (op_sub) r2_sub (ep_var (pv 3)) (ep_var (pv 4))) ep_int (nomark _)) (ep_one (ep_cb (fun pa => pe_callB (cr_all rfl) (by rfl) B.all (by decide +kernel) pa) rn_all (ap_cons (ep_lc (own := [("k", 5)]) (bs := []) rfl sc.nd (ip_range2 (by rfl) B.range (ap_cons (EP.weak (ep_bin (op_addA) r2_addA (ep_var (pv 1)) ep_int)) (ap_cons (ep_var (pv 2)) ap_nil))) (blkOk_by (N := N_is_step) (sc := defScope s_is_step) (by decide +kernel)) (fun _ _ _ _ _ => patc_nm (pg_name (i := 5) sc.nd rfl (by first | exact Or.inl rfl | exact Or.inr rfl) (by first | exact Or.inl rfl | exact Or.inr rfl)) (by decide)) (fun _ _ _ _ _ => tps_nil) (fun _ _ _ _ _ => ep_cmp (op_eqD (hr.units)) r2_eqD (ep_ix (ep_var (pv 0)) (ep_var (pv 5)) (fun _ _ => rfl)) (ep_bin (op_sub) r2_sub (ep_var (pv 3)) ep_int) (nomark _))) ap_nil))))))))
/-! ### steps_down -/
abbrev s_steps_down : Stmt := topS 21
abbrev N_steps_down : List Str := ["partition", "many", "found", "i", "j"]
theorem sc_steps_down : FnScope N_steps_down ["partition"] (defScope s_steps_down) := ⟨rfl, rfl, rfl, by decide +kernel, rfl, by decide +kernel, by decide +kernel⟩
noncomputable def B_steps_down : Rh → Out :=
  sSeq (sSet (.nm 1) (lift (fnE lenF (aCons (getS 0) aNil))))
    (sSeq (sSet (.nm 2) (lift (mkL aNil)))
    (sSeq (sFor [] (.nm 3) (lift (iR1 (aCons (getS 1) aNil))) (sDrop (extendV 2 (lift (eLc (.nm 4) [4] (iR2 (aCons (o2 addD (getS 3) (cst (.int 1))) (aCons (o2 addD (getS 1) (cst (.int 1))) aNil))) (qT (fnE F_is_step (aCons (getS 0) (aCons (getS 3) (aCons (getS 4) aNil))))) (fnE F_moved (aCons (getS 0) (aCons (getS 3) (aCons (getS 4) aNil)))))))))
    (sRet (lift (u1 tupD (fnE (sortF false) (aCons (getS 2) aNil)))))))
noncomputable def F_steps_down : List D → Option D := runF 1 5 B_steps_down
theorem ok_steps_down {f : Addr} {fd : FuncData} (F : FnD K "steps_down" "steps_down" s_steps_down f fd) (hm : mg "steps_down" = some (.ref f)) (hb : Binds K fd ["partition"] []) (K_moved : KnP P w K mg base 1 "moved" 3 F_moved) (K_is_step : KnP P w K mg base 2 "is_step" 3 F_is_step) (B : Bl mg) (C : Cs mg) :
    KnP P w K mg base 3 "steps_down" 1 F_steps_down := by
  have sc := sc_steps_down
  refine KnP.ofA F sc hm hb (k := 2) (B := B_steps_down) fun cdv A outer s H E hr => ?_
  unfold B_steps_down
  exact bs_cons (ss_set (fun pe => ps_set (i := 1) sc.nd rfl (by first | exact Or.inl rfl | exact Or.inr rfl) pe) (EV.of (ep_cb (fun pa => pe_callB call_lenA (by rfl) B.len PySem.boot_len pa) rn_lenA (ap_cons (ep_var (pv 0)) ap_nil))))
          (bs_cons (ss_set (fun pe => ps_set (i := 2) sc.nd rfl (by first | exact Or.inl rfl | exact Or.inr rfl) pe) (EV.of (ep_lst ((ap_nil (fr := true))))))
          (bs_cons (ss_for (bs := []) PassesOwn.never rfl (IV.of (ip_range1 (by rfl) B.range (ap_cons (ep_var (pv 1)) ap_nil))) (pat_nm (pg_name (i := 3) sc.nd rfl (by first | exact Or.inl rfl | exact Or.inr rfl))) (bs_one (ss_expr (ev_extend (pv 2) (EV.of (ep_lc (own := [("j", 4)]) (bs := []) rfl sc.nd (ip_range2 (by rfl) B.range (ap_cons (ep_bin (op_addA) r2_addA (ep_var (pv 3)) ep_int) (ap_cons (ep_bin (op_addA) r2_addA (ep_var (pv 1)) ep_int) ap_nil))) (blkOk_by (N := N_steps_down) (sc := defScope s_steps_down) (by decide +kernel)) (fun _ _ _ _ _ => patc_nm (pg_name (i := 4) sc.nd rfl (by first | exact Or.inl rfl | exact Or.inr rfl) (by first | exact Or.inl rfl | exact Or.inr rfl)) (by decide)) (fun _ _ _ _ _ => tps_one (tp_t (ep_callK K_is_step (hr.mono (by decide)) (by rfl) (ap_cons (ep_var (pv 0)) (ap_cons (ep_var (pv 3)) (ap_cons (ep_var (pv 4)) ap_nil)))))) (fun _ _ _ _ _ => ep_callK K_moved (hr.mono (by decide)) (by rfl) (ap_cons (ep_var (pv 0)) (ap_cons (ep_var (pv 3)) (ap_cons (ep_var (pv 4)) ap_nil))))))))))
          (bs_one (ss_ret (EV.of (ep_tuple (by rfl) B.tuple (ep_cb (fun pa => pe_callB (cr_sortA hr) (by rfl) B.sorted (by decide +kernel) pa) rn_sortA (ap_cons (ep_var (pv 2)) ap_nil))))))))
/-! ### is_descent -/
abbrev s_is_descent : Stmt := topS 22
abbrev N_is_descent : List Str := ["one", "other", "value", "k", "part"]
theorem sc_is_descent : FnScope N_is_descent ["one", "other", "value"] (defScope s_is_descent) := ⟨rfl, rfl, rfl, by decide +kernel, rfl, by decide +kernel, by decide +kernel⟩
noncomputable def B_is_descent : Rh → Out :=
  sSeq (sIf (lift (por (pnot (qT (u1 (isiD "tuple") (getS 2)))) (por (qB (o2 eqD (getS 2) (mkT aNil))) (pnot (qT (fnE allF (aCons (eLc (.nm 4) [4] (iS (getS 2)) tAll (fnE F_is_partition (aCons (getS 4) aNil))) aNil))))))) (sRet (lift (cst (.bool false)))) (sNil))
    (sSeq (sIf (lift (por (qB (o2 neD (o2 ixD (getS 2) (cst (.int 0))) (getS 0))) (qB (o2 neD (o2 ixD (getS 2) (u1 negI (cst (.int 1)))) (getS 1))))) (sRet (lift (cst (.bool false)))) (sNil))
    (sRet (lift (fnE allF (aCons (eLc (.nm 3) [3] (iR1 (aCons (o2 subD (fnE lenF (aCons (getS 2) aNil)) (cst (.int 1))) aNil)) tAll (o2 inD (o2 ixD (getS 2) (o2 addD (getS 3) (cst (.int 1)))) (fnE F_steps_down (aCons (o2 ixD (getS 2) (getS 3)) aNil)))) aNil)))))
noncomputable def F_is_descent : List D → Option D := runF 3 5 B_is_descent
theorem ok_is_descent {f : Addr} {fd : FuncData} (F : FnD K "is_descent" "is_descent" s_is_descent f fd) (hm : mg "is_descent" = some (.ref f)) (hb : Binds K fd ["one", "other", "value"] []) (K_is_partition : KnP P w K mg base 1 "is_partition" 1 F_is_partition) (K_steps_down : KnP P w K mg base 3 "steps_down" 1 F_steps_down) (B : Bl mg) (C : Cs mg) :
    KnP P w K mg base 4 "is_descent" 3 F_is_descent := by
  have sc := sc_is_descent
  refine KnP.ofA F sc hm hb (k := 3) (B := B_is_descent) fun cdv A outer s H E hr => ?_
  unfold B_is_descent
  exact bs_cons (ss_if (TV.of (WP.tp (wp_or (tp_not (tp_t (ep_isi "tuple" (by rfl) B.isinstance (by rfl) B.tuple (by decide +kernel) (ep_var (pv 2))))) (wp_or (tp_cmp (op_eqD (hr.units)) r2_eqD (ep_var (pv 2)) (ep_tup ((ap_nil (fr := true)))) (nomark _)) (wp_or1 (tp_not (tp_t (ep_cb (fun pa => pe_callB (cr_all rfl) (by rfl) B.all (by decide +kernel) pa) rn_all (ap_cons (ep_lc (own := [("part", 4)]) (bs := [2]) rfl sc.nd (ip_seq (epb_var (pv 2))) (blkOk_by (N := N_is_descent) (sc := defScope s_is_descent) (by decide +kernel)) (fun _ _ _ _ _ => patc_nm (pg_name (i := 4) sc.nd rfl (by first | exact Or.inl rfl | exact Or.inr rfl) (by first | exact Or.inl rfl | exact Or.inr rfl)) (by decide)) (fun _ _ _ _ _ => tps_nil) (fun _ _ _ _ _ => ep_callK K_is_partition (hr.mono (by decide)) (by rfl) (ap_cons (ep_var (pv 4)) ap_nil))) ap_nil))))))))) (bs_one (ss_ret (EV.of ep_bl))) (bs_nil))
          (bs_cons (ss_if (TV.of (WP.tp (wp_or (tp_cmp (op_neD (hr.units)) r2_neD (ep_ix (ep_var (pv 2)) ep_int (fun _ _ => rfl)) (ep_var (pv 0)) (nomark _)) (wp_or1 (tp_cmp (op_neD (hr.units)) r2_neD (ep_ix (ep_var (pv 2)) (ep_neg ep_int) (fun _ _ => rfl)) (ep_var (pv 1)) (nomark _)))))) (bs_one (ss_ret (EV.of ep_bl))) (bs_nil))
          (bs_one (ss_ret (EV.of (ep_cb (fun pa => pe_callB (cr_all rfl) (by rfl) B.all (by decide +kernel) pa) rn_all (ap_cons (ep_lc (own := [("k", 3)]) (bs := []) rfl sc.nd (ip_range1 (by rfl) B.range (ap_cons (ep_bin (op_sub) r2_sub (ep_cb (fun pa => pe_callB call_lenA (by rfl) B.len PySem.boot_len pa) rn_lenA (ap_cons (ep_var (pv 2)) ap_nil)) ep_int) ap_nil)) (blkOk_by (N := N_is_descent) (sc := defScope s_is_descent) (by decide +kernel)) (fun _ _ _ _ _ => patc_nm (pg_name (i := 3) sc.nd rfl (by first | exact Or.inl rfl | exact Or.inr rfl) (by first | exact Or.inl rfl | exact Or.inr rfl)) (by decide)) (fun _ _ _ _ _ => tps_nil) (fun _ _ _ _ _ => ep_cmp (op_inA hr) r2_inA (ep_ix (ep_var (pv 2)) (ep_bin (op_addA) r2_addA (ep_var (pv 3)) ep_int) (fun _ _ => rfl)) (ep_callK K_steps_down (hr.mono (by decide)) (by rfl) (ap_cons (ep_ix (ep_var (pv 2)) (ep_var (pv 3)) (fun _ _ => rfl)) ap_nil)) (by rfl))) ap_nil))))))
/-! ### shortage -/
abbrev s_shortage : Stmt := topS 23
abbrev N_shortage : List Str := ["one", "other", "count", "short", "k", "p", "q"]
theorem sc_shortage : FnScope N_shortage ["one", "other"] (defScope s_shortage) := ⟨rfl, rfl, rfl, by decide +kernel, rfl, by decide +kernel, by decide +kernel⟩
noncomputable def B_shortage : Rh → Out :=
  sSeq (sSet (.nm 2) (lift (fnE max2F (aCons (fnE lenF (aCons (getS 0) aNil)) (aCons (fnE lenF (aCons (getS 1) aNil)) aNil)))))
    (sSeq (sSet (.nm 3) (lift (eLc (.tp [.nm 4, .tp [.nm 5, .nm 6]]) [4, 5, 6] (iEZ (fnE F_sums_of (aCons (getS 0) (aCons (getS 2) aNil))) (fnE F_sums_of (aCons (getS 1) (aCons (getS 2) aNil)))) (qB (o2 ltD (getS 5) (getS 6))) (o2 addD (getS 4) (cst (.int 1))))))
    (sRet (lift (eif (qT (getS 3)) (gE (o2 ixD (getS 3) (cst (.int 0)))) (cst .none)))))
noncomputable def F_shortage : List D → Option D := runF 2 7 B_shortage
theorem ok_shortage {f : Addr} {fd : FuncData} (F : FnD K "shortage" "shortage" s_shortage f fd) (hm : mg "shortage" = some (.ref f)) (hb : Binds K fd ["one", "other"] []) (K_sums_of : KnP P w K mg base 1 "sums_of" 2 F_sums_of) (B : Bl mg) (C : Cs mg) :
    KnP P w K mg base 2 "shortage" 2 F_shortage := by
  have sc := sc_shortage
  refine KnP.ofA F sc hm hb (k := 1) (B := B_shortage) fun cdv A outer s H E hr => ?_
  unfold B_shortage
  exact bs_cons (ss_set (fun pe => ps_set (i := 2) sc.nd rfl (by first | exact Or.inl rfl | exact Or.inr rfl) pe) (EV.of (ep_cb (fun pa => pe_callB (call_max2 rfl) (by rfl) B.max (by decide +kernel) pa) rn_max2 (ap_cons (ep_cb (fun pa => pe_callB call_lenA (by rfl) B.len PySem.boot_len pa) rn_lenA (ap_cons (ep_var (pv 0)) ap_nil)) (ap_cons (ep_cb (fun pa => pe_callB call_lenA (by rfl) B.len PySem.boot_len pa) rn_lenA (ap_cons (ep_var (pv 1)) ap_nil)) ap_nil)))))
          (bs_cons (ss_setLc (i := 3) (own := [("k", 4), ("p", 5), ("q", 6)]) (bs := ([] ++ [])) rfl sc.nd rfl rfl (sw_true rfl rfl rfl (by decide +kernel)) (ip_enumzip (by rfl) B.enumerate (by rfl) B.zip (EPb.of (ep_callK K_sums_of (hr.mono (by decide)) (by rfl) (ap_cons (ep_var (pv 0)) (ap_cons (ep_var (pv 2)) ap_nil)))) (EPb.of (ep_callK K_sums_of (hr.mono (by decide)) (by rfl) (ap_cons (ep_var (pv 1)) (ap_cons (ep_var (pv 2)) ap_nil))))) (blkOk_by (N := N_shortage) (sc := defScope s_shortage) (by decide +kernel)) (fun _ _ _ _ _ => patc_tp rfl (patsc_cons (patc_nm (pg_name (i := 4) sc.nd rfl (by first | exact Or.inl rfl | exact Or.inr rfl) (by first | exact Or.inl rfl | exact Or.inr rfl)) (by decide)) (patsc_cons (patc_tp rfl (patsc_cons (patc_nm (pg_name (i := 5) sc.nd rfl (by first | exact Or.inl rfl | exact Or.inr rfl) (by first | exact Or.inl rfl | exact Or.inr rfl)) (by decide)) (patsc_cons (patc_nm (pg_name (i := 6) sc.nd rfl (by first | exact Or.inl rfl | exact Or.inr rfl) (by first | exact Or.inl rfl | exact Or.inr rfl)) (by decide)) (patsc_nil))) rfl) (patsc_nil))) rfl) (fun _ _ _ _ _ => tps_one (tp_cmp (op_ltA hr) r2_ltA (ep_var (pv 5)) (ep_var (pv 6)) (nomark _))) (fun _ _ _ _ _ => ep_bin (op_addA) r2_addA (ep_var (pv 4)) ep_int))
          (bs_one (ss_ret (EV.of (ep_if (tp_t (ep_var (pv 3))) (ep_g (ep_ix (ep_var (pv 3)) ep_int (fun _ _ => rfl))) ep_non)))))
/-! ### descent -/
abbrev s_descent : Stmt := topS 24
abbrev N_descent : List Str := ["one", "other", "short", "way", "step"]
theorem sc_descent : FnScope N_descent ["one", "other"] (defScope s_descent) := ⟨rfl, rfl, rfl, by decide +kernel, rfl, by decide +kernel, by decide +kernel⟩
noncomputable def B_descent : Rh → Out :=
  sSeq (sSet (.nm 2) (lift (fnE F_shortage (aCons (getS 0) (aCons (getS 1) aNil)))))
    (sSeq (sIf (lift (qB (o2 isNotD (getS 2) (cst .none)))) (sRet (nkT (bCons (lift (cst (.str "short"))) (bCons (mvS 2) bNil)))) (sNil))
    (sSeq (sSet (.nm 3) (lift (mkL (aCons (gE (getS 0)) aNil))))
    (sSeq (sWhile (lift (qB (o2 neD (o2 ixD (getS 3) (u1 negI (cst (.int 1)))) (getS 1)))) (sDrop (appendV 3 (lift (o2 ixD (eLc (.nm 4) [4] (iS (fnE F_steps_down (aCons (o2 ixD (getS 3) (u1 negI (cst (.int 1)))) aNil))) (qT (fnE F_dominates (aCons (getS 4) (aCons (getS 1) aNil)))) (gE (getS 4))) (cst (.int 0)))))))
    (sRet (nkT (bCons (lift (cst (.str "descent"))) (bCons (lift (u1 tupD (getS 3))) bNil)))))))
noncomputable def F_descent : List D → Option D := runF 2 5 B_descent
theorem ok_descent {f : Addr} {fd : FuncData} (F : FnD K "descent" "descent" s_descent f fd) (hm : mg "descent" = some (.ref f)) (hb : Binds K fd ["one", "other"] []) (K_shortage : KnP P w K mg base 2 "shortage" 2 F_shortage) (K_steps_down : KnP P w K mg base 3 "steps_down" 1 F_steps_down) (K_dominates : KnP P w K mg base 2 "dominates" 2 F_dominates) (B : Bl mg) (C : Cs mg) :
    KnP P w K mg base 4 "descent" 2 F_descent := by
  have sc := sc_descent
  refine KnP.ofA F sc hm hb (k := 3) (B := B_descent) fun cdv A outer s H E hr => ?_
  unfold B_descent
  exact bs_cons (ss_set (fun pe => ps_set (i := 2) sc.nd rfl (by first | exact Or.inl rfl | exact Or.inr rfl) pe) (EV.of (ep_callK K_shortage (hr.mono (by decide)) (by rfl) (ap_cons (ep_var (pv 0)) (ap_cons (ep_var (pv 1)) ap_nil)))))
          (bs_cons (ss_if (TV.of (tp_cmp (op_isNotA) r2_isNotA (ep_var (pv 2)) ep_non (nomark _))) (bs_one (ss_ret (ev_tup (av_cons (EV.of ep_str) (av_cons (ev_mv (pv 2)) av_nil))))) (bs_nil))
          (bs_cons (ss_set (fun pe => ps_set (i := 3) sc.nd rfl (by first | exact Or.inl rfl | exact Or.inr rfl) pe) (EV.of (ep_lst (ap_cons (ep_g (ep_var (pv 0))) ap_nil))))
          (bs_cons (ss_while PassesOwn.never (TV.of (tp_cmp (op_neD (hr.units)) r2_neD (ep_ix (ep_var (pv 3)) (ep_neg ep_int) (fun _ _ => rfl)) (ep_var (pv 1)) (nomark _))) (bs_one (ss_expr (ev_append (pv 3) (EV.of (ep_ixF (ep_lc (own := [("step", 4)]) (bs := []) rfl sc.nd (ip_seq (EPb.of (ep_callK K_steps_down (hr.mono (by decide)) (by rfl) (ap_cons (ep_ix (ep_var (pv 3)) (ep_neg ep_int) (fun _ _ => rfl)) ap_nil)))) (blkOk_by (N := N_descent) (sc := defScope s_descent) (by decide +kernel)) (fun _ _ _ _ _ => patc_nm (pg_name (i := 4) sc.nd rfl (by first | exact Or.inl rfl | exact Or.inr rfl) (by first | exact Or.inl rfl | exact Or.inr rfl)) (by decide)) (fun _ _ _ _ _ => tps_one (tp_t (ep_callK K_dominates (hr.mono (by decide)) (by rfl) (ap_cons (ep_var (pv 4)) (ap_cons (ep_var (pv 1)) ap_nil))))) (fun _ _ _ _ _ => ep_g (ep_var (pv 4)))) ep_int (fun _ _ => rfl)))))))
          (bs_one (ss_ret (ev_tup (av_cons (EV.of ep_str) (av_cons (EV.of (ep_tuple (by rfl) B.tuple (ep_var (pv 3)))) av_nil))))))))
/-! ### _law_box -/
abbrev s__law_box : Stmt := topS 26
theorem sc__law_box : FnScope ["script"] ["script"] (defScope s__law_box) := ⟨rfl, rfl, rfl, by decide +kernel, rfl, by decide +kernel, by decide +kernel⟩
theorem ok__law_box {f : Addr} {fd : FuncData} (F : FnD K "_law_box" "_law_box" s__law_box f fd) (B : Bl mg) : FnOk P w K mg base CX0 1 f fd ["script"] (spBox K boxD) := by
  refine F.walk sc__law_box (fun vs H Q E h => by obtain ⟨a, ns, rfl, _⟩ := h; rfl) fun cdv A outer s H vs Q E hr h => ?_
  obtain ⟨a, ns, rfl, hS, hlen, q⟩ := h
  exact ⟨_, pss_one (ps_ret (pe_lst (pa_cons (pe_callTy call_list_of (by rfl) B.list (by decide +kernel) (pa_cons (pe_slice sl_list (pv 0) po_none (po_some pe_int)) pa_nil)) (pa_cons pe_int (pa_cons (pe_op op_add pe_int (pe_callB call_len_seq (by rfl) B.len PySem.boot_len (pa_cons (pv 0) pa_nil))) pa_nil))))), box_run rfl hS hlen q⟩
/-! ### _law_load -/
abbrev s__law_load : Stmt := topS 27
theorem sc__law_load : FnScope ["box", "cells", "cell", "size", "first", "second"] ["box"] (defScope s__law_load) := ⟨rfl, rfl, rfl, by decide +kernel, rfl, by decide +kernel, by decide +kernel⟩
theorem ok__law_load {f : Addr} {fd : FuncData} (F : FnD K "_law_load" "_law_load" s__law_load f fd) (hm : mg "_law_load" = some (.ref f)) (hb : Binds K fd ["box"] []) (B : Bl mg) (C : Cs mg) : KnM P w K mg base 1 "_law_load" 1 0 F__law_load := by
  have sc := sc__law_load
  refine ⟨⟨f, fd, ["box"], hm, F.kp, hb, rfl, F.walk sc (fun vs H Q E h => h.1) fun cdv A outer s H vs Q E hr h => ⟨_, ?_, load_sp rfl h⟩⟩⟩
  exact pss_cons (ps_set (i := 1) sc.nd rfl (.inl rfl) (pe_ix ix_list (pv 0) pe_int (fun _ _ => rfl)))
    (pss_cons (ps_if (pt_cmpR op_gt (pe_callB call_len_seq (by rfl) B.len PySem.boot_len (pa_cons (pv 1) pa_nil)) pe_int (nomark _))
      (pss_cons (ps_set (i := 2) sc.nd rfl (.inl rfl) (pe_callTy call_int1 (by rfl) B.int (by decide +kernel) (pa_cons (pe_bm PySem.F.plainAttrs_list PySem.F.slot_list_pop PySem.F.type_list_pop mt_popAt (pv 1) (pa_cons pe_int pa_nil)) pa_nil)))
      (pss_cons (ps_set (i := 3) sc.nd rfl (.inl rfl) (pe_ifExp (pt_cmpR op_ge (pv 2) pe_int (nomark _)) (pe_op op_mul pe_int (pv 2)) (pe_op op_sub (pe_op op_mul (pe_un un_neg pe_int) (pv 2)) pe_int)))
      (pss_cons (ps_if (pt_cmpR op_ge (pv 3) pe_int (nomark _)) (pss_one (ps_ret (pv 3))) pss_nil)
      (pss_one (ps_asg (pe_op op_mod (pe_callTy call_int1 (by rfl) B.int (by decide +kernel) (pa_cons (pe_op op_add (pe_op op_add (pe_op op_mul (pe_ix ix_list (pv 0) pe_int (fun _ _ => rfl)) pe_int) (pe_op op_mul (pv 3) pe_int)) pe_int) pa_nil)) pe_int) (pg_sub (pv 0) pe_int set_list)))))) pss_nil)
    (pss_cons (ps_set (i := 4) sc.nd rfl (.inl rfl) (pe_op op_mod (pe_callTy call_int1 (by rfl) B.int (by decide +kernel) (pa_cons (pe_op op_add (pe_op op_mul (pe_ix ix_list (pv 0) pe_int (fun _ _ => rfl)) pe_int) pe_int) pa_nil)) pe_int))
    (pss_cons (ps_set (i := 5) sc.nd rfl (.inl rfl) (pe_op op_mod (pe_callTy call_int1 (by rfl) B.int (by decide +kernel) (pa_cons (pe_op op_add (pe_op op_mul (pv 4) pe_int) pe_int) pa_nil)) pe_int))
    (pss_cons (ps_asg (pe_op op_mod (pe_callTy call_int1 (by rfl) B.int (by decide +kernel) (pa_cons (pe_op op_add (pe_op op_mul (pv 5) pe_int) pe_int) pa_nil)) pe_int) (pg_sub (pv 0) pe_int set_list))
    (pss_one (ps_ret (pe_op op_add (pe_op op_add (pe_op op_mul (pv 4) pe_int) (pe_op op_mul (pv 5) pe_int)) (pe_ix ix_list (pv 0) pe_int (fun _ _ => rfl)))))))))
/-! ### _law_draw -/
abbrev s__law_draw : Stmt := topS 28
abbrev N__law_draw : List Str := ["box", "many", "digit"]
theorem sc__law_draw : FnScope N__law_draw ["box", "many"] (defScope s__law_draw) := ⟨rfl, rfl, rfl, by decide +kernel, rfl, by decide +kernel, by decide +kernel⟩
noncomputable def B__law_draw : Rh → Out :=
  sSeq (sIf (lift (qB (o2 ltD (o2 ixD (getS 0) (cst (.int 1))) (getS 1)))) (sSet (.ix 0 (cst (.int 1))) (callM 0 [.rd 0] F__law_load)) (sNil))
    (sSeq (sSet (.nm 2) (lift (o2 modI (fnE intF (aCons (o2 ixD (getS 0) (cst (.int 1))) aNil)) (getS 1))))
    (sSeq (sSet (.ix 0 (cst (.int 1))) (lift (o2 fdivD (o2 ixD (getS 0) (cst (.int 1))) (getS 1))))
    (sRet (mvS 2))))
noncomputable def F__law_draw : List D → Option (D × D) := runN 2 3 0 B__law_draw
theorem ok__law_draw {f : Addr} {fd : FuncData} (F : FnD K "_law_draw" "_law_draw" s__law_draw f fd) (hm : mg "_law_draw" = some (.ref f)) (hb : Binds K fd ["box", "many"] []) (K__law_load : KnM P w K mg base 1 "_law_load" 1 0 F__law_load) (B : Bl mg) (C : Cs mg) :
    KnM P w K mg base 2 "_law_draw" 2 0 F__law_draw := by
  have sc := sc__law_draw
  refine KnM.of F sc hm hb (by decide) (k := 1) (B := B__law_draw) fun cdv A outer s H E hr => ?_
  unfold B__law_draw
  exact bs_cons (ss_if (TV.of (tp_cmp (op_ltA hr) r2_ltA (ep_ix (ep_var (pv 0)) ep_int (fun _ _ => rfl)) (ep_var (pv 1)) (nomark _))) (bs_one (ss_asg (fun pe pg => ps_asg pe pg) (ev_callN K__law_load (hr.mono (by decide)) (by rfl) (ag_rd (pv 0) ag_nil) rfl rfl) (pat_ix (pv 0) ep_int))) (bs_nil))
          (bs_cons (ss_set (fun pe => ps_set (i := 2) sc.nd rfl (by first | exact Or.inl rfl | exact Or.inr rfl) pe) (EV.of (ep_bin (op_mod) r2_modI (ep_cb (fun pa => pe_callTy call_int1 (by rfl) B.int (by decide +kernel) pa) rn_int (ap_cons (ep_ix (ep_var (pv 0)) ep_int (fun _ _ => rfl)) ap_nil)) (ep_var (pv 1)))))
          (bs_cons (ss_asg (fun pe pg => ps_asg pe pg) (EV.of (ep_bin (op_fdivW) r2_fdivW (ep_ix (ep_var (pv 0)) ep_int (fun _ _ => rfl)) (ep_var (pv 1)))) (pat_ix (pv 0) ep_int))
          (bs_one (ss_ret (ev_mv (pv 2))))))
/-! ### _law_same -/
abbrev s__law_same : Stmt := topS 29
abbrev N__law_same : List Str := ["a", "b", "k"]
theorem sc__law_same : FnScope N__law_same ["a", "b"] (defScope s__law_same) := ⟨rfl, rfl, rfl, by decide +kernel, rfl, by decide +kernel, by decide +kernel⟩
noncomputable def B__law_same (F__law_same : List D → Option D) : Rh → Out :=
  sSeq (sIf (lift (por (pand (qT (u1 (isiD "tuple") (getS 0))) (qT (u1 (isiD "tuple") (getS 1)))) (pand (qT (u1 (isiD "list") (getS 0))) (qT (u1 (isiD "list") (getS 1)))))) (sRet (lift (eand (o2 eqD (fnE lenF (aCons (getS 0) aNil)) (fnE lenF (aCons (getS 1) aNil))) (fnE allF (aCons (eLc (.nm 2) [2] (iR1 (aCons (fnE lenF (aCons (getS 0) aNil)) aNil)) tAll (fnE F__law_same (aCons (o2 ixD (getS 0) (getS 2)) (aCons (o2 ixD (getS 1) (getS 2)) aNil)))) aNil))))) (sNil))
    (sSeq (sIf (lift (por (qT (u1 (isiD "bool") (getS 0))) (qT (u1 (isiD "bool") (getS 1))))) (sRet (lift (eand (u1 (isiD "bool") (getS 0)) (eand (u1 (isiD "bool") (getS 1)) (o2 eqD (getS 0) (getS 1)))))) (sNil))
    (sSeq (sIf (lift (por (pand (qT (u1 (isiD "int") (getS 0))) (qT (u1 (isiD "int") (getS 1)))) (pand (qT (u1 (isiD "str") (getS 0))) (qT (u1 (isiD "str") (getS 1)))))) (sRet (lift (o2 eqD (getS 0) (getS 1)))) (sNil))
    (sRet (lift (eand (o2 isD (getS 0) (cst .none)) (o2 isD (getS 1) (cst .none)))))))
noncomputable def R__law_same : Nat → List D → Option D
  | 0 => fun _ => none
  | j + 1 => runF 2 3 (B__law_same (R__law_same j))
noncomputable def F__law_same : List D → Option D := R__law_same 4
theorem ok__law_same {f : Addr} {fd : FuncData} (F : FnD K "_law_same" "_law_same" s__law_same f fd) (hm : mg "_law_same" = some (.ref f)) (hb : Binds K fd ["a", "b"] []) (B : Bl mg) (C : Cs mg) :
    KnP P w K mg base 4 "_law_same" 2 F__law_same := by
  have go : ∀ j : Nat, KnP P w K mg base (0 + j) "_law_same" 2 (R__law_same j) := by
    intro j
    induction j with
    | zero => exact KnP.zero F hm hb rfl
    | succ j K__law_same =>
      have sc := sc__law_same
      refine KnP.ofA F sc hm hb (k := 0 + j) (B := B__law_same (R__law_same j)) fun cdv A outer s H E hr => ?_
      unfold B__law_same
      exact bs_cons (ss_if (TV.of (WP.tp (wp_or (WP.tp (wp_and (tp_t (ep_isi "tuple" (by rfl) B.isinstance (by rfl) B.tuple (by decide +kernel) (ep_var (pv 0)))) (wp_and1 (tp_t (ep_isi "tuple" (by rfl) B.isinstance (by rfl) B.tuple (by decide +kernel) (ep_var (pv 1))))))) (wp_or1 (WP.tp (wp_and (tp_t (ep_isi "list" (by rfl) B.isinstance (by rfl) B.list (by decide +kernel) (ep_var (pv 0)))) (wp_and1 (tp_t (ep_isi "list" (by rfl) B.isinstance (by rfl) B.list (by decide +kernel) (ep_var (pv 1))))))))))) (bs_one (ss_ret (EV.of (ep_and (ep_cmp (op_eqD (hr.units)) r2_eqD (ep_cb (fun pa => pe_callB call_lenA (by rfl) B.len PySem.boot_len pa) rn_lenA (ap_cons (ep_var (pv 0)) ap_nil)) (ep_cb (fun pa => pe_callB call_lenA (by rfl) B.len PySem.boot_len pa) rn_lenA (ap_cons (ep_var (pv 1)) ap_nil)) (nomark _)) (ep_one (ep_cb (fun pa => pe_callB (cr_all rfl) (by rfl) B.all (by decide +kernel) pa) rn_all (ap_cons (ep_lc (own := [("k", 2)]) (bs := []) rfl sc.nd (ip_range1 (by rfl) B.range (ap_cons (ep_cb (fun pa => pe_callB call_lenA (by rfl) B.len PySem.boot_len pa) rn_lenA (ap_cons (ep_var (pv 0)) ap_nil)) ap_nil)) (blkOk_by (N := N__law_same) (sc := defScope s__law_same) (by decide +kernel)) (fun _ _ _ _ _ => patc_nm (pg_name (i := 2) sc.nd rfl (by first | exact Or.inl rfl | exact Or.inr rfl) (by first | exact Or.inl rfl | exact Or.inr rfl)) (by decide)) (fun _ _ _ _ _ => tps_nil) (fun _ _ _ _ _ => ep_callK K__law_same (hr.mono (by omega)) (by rfl) (ap_cons (ep_ix (ep_var (pv 0)) (ep_var (pv 2)) (fun _ _ => rfl)) (ap_cons (ep_ix (ep_var (pv 1)) (ep_var (pv 2)) (fun _ _ => rfl)) ap_nil)))) ap_nil))))))) (bs_nil))
          (bs_cons (ss_if (TV.of (WP.tp (wp_or (tp_t (ep_isi "bool" (by rfl) B.isinstance (by rfl) B.bool (by decide +kernel) (ep_var (pv 0)))) (wp_or1 (tp_t (ep_isi "bool" (by rfl) B.isinstance (by rfl) B.bool (by decide +kernel) (ep_var (pv 1)))))))) (bs_one (ss_ret (EV.of (ep_and (ep_isi "bool" (by rfl) B.isinstance (by rfl) B.bool (by decide +kernel) (ep_var (pv 0))) (ep_and (ep_isi "bool" (by rfl) B.isinstance (by rfl) B.bool (by decide +kernel) (ep_var (pv 1))) (ep_one (ep_cmp (op_eqD (hr.units)) r2_eqD (ep_var (pv 0)) (ep_var (pv 1)) (nomark _)))))))) (bs_nil))
          (bs_cons (ss_if (TV.of (WP.tp (wp_or (WP.tp (wp_and (tp_t (ep_isi "int" (by rfl) B.isinstance (by rfl) B.int (by decide +kernel) (ep_var (pv 0)))) (wp_and1 (tp_t (ep_isi "int" (by rfl) B.isinstance (by rfl) B.int (by decide +kernel) (ep_var (pv 1))))))) (wp_or1 (WP.tp (wp_and (tp_t (ep_isi "str" (by rfl) B.isinstance (by rfl) B.str (by decide +kernel) (ep_var (pv 0)))) (wp_and1 (tp_t (ep_isi "str" (by rfl) B.isinstance (by rfl) B.str (by decide +kernel) (ep_var (pv 1))))))))))) (bs_one (ss_ret (EV.of (ep_cmp (op_eqD (hr.units)) r2_eqD (ep_var (pv 0)) (ep_var (pv 1)) (nomark _))))) (bs_nil))
          (bs_one (ss_ret (EV.of (ep_and (ep_cmp (op_isA) r2_isA (ep_var (pv 0)) ep_non (nomark _)) (ep_one (ep_cmp (op_isA) r2_isA (ep_var (pv 1)) ep_non (nomark _)))))))))
  exact go 4
/-! ### _law_round -/
abbrev s__law_round : Stmt := topS 30
abbrev N__law_round : List Str := ["box", "n", "pick", "order", "place", "turn", "i", "rows", "j", "high", "row"]
theorem sc__law_round : FnScope N__law_round ["box", "n"] (defScope s__law_round) := ⟨rfl, rfl, rfl, by decide +kernel, rfl, by decide +kernel, by decide +kernel⟩
noncomputable def B__law_round : Rh → Out :=
  sSeq (sPar 2 3 (bCons (callM 0 [.rd 0, .ev (lift (cst (.int 3)))] F__law_draw) (bCons (lift (rgL1 (getS 1))) bNil)))
    (sSeq (sSet (.nm 4) (lift (mkL aNil)))
    (sSeq (sFor [] (.nm 5) (lift (iR1 (aCons (getS 1) aNil))) (sDrop (appendV 4 (popAtV 3 (callM 0 [.rd 0, .ev (lift (fnE lenF (aCons (getS 3) aNil)))] F__law_draw)))))
    (sSeq (sSet (.nm 7) (lift (eLc (.nm 6) [6] (iR1 (aCons (getS 1) aNil)) tAll (o2 mulD (mkL (aCons (cst (.int 0)) aNil)) (getS 1)))))
    (sSeq (sFor [] (.nm 6) (lift (iR1 (aCons (getS 1) aNil))) (sFor [] (.nm 8) (lift (iR1 (aCons (getS 6) aNil))) (sSeq (sSet (.nm 9) (lift (o2 gtI (o2 ixD (getS 4) (getS 6)) (o2 ixD (getS 4) (getS 8)))))
    (sSeq (sIf (tor (lift (qB (o2 eqD (getS 2) (cst (.int 0))))) (tor (tand (lift (qB (o2 eqD (getS 2) (cst (.int 1))))) (wB (v2 eqD (callM 0 [.rd 0, .ev (lift (cst (.int 5)))] F__law_draw) (lift (cst (.int 0)))))) (lift (pand (qB (o2 eqD (getS 2) (cst (.int 2)))) (qB (o2 eqD (o2 fdivD (o2 ixD (getS 4) (getS 6)) (cst (.int 3))) (o2 fdivD (o2 ixD (getS 4) (getS 8)) (cst (.int 3))))))))) (sSet (.nm 9) (v2 eqD (callM 0 [.rd 0, .ev (lift (cst (.int 2)))] F__law_draw) (lift (cst (.int 0))))) (sNil))
    (sSet (.tp [.ix2 7 (gE (getS 6)) (gE (getS 8)), .ix2 7 (gE (getS 8)) (gE (getS 6))]) (lift (eif (qT (getS 9)) (mkT (aCons (cst (.int 1)) (aCons (cst (.int 0)) aNil))) (mkT (aCons (cst (.int 0)) (aCons (cst (.int 1)) aNil))))))))))
    (sRet (lift (u1 tupD (eLc (.nm 10) [10] (iS (getS 7)) tAll (u1 tupD (getS 10))))))))))
noncomputable def F__law_round : List D → Option (D × D) := runN 2 11 0 B__law_round
theorem ok__law_round {f : Addr} {fd : FuncData} (F : FnD K "_law_round" "_law_round" s__law_round f fd) (hm : mg "_law_round" = some (.ref f)) (hb : Binds K fd ["box", "n"] []) (K__law_draw : KnM P w K mg base 2 "_law_draw" 2 0 F__law_draw) (B : Bl mg) (C : Cs mg) :
    KnM P w K mg base 3 "_law_round" 2 0 F__law_round := by
  have sc := sc__law_round
  refine KnM.of F sc hm hb (by decide) (k := 2) (B := B__law_round) fun cdv A outer s H E hr => ?_
  unfold B__law_round
  exact bs_cons (ss_par (fun pa => ps_par rfl sc.nd rfl rfl (by decide) rfl rfl pa rfl) (av_cons (ev_callN K__law_draw (hr.mono (by decide)) (by rfl) (ag_rd (pv 0) (ag_ev (EV.of ep_int) ag_nil)) rfl rfl) (av_cons (EV.of (ep_rgL1 rfl (by rfl) B.list (by rfl) B.range (ep_var (pv 1)))) av_nil)))
          (bs_cons (ss_set (fun pe => ps_set (i := 4) sc.nd rfl (by first | exact Or.inl rfl | exact Or.inr rfl) pe) (EV.of (ep_lst ((ap_nil (fr := true))))))
          (bs_cons (ss_for (bs := []) PassesOwn.never rfl (IV.of (ip_range1 (by rfl) B.range (ap_cons (ep_var (pv 1)) ap_nil))) (pat_nm (pg_name (i := 5) sc.nd rfl (by first | exact Or.inl rfl | exact Or.inr rfl))) (bs_one (ss_expr (ev_append (pv 4) (ev_popAt (pv 3) (ev_callN K__law_draw (hr.mono (by decide)) (by rfl) (ag_rd (pv 0) (ag_ev (EV.of (ep_cb (fun pa => pe_callB call_lenA (by rfl) B.len PySem.boot_len pa) rn_lenA (ap_cons (ep_var (pv 3)) ap_nil))) ag_nil)) rfl rfl))))))
          (bs_cons (ss_setLc (i := 7) (own := [("i", 6)]) (bs := []) rfl sc.nd rfl rfl (sw_true rfl rfl rfl (by decide +kernel)) (ip_range1 (by rfl) B.range (ap_cons (ep_var (pv 1)) ap_nil)) (blkOk_by (N := N__law_round) (sc := defScope s__law_round) (by decide +kernel)) (fun _ _ _ _ _ => patc_nm (pg_name (i := 6) sc.nd rfl (by first | exact Or.inl rfl | exact Or.inr rfl) (by first | exact Or.inl rfl | exact Or.inr rfl)) (by decide)) (fun _ _ _ _ _ => tps_nil) (fun _ _ _ _ _ => ep_bin (op_mulA) r2_mulA (ep_lst (ap_cons ep_int ap_nil)) (ep_var (pv 1))))
          (bs_cons (ss_for (bs := []) PassesOwn.never rfl (IV.of (ip_range1 (by rfl) B.range (ap_cons (ep_var (pv 1)) ap_nil))) (pat_nm (pg_name (i := 6) sc.nd rfl (by first | exact Or.inl rfl | exact Or.inr rfl))) (bs_one (ss_for (bs := []) PassesOwn.never rfl (IV.of (ip_range1 (by rfl) B.range (ap_cons (ep_var (pv 6)) ap_nil))) (pat_nm (pg_name (i := 8) sc.nd rfl (by first | exact Or.inl rfl | exact Or.inr rfl))) (bs_cons (ss_set (fun pe => ps_set (i := 9) sc.nd rfl (by first | exact Or.inl rfl | exact Or.inr rfl) pe) (EV.of (ep_cmp (op_gt) r2_gtI (ep_ix (ep_var (pv 4)) (ep_var (pv 6)) (fun _ _ => rfl)) (ep_ix (ep_var (pv 4)) (ep_var (pv 8)) (fun _ _ => rfl)) (nomark _))))
          (bs_cons (ss_if (WV.tv (wv_or (TV.of (tp_cmp (op_eqD (hr.units)) r2_eqD (ep_var (pv 2)) ep_int (nomark _))) (wv_or (WV.tv (wv_and (TV.of (tp_cmp (op_eqD (hr.units)) r2_eqD (ep_var (pv 2)) ep_int (nomark _))) (wv_and1 (tv_cmp (op_eqD (hr.units)) r2_eqD (ev_callN K__law_draw (hr.mono (by decide)) (by rfl) (ag_rd (pv 0) (ag_ev (EV.of ep_int) ag_nil)) rfl rfl) (EV.of ep_int) (nomark _))))) (wv_or1 (TV.of (WP.tp (wp_and (tp_cmp (op_eqD (hr.units)) r2_eqD (ep_var (pv 2)) ep_int (nomark _)) (wp_and1 (tp_cmp (op_eqD (hr.units)) r2_eqD (ep_bin (op_fdivW) r2_fdivW (ep_ix (ep_var (pv 4)) (ep_var (pv 6)) (fun _ _ => rfl)) ep_int) (ep_bin (op_fdivW) r2_fdivW (ep_ix (ep_var (pv 4)) (ep_var (pv 8)) (fun _ _ => rfl)) ep_int) (nomark _)))))))))) (bs_one (ss_set (fun pe => ps_set (i := 9) sc.nd rfl (by first | exact Or.inl rfl | exact Or.inr rfl) pe) (ev_cmp (op_eqD (hr.units)) r2_eqD (ev_callN K__law_draw (hr.mono (by decide)) (by rfl) (ag_rd (pv 0) (ag_ev (EV.of ep_int) ag_nil)) rfl rfl) (EV.of ep_int) (nomark _)))) (bs_nil))
          (bs_one (ss_asg (fun pe pg => ps_asg pe pg) (EV.of (ep_if (tp_t (ep_var (pv 9))) (ep_tup (ap_cons ep_int (ap_cons ep_int ap_nil))) (ep_tup (ap_cons ep_int (ap_cons ep_int ap_nil))))) (pat_tp rfl (pats_cons (pat_ix2 (pv 7) (ep_g (ep_var (pv 6))) (ep_g (ep_var (pv 8)))) (pats_cons (pat_ix2 (pv 7) (ep_g (ep_var (pv 8))) (ep_g (ep_var (pv 6)))) (pats_nil))) rfl))))))))
          (bs_one (ss_ret (EV.of (ep_tuple (by rfl) B.tuple (ep_lc (own := [("row", 10)]) (bs := [7]) rfl sc.nd (ip_seq (epb_var (pv 7))) (blkOk_by (N := N__law_round) (sc := defScope s__law_round) (by decide +kernel)) (fun _ _ _ _ _ => patc_nm (pg_name (i := 10) sc.nd rfl (by first | exact Or.inl rfl | exact Or.inr rfl) (by first | exact Or.inl rfl | exact Or.inr rfl)) (by decide)) (fun _ _ _ _ _ => tps_nil) (fun _ _ _ _ _ => ep_tuple (by rfl) B.tuple (ep_var (pv 10))))))))))))
/-! ### _law_scores -/
abbrev s__law_scores : Stmt := topS 31
abbrev N__law_scores : List Str := ["games", "row"]
theorem sc__law_scores : FnScope N__law_scores ["games"] (defScope s__law_scores) := ⟨rfl, rfl, rfl, by decide +kernel, rfl, by decide +kernel, by decide +kernel⟩
noncomputable def B__law_scores : Rh → Out :=
  sRet (lift (u1 tupD (eLc (.nm 1) [1] (iS (getS 0)) tAll (fnE sumF (aCons (getS 1) aNil)))))
noncomputable def F__law_scores : List D → Option D := runF 1 2 B__law_scores
theorem ok__law_scores {f : Addr} {fd : FuncData} (F : FnD K "_law_scores" "_law_scores" s__law_scores f fd) (hm : mg "_law_scores" = some (.ref f)) (hb : Binds K fd ["games"] []) (B : Bl mg) (C : Cs mg) :
    KnP P w K mg base 1 "_law_scores" 1 F__law_scores := by
  have sc := sc__law_scores
  refine KnP.ofA F sc hm hb (k := 0) (B := B__law_scores) fun cdv A outer s H E hr => ?_
  unfold B__law_scores
  exact bs_one (ss_ret (EV.of (ep_tuple (by rfl) B.tuple (ep_lc (own := [("row", 1)]) (bs := [0]) rfl sc.nd (ip_seq (epb_var (pv 0))) (blkOk_by (N := N__law_scores) (sc := defScope s__law_scores) (by decide +kernel)) (fun _ _ _ _ _ => patc_nm (pg_name (i := 1) sc.nd rfl (by first | exact Or.inl rfl | exact Or.inr rfl) (by first | exact Or.inl rfl | exact Or.inr rfl)) (by decide)) (fun _ _ _ _ _ => tps_nil) (fun _ _ _ _ _ => ep_cb (fun pa => pe_callB (cr_sumA rfl) (by rfl) B.sum (by decide +kernel) pa) rn_sum (ap_cons (ep_var (pv 1)) ap_nil))))))
/-! ### _law_partitions -/
abbrev s__law_partitions : Stmt := topS 32
abbrev N__law_partitions : List Str := ["total", "most", "count", "found", "part", "rest"]
theorem sc__law_partitions : FnScope N__law_partitions ["total", "most", "count"] (defScope s__law_partitions) := ⟨rfl, rfl, rfl, by decide +kernel, rfl, by decide +kernel, by decide +kernel⟩
noncomputable def B__law_partitions (F__law_partitions : List D → Option D) : Rh → Out :=
  sSeq (sIf (lift (qB (o2 eqD (getS 0) (cst (.int 0))))) (sRet (lift (mkL (aCons (mkT aNil) aNil)))) (sNil))
    (sSeq (sIf (lift (qB (o2 eqD (getS 2) (cst (.int 0))))) (sRet (lift (mkL aNil))) (sNil))
    (sSeq (sSet (.nm 3) (lift (mkL aNil)))
    (sSeq (sFor [] (.nm 4) (lift (iR3 (aCons (fnE min2F (aCons (getS 0) (aCons (getS 1) aNil))) (aCons (cst (.int 0)) (aCons (u1 negI (cst (.int 1))) aNil))))) (sDrop (extendV 3 (lift (eLc (.nm 5) [5] (iS (fnE F__law_partitions (aCons (o2 subD (getS 0) (getS 4)) (aCons (getS 4) (aCons (o2 subD (getS 2) (cst (.int 1))) aNil))))) tAll (o2 addD (mkT (aCons (gE (getS 4)) aNil)) (getS 5)))))))
    (sRet (mvS 3)))))
noncomputable def R__law_partitions : Nat → List D → Option D
  | 0 => fun _ => none
  | j + 1 => runF 3 6 (B__law_partitions (R__law_partitions j))
noncomputable def F__law_partitions : List D → Option D := R__law_partitions 20
theorem ok__law_partitions {f : Addr} {fd : FuncData} (F : FnD K "_law_partitions" "_law_partitions" s__law_partitions f fd) (hm : mg "_law_partitions" = some (.ref f)) (hb : Binds K fd ["total", "most", "count"] []) (B : Bl mg) (C : Cs mg) :
    KnP P w K mg base 20 "_law_partitions" 3 F__law_partitions := by
  have go : ∀ j : Nat, KnP P w K mg base (0 + j) "_law_partitions" 3 (R__law_partitions j) := by
    intro j
    induction j with
    | zero => exact KnP.zero F hm hb rfl
    | succ j K__law_partitions =>
      have sc := sc__law_partitions
      refine KnP.ofA F sc hm hb (k := 0 + j) (B := B__law_partitions (R__law_partitions j)) fun cdv A outer s H E hr => ?_
      unfold B__law_partitions
      exact bs_cons (ss_if (TV.of (tp_cmp (op_eqD (hr.units)) r2_eqD (ep_var (pv 0)) ep_int (nomark _))) (bs_one (ss_ret (EV.of (ep_lst (ap_cons (ep_tup ((ap_nil (fr := true)))) ap_nil))))) (bs_nil))
          (bs_cons (ss_if (TV.of (tp_cmp (op_eqD (hr.units)) r2_eqD (ep_var (pv 2)) ep_int (nomark _))) (bs_one (ss_ret (EV.of (ep_lst ((ap_nil (fr := true))))))) (bs_nil))
          (bs_cons (ss_set (fun pe => ps_set (i := 3) sc.nd rfl (by first | exact Or.inl rfl | exact Or.inr rfl) pe) (EV.of (ep_lst ((ap_nil (fr := true))))))
          (bs_cons (ss_for (bs := []) PassesOwn.never rfl (IV.of (ip_range3 (by rfl) B.range (ap_cons (ep_cb (fun pa => pe_callB (call_min2 rfl) (by rfl) B.min (by decide +kernel) pa) rn_min2 (ap_cons (ep_var (pv 0)) (ap_cons (ep_var (pv 1)) ap_nil))) (ap_cons ep_int (ap_cons (ep_neg ep_int) ap_nil))))) (pat_nm (pg_name (i := 4) sc.nd rfl (by first | exact Or.inl rfl | exact Or.inr rfl))) (bs_one (ss_expr (ev_extend (pv 3) (EV.of (ep_lc (own := [("rest", 5)]) (bs := []) rfl sc.nd (ip_seq (EPb.of (ep_callK K__law_partitions (hr.mono (by omega)) (by rfl) (ap_cons (EP.weak (ep_bin (op_sub) r2_sub (ep_var (pv 0)) (ep_var (pv 4)))) (ap_cons (ep_var (pv 4)) (ap_cons (EP.weak (ep_bin (op_sub) r2_sub (ep_var (pv 2)) ep_int)) ap_nil)))))) (blkOk_by (N := N__law_partitions) (sc := defScope s__law_partitions) (by decide +kernel)) (fun _ _ _ _ _ => patc_nm (pg_name (i := 5) sc.nd rfl (by first | exact Or.inl rfl | exact Or.inr rfl) (by first | exact Or.inl rfl | exact Or.inr rfl)) (by decide)) (fun _ _ _ _ _ => tps_nil) (fun _ _ _ _ _ => ep_bin (op_addA) r2_addA (ep_tup (ap_cons (ep_g (ep_var (pv 4))) ap_nil)) (ep_var (pv 5)))))))))
          (bs_one (ss_ret (ev_mv (pv 3)))))))
  exact go 20
/-! ### _law_under -/
abbrev s__law_under : Stmt := topS 33
abbrev N__law_under : List Str := ["one", "other", "count", "k"]
theorem sc__law_under : FnScope N__law_under ["one", "other"] (defScope s__law_under) := ⟨rfl, rfl, rfl, by decide +kernel, rfl, by decide +kernel, by decide +kernel⟩
noncomputable def B__law_under : Rh → Out :=
  sSeq (sSet (.nm 2) (lift (fnE max2F (aCons (fnE lenF (aCons (getS 0) aNil)) (aCons (fnE lenF (aCons (getS 1) aNil)) aNil)))))
    (sRet (lift (eand (o2 eqD (fnE sumF (aCons (getS 0) aNil)) (fnE sumF (aCons (getS 1) aNil))) (fnE allF (aCons (eLc (.nm 3) [3] (iR1 (aCons (getS 2) aNil)) tAll (o2 geI (fnE sumF (aCons (slE (getS 0) opn (ops (getS 3))) aNil)) (fnE sumF (aCons (slE (getS 1) opn (ops (getS 3))) aNil)))) aNil)))))
noncomputable def F__law_under : List D → Option D := runF 2 4 B__law_under
theorem ok__law_under {f : Addr} {fd : FuncData} (F : FnD K "_law_under" "_law_under" s__law_under f fd) (hm : mg "_law_under" = some (.ref f)) (hb : Binds K fd ["one", "other"] []) (B : Bl mg) (C : Cs mg) :
    KnP P w K mg base 1 "_law_under" 2 F__law_under := by
  have sc := sc__law_under
  refine KnP.ofA F sc hm hb (k := 0) (B := B__law_under) fun cdv A outer s H E hr => ?_
  unfold B__law_under
  exact bs_cons (ss_set (fun pe => ps_set (i := 2) sc.nd rfl (by first | exact Or.inl rfl | exact Or.inr rfl) pe) (EV.of (ep_cb (fun pa => pe_callB (call_max2 rfl) (by rfl) B.max (by decide +kernel) pa) rn_max2 (ap_cons (ep_cb (fun pa => pe_callB call_lenA (by rfl) B.len PySem.boot_len pa) rn_lenA (ap_cons (ep_var (pv 0)) ap_nil)) (ap_cons (ep_cb (fun pa => pe_callB call_lenA (by rfl) B.len PySem.boot_len pa) rn_lenA (ap_cons (ep_var (pv 1)) ap_nil)) ap_nil)))))
          (bs_one (ss_ret (EV.of (ep_and (ep_cmp (op_eqD (hr.units)) r2_eqD (ep_cb (fun pa => pe_callB (cr_sumA rfl) (by rfl) B.sum (by decide +kernel) pa) rn_sum (ap_cons (ep_var (pv 0)) ap_nil)) (ep_cb (fun pa => pe_callB (cr_sumA rfl) (by rfl) B.sum (by decide +kernel) pa) rn_sum (ap_cons (ep_var (pv 1)) ap_nil)) (nomark _)) (ep_one (ep_cb (fun pa => pe_callB (cr_all rfl) (by rfl) B.all (by decide +kernel) pa) rn_all (ap_cons (ep_lc (own := [("k", 3)]) (bs := []) rfl sc.nd (ip_range1 (by rfl) B.range (ap_cons (ep_var (pv 2)) ap_nil)) (blkOk_by (N := N__law_under) (sc := defScope s__law_under) (by decide +kernel)) (fun _ _ _ _ _ => patc_nm (pg_name (i := 3) sc.nd rfl (by first | exact Or.inl rfl | exact Or.inr rfl) (by first | exact Or.inl rfl | exact Or.inr rfl)) (by decide)) (fun _ _ _ _ _ => tps_nil) (fun _ _ _ _ _ => ep_cmp (op_ge) r2_geI (ep_cb (fun pa => pe_callB (cr_sumA rfl) (by rfl) B.sum (by decide +kernel) pa) rn_sum (ap_cons (ep_slice (ep_var (pv 0)) po_n (po_s (ep_var (pv 3)))) ap_nil)) (ep_cb (fun pa => pe_callB (cr_sumA rfl) (by rfl) B.sum (by decide +kernel) pa) rn_sum (ap_cons (ep_slice (ep_var (pv 1)) po_n (po_s (ep_var (pv 3)))) ap_nil)) (nomark _))) ap_nil)))))))
/-! ### law -/
abbrev s_law : Stmt := topS 34
abbrev N_law : List Str := ["script", "box", "n", "scores", "pick", "i", "j", "stairs", "row", "due", "lower", "word", "paper", "few", "rows", "rising", "even", "one", "k", "part", "score"]
theorem sc_law : FnScope N_law ["script"] (defScope s_law) := ⟨rfl, rfl, rfl, by decide +kernel, rfl, by decide +kernel, by decide +kernel⟩
noncomputable def B_law : Rh → Out :=
  sSeq (sSet (.nm 2) (v2 addD (lift (cst (.int 1))) (callM 1 [.rd 1, .ev (lift (cst (.int 9)))] F__law_draw)))
    (sSeq (sPar 3 4 (bCons (fnV F__law_scores (bCons (callM 1 [.rd 1, .ev (lift (gE (getS 2)))] F__law_round) bNil)) (bCons (callM 1 [.rd 1, .ev (lift (cst (.int 4)))] F__law_draw) bNil)))
    (sSeq (sIf (lift (qB (o2 eqD (getS 4) (cst (.int 0))))) (sSet (.nm 3) (w1 tupD (vLc [] (.nm 5) [5] (lift (iR1 (aCons (getS 2) aNil))) (lift tAll) (callM 1 [.rd 1, .ev (lift (o2 addD (getS 2) (cst (.int 1))))] F__law_draw)))) (sNil))
    (sSeq (sIf (lift (qB (o2 eqD (getS 4) (cst (.int 1))))) (sSeq (sSet (.tp [.nm 5, .nm 6]) (nkT (bCons (callM 1 [.rd 1, .ev (lift (gE (getS 2)))] F__law_draw) (bCons (callM 1 [.rd 1, .ev (lift (gE (getS 2)))] F__law_draw) bNil))))
    (sSet (.nm 3) (lift (u1 tupD (eLc (.tp [.nm 18, .nm 20]) [18, 20] (iE (getS 3)) tAll (o2 subD (o2 addD (getS 20) (eif (qB (o2 eqD (getS 18) (getS 5))) (cst (.int 1)) (cst (.int 0)))) (eif (pand (qB (o2 eqD (getS 18) (getS 6))) (qB (o2 gtI (getS 20) (cst (.int 0))))) (cst (.int 1)) (cst (.int 0))))))))) (sNil))
    (sSeq (sSet (.nm 7) (lift (u1 tupD (eLc (.nm 18) [18] (iR3 (aCons (o2 subD (getS 2) (cst (.int 1))) (aCons (cst (.int 0)) (aCons (u1 negI (cst (.int 1))) aNil)))) tAll (gE (getS 18))))))
    (sSeq (sSet (.nm 8) (lift (u1 tupD (eLc (.nm 19) [19] (iS (u1 revE (fnE (sortF false) (aCons (getS 3) aNil)))) (qB (o2 gtI (getS 19) (cst (.int 0)))) (gE (getS 19))))))
    (sSeq (sSet (.nm 9) (lift (fnE F__law_under (aCons (getS 7) (aCons (getS 8) aNil)))))
    (sSeq (sIf (lift (por (pnot (qT (fnE F__law_same (aCons (fnE F_is_score_row (aCons (getS 3) aNil)) (aCons (getS 9) aNil))))) (por (pnot (qT (fnE F__law_same (aCons (fnE F_dominates (aCons (getS 7) (aCons (fnE F_sorted_down (aCons (getS 3) aNil)) aNil))) (aCons (getS 9) aNil))))) (pnot (qT (fnE F__law_same (aCons (fnE F_sorted_down (aCons (getS 3) aNil)) (aCons (getS 8) aNil)))))))) (sRet (lift (cst (.bool false)))) (sNil))
    (sSeq (sIf (lift (qT (getS 9))) (sSeq (sFor [] (.nm 10) (lift (iS (fnE F_steps_down (aCons (getS 8) aNil)))) (sIf (lift (pand (qB (o2 leD (fnE lenF (aCons (getS 10) aNil)) (getS 2))) (qB (o2 isNotD (fnE F_is_score_row (aCons (o2 addD (getS 10) (o2 mulE (mkT (aCons (cst (.int 0)) aNil)) (o2 subD (getS 2) (fnE lenF (aCons (getS 10) aNil))))) aNil)) (cst (.bool true)))))) (sRet (lift (cst (.bool false)))) (sNil)))
    (sSeq (sSet (.tp [.nm 11, .nm 12]) (lift (fnE F_descent (aCons (getS 7) (aCons (getS 8) aNil)))))
    (sIf (lift (por (qB (o2 neD (getS 11) (cst (.str "descent")))) (qB (o2 isNotD (fnE F_is_descent (aCons (getS 7) (aCons (getS 8) (aCons (getS 12) aNil)))) (cst (.bool true)))))) (sRet (lift (cst (.bool false)))) (sNil)))) (sNil))
    (sSeq (sSet (.nm 13) (v2 addD (lift (cst (.int 1))) (callM 1 [.rd 1, .ev (lift (cst (.int 6)))] F__law_draw)))
    (sSeq (sSet (.nm 7) (lift (u1 tupD (eLc (.nm 18) [18] (iR3 (aCons (o2 subD (getS 13) (cst (.int 1))) (aCons (cst (.int 0)) (aCons (u1 negI (cst (.int 1))) aNil)))) tAll (gE (getS 18))))))
    (sSeq (sSet (.nm 14) (lift (eLc (.nm 17) [17] (iS (fnE F__law_partitions (aCons (o2 fdivD (o2 mulD (getS 13) (o2 subD (getS 13) (cst (.int 1)))) (cst (.int 2))) (aCons (getS 13) (aCons (getS 13) aNil))))) (qT (fnE F__law_under (aCons (getS 7) (aCons (getS 17) aNil)))) (gE (getS 17)))))
    (sSeq (sSet (.nm 15) (lift (u1 tupD (fnE (sortF false) (aCons (eLc (.nm 17) [17] (iS (getS 14)) tAll (o2 addD (o2 mulE (mkT (aCons (cst (.int 0)) aNil)) (o2 subD (getS 13) (fnE lenF (aCons (getS 17) aNil)))) (u1 revE (getS 17)))) aNil)))))
    (sSeq (sIf (lift (por (pnot (qT (fnE F__law_same (aCons (fnE F_rising_rows (aCons (getS 13) aNil)) (aCons (getS 15) aNil))))) (pnot (qT (fnE F__law_same (aCons (fnE F_count_rising (aCons (getS 13) aNil)) (aCons (fnE lenF (aCons (getS 15) aNil)) aNil))))))) (sRet (lift (cst (.bool false)))) (sNil))
    (sSeq (sSet (.nm 16) (lift (eif (qB (o2 eqD (o2 modI (getS 13) (cst (.int 2))) (cst (.int 0)))) (u1 tupD (o2 addD (o2 mulD (mkL (aCons (o2 fdivD (o2 subD (getS 13) (cst (.int 1))) (cst (.int 2))) aNil)) (o2 subD (getS 13) (o2 fdivD (getS 13) (cst (.int 2))))) (o2 mulD (mkL (aCons (o2 fdivD (getS 13) (cst (.int 2))) aNil)) (o2 fdivD (getS 13) (cst (.int 2)))))) (o2 mulE (mkT (aCons (o2 fdivD (o2 subD (getS 13) (cst (.int 1))) (cst (.int 2))) aNil)) (getS 13)))))
    (sRet (lift (eand (o2 inD (getS 16) (getS 15)) (fnE allF (aCons (eLc (.nm 17) [17] (iS (getS 15)) tAll (o2 leD (fnE F_threes_of (aCons (getS 17) aNil)) (fnE F_threes_of (aCons (getS 16) aNil)))) aNil)))))))))))))))))))
noncomputable def F_law : List D → Option D := runF 1 21 B_law
theorem ok_law {f fB : Addr} {fd fdB : FuncData} (F : FnD K "law" "law" s_law f fd) (GB : FnOk P w K mg base CX0 1 fB fdB ["script"] (spBox K boxD)) (mB : mg "_law_box" = some (.ref fB)) (kB : PySem.W.keepIn K (.ref fB) = true) (bB : Binds K fdB ["script"] []) (K__law_draw : KnM P w K mg base 2 "_law_draw" 2 0 F__law_draw) (K__law_scores : KnP P w K mg base 1 "_law_scores" 1 F__law_scores) (K__law_round : KnM P w K mg base 3 "_law_round" 2 0 F__law_round) (K__law_under : KnP P w K mg base 1 "_law_under" 2 F__law_under) (K__law_same : KnP P w K mg base 4 "_law_same" 2 F__law_same) (K_is_score_row : KnP P w K mg base 6 "is_score_row" 1 F_is_score_row) (K_dominates : KnP P w K mg base 2 "dominates" 2 F_dominates) (K_sorted_down : KnP P w K mg base 1 "sorted_down" 1 F_sorted_down) (K_steps_down : KnP P w K mg base 3 "steps_down" 1 F_steps_down) (K_descent : KnP P w K mg base 4 "descent" 2 F_descent) (K_is_descent : KnP P w K mg base 4 "is_descent" 3 F_is_descent) (K__law_partitions : KnP P w K mg base 20 "_law_partitions" 3 F__law_partitions) (K_rising_rows : KnP P w K mg base 2 "rising_rows" 1 F_rising_rows) (K_count_rising : KnP P w K mg base 2 "count_rising" 1 F_count_rising) (K_threes_of : KnP P w K mg base 2 "threes_of" 1 F_threes_of) (B : Bl mg) (C : Cs mg)
    (hM : ∀ ns : List Int, ns.length ≤ 63 → ∃ ρ', B_law (rhoL 21 (boxD ns)) = .rt (.bool true) ρ') : FnOk P w K mg base CX0 21 f fd ["script"] (spLaw K) := by
  have sc := sc_law
  refine law_of F sc (by decide) (k := 20) (B := B_law) (fun cdv A outer s H E hr => ⟨_, _, _, rfl, ps_set (i := 1) sc.nd rfl (by first | exact Or.inl rfl | exact Or.inr rfl) (pe_call GB (hr.mono (by decide)) (by rfl) mB kB bB .nil pass0 (pa_cons (pv 0) pa_nil)), boxOk_call, ?_⟩) hM
  unfold B_law
  exact bs_cons (ss_set (fun pe => ps_set (i := 2) sc.nd rfl (by first | exact Or.inl rfl | exact Or.inr rfl) pe) (ev_bin (op_addA) r2_addA (EV.of ep_int) (ev_callN K__law_draw (hr.mono (by decide)) (by rfl) (ag_rd (pv 1) (ag_ev (EV.of ep_int) ag_nil)) rfl rfl)))
          (bs_cons (ss_par (fun pa => ps_par rfl sc.nd rfl rfl (by decide) rfl rfl pa rfl) (av_cons (ev_callK K__law_scores (hr.mono (by decide)) (by rfl) (av_cons (ev_callN K__law_round (hr.mono (by decide)) (by rfl) (ag_rd (pv 1) (ag_ev (EV.of (ep_g (ep_var (pv 2)))) ag_nil)) rfl rfl) av_nil)) (av_cons (ev_callN K__law_draw (hr.mono (by decide)) (by rfl) (ag_rd (pv 1) (ag_ev (EV.of ep_int) ag_nil)) rfl rfl) av_nil)))
          (bs_cons (ss_if (TV.of (tp_cmp (op_eqD (hr.units)) r2_eqD (ep_var (pv 4)) ep_int (nomark _))) (bs_one (ss_set (fun pe => ps_set (i := 3) sc.nd rfl (by first | exact Or.inl rfl | exact Or.inr rfl) pe) (ev_tuple (by rfl) B.tuple (ev_lc (own := [("i", 5)]) (bs := []) rfl sc.nd (IV.of (ip_range1 (by rfl) B.range (ap_cons (ep_var (pv 2)) ap_nil))) (blkOk_by (N := N_law) (sc := defScope s_law) (by decide +kernel)) (fun _ _ _ _ _ => patc_nm (pg_name (i := 5) sc.nd rfl (by first | exact Or.inl rfl | exact Or.inr rfl) (by first | exact Or.inl rfl | exact Or.inr rfl)) (by decide)) (fun _ _ _ _ _ => TVs.of tps_nil) (fun _ _ _ _ _ => ev_callN K__law_draw (hr.mono (by decide)) (by rfl) (ag_rd (pv 1) (ag_ev (EV.of (ep_bin (op_addA) r2_addA (ep_var (pv 2)) ep_int)) ag_nil)) rfl rfl))))) (bs_nil))
          (bs_cons (ss_if (TV.of (tp_cmp (op_eqD (hr.units)) r2_eqD (ep_var (pv 4)) ep_int (nomark _))) (bs_cons (ss_asg (fun pe pg => ps_asg pe pg) (ev_tup (av_cons (ev_callN K__law_draw (hr.mono (by decide)) (by rfl) (ag_rd (pv 1) (ag_ev (EV.of (ep_g (ep_var (pv 2)))) ag_nil)) rfl rfl) (av_cons (ev_callN K__law_draw (hr.mono (by decide)) (by rfl) (ag_rd (pv 1) (ag_ev (EV.of (ep_g (ep_var (pv 2)))) ag_nil)) rfl rfl) av_nil))) (pat_tp rfl (pats_cons (pat_nm (pg_name (i := 5) sc.nd rfl (by first | exact Or.inl rfl | exact Or.inr rfl))) (pats_cons (pat_nm (pg_name (i := 6) sc.nd rfl (by first | exact Or.inl rfl | exact Or.inr rfl))) (pats_nil))) rfl))
          (bs_one (ss_set (fun pe => ps_set (i := 3) sc.nd rfl (by first | exact Or.inl rfl | exact Or.inr rfl) pe) (EV.of (ep_tuple (by rfl) B.tuple (ep_lc (own := [("k", 18), ("score", 20)]) (bs := [3]) rfl sc.nd (ip_enum (by rfl) B.enumerate (epb_var (pv 3))) (blkOk_by (N := N_law) (sc := defScope s_law) (by decide +kernel)) (fun _ _ _ _ _ => patc_tp rfl (patsc_cons (patc_nm (pg_name (i := 18) sc.nd rfl (by first | exact Or.inl rfl | exact Or.inr rfl) (by first | exact Or.inl rfl | exact Or.inr rfl)) (by decide)) (patsc_cons (patc_nm (pg_name (i := 20) sc.nd rfl (by first | exact Or.inl rfl | exact Or.inr rfl) (by first | exact Or.inl rfl | exact Or.inr rfl)) (by decide)) (patsc_nil))) rfl) (fun _ _ _ _ _ => tps_nil) (fun _ _ _ _ _ => ep_bin (op_sub) r2_sub (ep_bin (op_addA) r2_addA (ep_var (pv 20)) (ep_if (tp_cmp (op_eqD (hr.units)) r2_eqD (ep_var (pv 18)) (ep_var (pv 5)) (nomark _)) ep_int ep_int)) (ep_if (WP.tp (wp_and (tp_cmp (op_eqD (hr.units)) r2_eqD (ep_var (pv 18)) (ep_var (pv 6)) (nomark _)) (wp_and1 (tp_cmp (op_gt) r2_gtI (ep_var (pv 20)) ep_int (nomark _))))) ep_int ep_int)))))))) (bs_nil))
          (bs_cons (ss_set (fun pe => ps_set (i := 7) sc.nd rfl (by first | exact Or.inl rfl | exact Or.inr rfl) pe) (EV.of (ep_tuple (by rfl) B.tuple (ep_lc (own := [("k", 18)]) (bs := []) rfl sc.nd (ip_range3 (by rfl) B.range (ap_cons (ep_bin (op_sub) r2_sub (ep_var (pv 2)) ep_int) (ap_cons ep_int (ap_cons (ep_neg ep_int) ap_nil)))) (blkOk_by (N := N_law) (sc := defScope s_law) (by decide +kernel)) (fun _ _ _ _ _ => patc_nm (pg_name (i := 18) sc.nd rfl (by first | exact Or.inl rfl | exact Or.inr rfl) (by first | exact Or.inl rfl | exact Or.inr rfl)) (by decide)) (fun _ _ _ _ _ => tps_nil) (fun _ _ _ _ _ => ep_g (ep_var (pv 18)))))))
          (bs_cons (ss_set (fun pe => ps_set (i := 8) sc.nd rfl (by first | exact Or.inl rfl | exact Or.inr rfl) pe) (EV.of (ep_tuple (by rfl) B.tuple (ep_lc (own := [("part", 19)]) (bs := []) rfl sc.nd (ip_seq (EPb.of (ep_revE (ep_cb (fun pa => pe_callB (cr_sortA hr) (by rfl) B.sorted (by decide +kernel) pa) rn_sortA (ap_cons (ep_var (pv 3)) ap_nil))))) (blkOk_by (N := N_law) (sc := defScope s_law) (by decide +kernel)) (fun _ _ _ _ _ => patc_nm (pg_name (i := 19) sc.nd rfl (by first | exact Or.inl rfl | exact Or.inr rfl) (by first | exact Or.inl rfl | exact Or.inr rfl)) (by decide)) (fun _ _ _ _ _ => tps_one (tp_cmp (op_gt) r2_gtI (ep_var (pv 19)) ep_int (nomark _))) (fun _ _ _ _ _ => ep_g (ep_var (pv 19)))))))
          (bs_cons (ss_set (fun pe => ps_set (i := 9) sc.nd rfl (by first | exact Or.inl rfl | exact Or.inr rfl) pe) (EV.of (ep_callK K__law_under (hr.mono (by decide)) (by rfl) (ap_cons (ep_var (pv 7)) (ap_cons (ep_var (pv 8)) ap_nil)))))
          (bs_cons (ss_if (TV.of (WP.tp (wp_or (tp_not (tp_t (ep_callK K__law_same (hr.mono (by decide)) (by rfl) (ap_cons (EP.weak (ep_callK K_is_score_row (hr.mono (by decide)) (by rfl) (ap_cons (ep_var (pv 3)) ap_nil))) (ap_cons (ep_var (pv 9)) ap_nil))))) (wp_or (tp_not (tp_t (ep_callK K__law_same (hr.mono (by decide)) (by rfl) (ap_cons (EP.weak (ep_callK K_dominates (hr.mono (by decide)) (by rfl) (ap_cons (ep_var (pv 7)) (ap_cons (EP.weak (ep_callK K_sorted_down (hr.mono (by decide)) (by rfl) (ap_cons (ep_var (pv 3)) ap_nil))) ap_nil)))) (ap_cons (ep_var (pv 9)) ap_nil))))) (wp_or1 (tp_not (tp_t (ep_callK K__law_same (hr.mono (by decide)) (by rfl) (ap_cons (EP.weak (ep_callK K_sorted_down (hr.mono (by decide)) (by rfl) (ap_cons (ep_var (pv 3)) ap_nil))) (ap_cons (ep_var (pv 8)) ap_nil)))))))))) (bs_one (ss_ret (EV.of ep_bl))) (bs_nil))
          (bs_cons (ss_if (TV.of (tp_t (ep_var (pv 9)))) (bs_cons (ss_for (bs := []) PassesOwn.never rfl (IV.of (ip_seq (EPb.of (ep_callK K_steps_down (hr.mono (by decide)) (by rfl) (ap_cons (ep_var (pv 8)) ap_nil))))) (pat_nm (pg_name (i := 10) sc.nd rfl (by first | exact Or.inl rfl | exact Or.inr rfl))) (bs_one (ss_if (TV.of (WP.tp (wp_and (tp_cmp (op_leA hr) r2_leA (ep_cb (fun pa => pe_callB call_lenA (by rfl) B.len PySem.boot_len pa) rn_lenA (ap_cons (ep_var (pv 10)) ap_nil)) (ep_var (pv 2)) (nomark _)) (wp_and1 (tp_cmp (op_isNotA) r2_isNotA (ep_callK K_is_score_row (hr.mono (by decide)) (by rfl) (ap_cons (ep_bin (op_addA) r2_addA (ep_var (pv 10)) (ep_bin (op_mulE) r2_mulE (ep_tup (ap_cons ep_int ap_nil)) (ep_bin (op_sub) r2_sub (ep_var (pv 2)) (ep_cb (fun pa => pe_callB call_lenA (by rfl) B.len PySem.boot_len pa) rn_lenA (ap_cons (ep_var (pv 10)) ap_nil))))) ap_nil)) ep_bl (nomark _)))))) (bs_one (ss_ret (EV.of ep_bl))) (bs_nil))))
          (bs_cons (ss_asg (fun pe pg => ps_asg pe pg) (EV.of (ep_callK K_descent (hr.mono (by decide)) (by rfl) (ap_cons (ep_var (pv 7)) (ap_cons (ep_var (pv 8)) ap_nil)))) (pat_tp rfl (pats_cons (pat_nm (pg_name (i := 11) sc.nd rfl (by first | exact Or.inl rfl | exact Or.inr rfl))) (pats_cons (pat_nm (pg_name (i := 12) sc.nd rfl (by first | exact Or.inl rfl | exact Or.inr rfl))) (pats_nil))) rfl))
          (bs_one (ss_if (TV.of (WP.tp (wp_or (tp_cmp (op_neD (hr.units)) r2_neD (ep_var (pv 11)) ep_str (nomark _)) (wp_or1 (tp_cmp (op_isNotA) r2_isNotA (ep_callK K_is_descent (hr.mono (by decide)) (by rfl) (ap_cons (ep_var (pv 7)) (ap_cons (ep_var (pv 8)) (ap_cons (ep_var (pv 12)) ap_nil)))) ep_bl (nomark _)))))) (bs_one (ss_ret (EV.of ep_bl))) (bs_nil))))) (bs_nil))
          (bs_cons (ss_set (fun pe => ps_set (i := 13) sc.nd rfl (by first | exact Or.inl rfl | exact Or.inr rfl) pe) (ev_bin (op_addA) r2_addA (EV.of ep_int) (ev_callN K__law_draw (hr.mono (by decide)) (by rfl) (ag_rd (pv 1) (ag_ev (EV.of ep_int) ag_nil)) rfl rfl)))
          (bs_cons (ss_set (fun pe => ps_set (i := 7) sc.nd rfl (by first | exact Or.inl rfl | exact Or.inr rfl) pe) (EV.of (ep_tuple (by rfl) B.tuple (ep_lc (own := [("k", 18)]) (bs := []) rfl sc.nd (ip_range3 (by rfl) B.range (ap_cons (ep_bin (op_sub) r2_sub (ep_var (pv 13)) ep_int) (ap_cons ep_int (ap_cons (ep_neg ep_int) ap_nil)))) (blkOk_by (N := N_law) (sc := defScope s_law) (by decide +kernel)) (fun _ _ _ _ _ => patc_nm (pg_name (i := 18) sc.nd rfl (by first | exact Or.inl rfl | exact Or.inr rfl) (by first | exact Or.inl rfl | exact Or.inr rfl)) (by decide)) (fun _ _ _ _ _ => tps_nil) (fun _ _ _ _ _ => ep_g (ep_var (pv 18)))))))
          (bs_cons (ss_setLc (i := 14) (own := [("one", 17)]) (bs := []) rfl sc.nd rfl rfl (sw_true rfl rfl rfl (by decide +kernel)) (ip_seq (EPb.of (ep_callK K__law_partitions (hr.mono (by decide)) (by rfl) (ap_cons (EP.weak (ep_bin (op_fdivW) r2_fdivW (ep_bin (op_mulA) r2_mulA (ep_var (pv 13)) (ep_bin (op_sub) r2_sub (ep_var (pv 13)) ep_int)) ep_int)) (ap_cons (ep_var (pv 13)) (ap_cons (ep_var (pv 13)) ap_nil)))))) (blkOk_by (N := N_law) (sc := defScope s_law) (by decide +kernel)) (fun _ _ _ _ _ => patc_nm (pg_name (i := 17) sc.nd rfl (by first | exact Or.inl rfl | exact Or.inr rfl) (by first | exact Or.inl rfl | exact Or.inr rfl)) (by decide)) (fun _ _ _ _ _ => tps_one (tp_t (ep_callK K__law_under (hr.mono (by decide)) (by rfl) (ap_cons (ep_var (pv 7)) (ap_cons (ep_var (pv 17)) ap_nil))))) (fun _ _ _ _ _ => ep_g (ep_var (pv 17))))
          (bs_cons (ss_set (fun pe => ps_set (i := 15) sc.nd rfl (by first | exact Or.inl rfl | exact Or.inr rfl) pe) (EV.of (ep_tuple (by rfl) B.tuple (ep_cb (fun pa => pe_callB (cr_sortA hr) (by rfl) B.sorted (by decide +kernel) pa) rn_sortA (ap_cons (ep_lc (own := [("one", 17)]) (bs := [14]) rfl sc.nd (ip_seq (epb_var (pv 14))) (blkOk_by (N := N_law) (sc := defScope s_law) (by decide +kernel)) (fun _ _ _ _ _ => patc_nm (pg_name (i := 17) sc.nd rfl (by first | exact Or.inl rfl | exact Or.inr rfl) (by first | exact Or.inl rfl | exact Or.inr rfl)) (by decide)) (fun _ _ _ _ _ => tps_nil) (fun _ _ _ _ _ => ep_bin (op_addA) r2_addA (ep_bin (op_mulE) r2_mulE (ep_tup (ap_cons ep_int ap_nil)) (ep_bin (op_sub) r2_sub (ep_var (pv 13)) (ep_cb (fun pa => pe_callB call_lenA (by rfl) B.len PySem.boot_len pa) rn_lenA (ap_cons (ep_var (pv 17)) ap_nil)))) (ep_revE (ep_var (pv 17))))) ap_nil)))))
          (bs_cons (ss_if (TV.of (WP.tp (wp_or (tp_not (tp_t (ep_callK K__law_same (hr.mono (by decide)) (by rfl) (ap_cons (EP.weak (ep_callK K_rising_rows (hr.mono (by decide)) (by rfl) (ap_cons (ep_var (pv 13)) ap_nil))) (ap_cons (ep_var (pv 15)) ap_nil))))) (wp_or1 (tp_not (tp_t (ep_callK K__law_same (hr.mono (by decide)) (by rfl) (ap_cons (ep_callK K_count_rising (hr.mono (by decide)) (by rfl) (ap_cons (ep_var (pv 13)) ap_nil)) (ap_cons (ep_cb (fun pa => pe_callB call_lenA (by rfl) B.len PySem.boot_len pa) rn_lenA (ap_cons (ep_var (pv 15)) ap_nil)) ap_nil))))))))) (bs_one (ss_ret (EV.of ep_bl))) (bs_nil))
          (bs_cons (ss_set (fun pe => ps_set (i := 16) sc.nd rfl (by first | exact Or.inl rfl | exact Or.inr rfl) pe) (EV.of (ep_if (tp_cmp (op_eqD (hr.units)) r2_eqD (ep_bin (op_mod) r2_modI (ep_var (pv 13)) ep_int) ep_int (nomark _)) (ep_tuple (by rfl) B.tuple (ep_bin (op_addA) r2_addA (ep_bin (op_mulA) r2_mulA (ep_lst (ap_cons (ep_bin (op_fdivW) r2_fdivW (ep_bin (op_sub) r2_sub (ep_var (pv 13)) ep_int) ep_int) ap_nil)) (ep_bin (op_sub) r2_sub (ep_var (pv 13)) (ep_bin (op_fdivW) r2_fdivW (ep_var (pv 13)) ep_int))) (ep_bin (op_mulA) r2_mulA (ep_lst (ap_cons (ep_bin (op_fdivW) r2_fdivW (ep_var (pv 13)) ep_int) ap_nil)) (ep_bin (op_fdivW) r2_fdivW (ep_var (pv 13)) ep_int)))) (ep_bin (op_mulE) r2_mulE (ep_tup (ap_cons (ep_bin (op_fdivW) r2_fdivW (ep_bin (op_sub) r2_sub (ep_var (pv 13)) ep_int) ep_int) ap_nil)) (ep_var (pv 13))))))
          (bs_one (ss_ret (EV.of (ep_and (ep_cmp (op_inA hr) r2_inA (ep_var (pv 16)) (ep_var (pv 15)) (by rfl)) (ep_one (ep_cb (fun pa => pe_callB (cr_all rfl) (by rfl) B.all (by decide +kernel) pa) rn_all (ap_cons (ep_lc (own := [("one", 17)]) (bs := [15]) rfl sc.nd (ip_seq (epb_var (pv 15))) (blkOk_by (N := N_law) (sc := defScope s_law) (by decide +kernel)) (fun _ _ _ _ _ => patc_nm (pg_name (i := 17) sc.nd rfl (by first | exact Or.inl rfl | exact Or.inr rfl) (by first | exact Or.inl rfl | exact Or.inr rfl)) (by decide)) (fun _ _ _ _ _ => tps_nil) (fun _ _ _ _ _ => ep_cmp (op_leA hr) r2_leA (ep_callK K_threes_of (hr.mono (by decide)) (by rfl) (ap_cons (ep_var (pv 17)) ap_nil)) (ep_callK K_threes_of (hr.mono (by decide)) (by rfl) (ap_cons (ep_var (pv 16)) ap_nil)) (nomark _))) ap_nil)))))))))))))))))))))
end
end T92

set_option Elab.async false
set_option linter.all false
set_option maxRecDepth 100000
set_option maxHeartbeats 4000000
namespace T92
open PySem PySem.Spec PyProof.Rows L2 PV
/-! sums, dominance -/
def pre (l : List Nat) (k : Nat) : Nat := (l.take k).sum
theorem pre_succ (l : List Nat) (k : Nat) : pre l (k + 1) = pre l k + (l[k]?.getD 0) := by
  unfold pre
  rw [List.take_add_one, List.sum_append]
  cases l[k]? <;> simp
def psums (l : List Nat) (c : Nat) : List Nat := (List.range c).map fun i => pre l (i + 1)
theorem psums_succ (l : List Nat) (c : Nat) : psums l (c + 1) = psums l c ++ [pre l (c + 1)] := by
  unfold psums
  rw [List.range_succ, List.map_append]; rfl
theorem sums_eq (l : List Nat) (c : Nat) (hc : c ≤ 1000) : F_sums_of [tN l, nI c] = some (lN (psums l c)) := by
  refine runF_eq rfl ?_
  show Rts (B_sums_of [some ⟨tN l, .ro⟩, some ⟨nI c, .ro⟩, none, none, none]) _
  unfold B_sums_of
  refine seqR1 (ρ' := [some ⟨tN l, .ro⟩, some ⟨nI c, .ro⟩, some ⟨lN [], .own⟩, none, none]) (by simp) ?_
  refine seqR1 (ρ' := [some ⟨tN l, .ro⟩, some ⟨nI c, .ro⟩, some ⟨lN [], .own⟩, some ⟨nI 0, .own⟩, none]) (by simp) ?_
  have hr := rng1_nat c (by omega)
  refine Nxs.seqR (P1 := fun ρ => ∃ x, ρ = [some ⟨tN l, .ro⟩, some ⟨nI c, .ro⟩, some ⟨lN (psums l c), .own⟩, some ⟨nI (pre l c), .own⟩, x]) ?_ ?_
  · refine sFor_of (ds := rangeD 0 c) (ρ1 := [some ⟨tN l, .ro⟩, some ⟨nI c, .ro⟩, some ⟨lN [], .own⟩, some ⟨nI 0, .own⟩, none]) (by simp [hr]) rfl ?_
    have := forS_rng (p := .nm 4) (b := (sSeq (sAug 3 addI (lift (eif (qB (o2 ltD (getS 4) (fnE lenF (aCons (getS 0) aNil)))) (gE (o2 ixD (getS 0) (getS 4))) (cst (.int 0))))) (sDrop (appendV 2 (lift (gE (getS 3)))))))
      (fun k ρ => ∃ x, ρ = [some ⟨tN l, .ro⟩, some ⟨nI c, .ro⟩, some ⟨lN (psums l k), .own⟩, some ⟨nI (pre l k), .own⟩, x] ∧ NP x) c [some ⟨tN l, .ro⟩, some ⟨nI c, .ro⟩, some ⟨lN [], .own⟩, some ⟨nI 0, .own⟩, none] ⟨none, rfl, NP.none⟩ ?_
    · obtain ⟨ρ, e, x, e2, _⟩ := this
      exact ⟨ρ, e, x, e2⟩
    · rintro k ρ hk ⟨x, rfl, hx⟩
      refine ⟨[some ⟨tN l, .ro⟩, some ⟨nI c, .ro⟩, some ⟨lN (psums l k), .own⟩, some ⟨nI (pre l k), .own⟩, some ⟨nI k, .ro⟩], by simp [setS_np hx], ?_⟩
      refine ⟨_, ?_, some ⟨nI k, .ro⟩, rfl, NP.ro⟩
      rw [psums_succ, pre_succ]
      have hl : (psums l k).length + 1 < 1000000 := by unfold psums; simp; omega
      by_cases h : k < l.length
      · have e := ix_tN h
        simp [h, e, lstAt, hl]
      · simp [h, lstAt, hl]
  · rintro ρ ⟨x, rfl⟩
    simp
end T92

set_option Elab.async false
set_option linter.all false
set_option maxRecDepth 100000
set_option maxHeartbeats 4000000
namespace T92
open PySem PySem.Spec PyProof.Rows L2 PV
theorem size_eq (l : List Nat) : F_size_of [tN l] = some (nI l.sum) := by
  simp [F_size_of, B_size_of, runP, rho0, sum_tN]
theorem pre_all (l : List Nat) {k : Nat} (h : l.length ≤ k) : pre l k = l.sum := by
  unfold pre
  rw [List.take_of_length_le h]
theorem max2_nI (a b : Nat) : max2F [nI a, nI b] = some (nI (max a b)) := by
  simp [max2F, nI]
  omega
def domM (a b : List Nat) : Bool := decide (a.sum = b.sum) && (List.range (max a.length b.length)).all fun i => decide (pre b (i + 1) ≤ pre a (i + 1))
def Dm (a b : List Nat) : Prop := a.sum = b.sum ∧ ∀ k, pre b k ≤ pre a k
theorem domM_iff (a b : List Nat) : domM a b = true ↔ Dm a b := by
  unfold domM Dm
  simp only [Bool.and_eq_true, decide_eq_true_eq, List.all_eq_true, List.mem_range]
  refine and_congr_right fun hs => ⟨fun h k => ?_, fun h i _ => h (i + 1)⟩
  cases k with
  | zero => simp [pre]
  | succ i =>
    by_cases hi : i < max a.length b.length
    · exact h i hi
    · rw [pre_all a (by omega), pre_all b (by omega), hs]; exact Nat.le_refl _
theorem dom_eq (a b : List Nat) (ha : a.length ≤ 900) (hb : b.length ≤ 900) : F_dominates [tN a, tN b] = some (.bool (domM a b)) := by
  have s1 := size_eq a
  have s2 := size_eq b
  have n1 := ne_nI a.sum b.sum
  have m1 := max2_nI a.length b.length
  by_cases h : a.sum = b.sum
  · have e1 := sums_eq a (max a.length b.length) (by omega)
    have e2 := sums_eq b (max a.length b.length) (by omega)
    have hz : zipD ((psums a (max a.length b.length)).map nI) ((psums b (max a.length b.length)).map nI) = (List.range (max a.length b.length)).map fun i => .tuple [nI (pre a (i + 1)), nI (pre b (i + 1))] := by
      unfold zipD psums
      rw [List.map_map, List.map_map, List.zipWith_map, List.zipWith_self]
      rfl
    have hl : ∀ ρ : Rh, ρ = [some ⟨tN a, .ro⟩, some ⟨tN b, .ro⟩, some ⟨nI (max a.length b.length), .own⟩, none, none] → lcS (stepE (.tp [.nm 3, .nm 4]) tAll (o2 geI (getS 3) (getS 4)) (wipR ρ [3, 4])) ((List.range (max a.length b.length)).map fun i => .tuple [nI (pre a (i + 1)), nI (pre b (i + 1))]) = some ((List.range (max a.length b.length)).map fun i => .bool (decide (pre b (i + 1) ≤ pre a (i + 1)))) := fun ρ e => by
      subst e
      exact lcS_mapM fun i _ => by simp [wipR]
    have hall := allF_map (ds := List.range (max a.length b.length)) (g := fun i => decide (pre b (i + 1) ≤ pre a (i + 1)))
    refine runF_eq rfl ?_
    show Rts (B_dominates [some ⟨tN a, .ro⟩, some ⟨tN b, .ro⟩, none, none, none]) _
    unfold B_dominates
    refine seqR1 (ρ' := [some ⟨tN a, .ro⟩, some ⟨tN b, .ro⟩, none, none, none]) (by simp [s1, s2, h]) ?_
    refine seqR1 (ρ' := [some ⟨tN a, .ro⟩, some ⟨tN b, .ro⟩, some ⟨nI (max a.length b.length), .own⟩, none, none]) (by simp [m1]) ?_
    have e3 := eLc_of (p := .tp [.nm 3, .nm 4]) (vs := [3, 4]) (hi := iZ (fnE F_sums_of (aCons (getS 0) (aCons (getS 2) aNil))) (fnE F_sums_of (aCons (getS 1) (aCons (getS 2) aNil)))) (t := tAll) (e := o2 geI (getS 3) (getS 4))
      (ρ := [some ⟨tN a, .ro⟩, some ⟨tN b, .ro⟩, some ⟨nI (max a.length b.length), .own⟩, none, none]) (by simp [e1, e2, hz]) (by simp; omega) (hl _ rfl)
    refine ⟨_, _, sRet_of (lift_of (d := .bool (domM a b)) ?_), rfl⟩
    simp only [fnE_e, aCons_e, aNil_e, e3, hall]
    simp [domM, h]
  · refine runF_eq rfl ?_
    show Rts (B_dominates [some ⟨tN a, .ro⟩, some ⟨tN b, .ro⟩, none, none, none]) _
    have h' : domM a b = false := by simp [domM, h]
    have h2 : ((a.sum : Int) == (b.sum : Int)) = false := by simp; omega
    rw [h']
    simp [B_dominates, s1, s2, h2]
/-! ### parts, steps -/
theorem part_eq (l : List Nat) (k : Nat) : F_part_at [tN l, nI k] = some (nI (l.getD k 0)) := by
  by_cases h : k < l.length
  · have e := ix_tN h
    simp [F_part_at, B_part_at, runP, rho0, e, h]
  · have e : l.getD k 0 = 0 := by simp [List.getD_eq_getElem?_getD, List.getElem?_eq_none (Nat.not_lt.mp h)]
    rw [e]
    simp [F_part_at, B_part_at, runP, rho0, h]
def isStep (l : List Nat) (i j : Nat) : Bool :=
  if j = i + 1 then decide (l.getD j 0 + 2 ≤ l.getD i 0) else decide (l.getD i 0 = l.getD j 0 + 2) && (List.range (j - (i + 1))).all fun k => decide (l.getD (i + 1 + k) 0 + 1 = l.getD i 0)
theorem rng2_nat (a b : Nat) (ha : a ≤ 1000000) (hb : b ≤ 1000000) : rng2 [nI a, nI b] = some ((List.range (b - a)).map fun i => nI (a + i)) := by
  have h : rng2 [nI a, nI b] = some (rangeD (a : Int) ((b : Int) - (a : Int)).toNat) := by
    unfold rng2
    simp only [nI]
    rw [if_pos ⟨by omega, by omega⟩]
  rw [h, ← range_nI']
  congr 2
  omega
theorem step_eq (l : List Nat) (i j : Nat) (hi : i < l.length) (hij : i < j) (hj : j ≤ l.length) (hl : l.length ≤ 900) : F_is_step [tN l, nI i, nI j] = some (.bool (isStep l i j)) := by
  have e1 := ix_tN hi
  have e2 := part_eq l j
  unfold isStep
  by_cases h : j = i + 1
  · rw [if_pos h]
    have h3 : ((j : Int) == (i : Int) + 1) = true := by simp; omega
    have h4 : decide (l.getD j 0 + 2 ≤ l.getD i 0) = decide ((2 : Int) ≤ ((l.getD i 0 : Nat) : Int) - ((l.getD j 0 : Nat) : Int)) := by
      rw [decide_eq_decide]; omega
    refine runF_eq rfl ?_
    show Rts (B_is_step [some ⟨tN l, .ro⟩, some ⟨nI i, .ro⟩, some ⟨nI j, .ro⟩, none, none, none]) _
    unfold B_is_step
    rw [h4]
    refine seqR1 (ρ' := [some ⟨tN l, .ro⟩, some ⟨nI i, .ro⟩, some ⟨nI j, .ro⟩, some ⟨nI (l.getD i 0), .own⟩, some ⟨nI (l.getD j 0), .own⟩, none]) (by simp [-List.getD_eq_getElem?_getD, e1, e2]) ?_
    simp [h3]
  · rw [if_neg h]
    have h3 : ((j : Int) == (i : Int) + 1) = false := by simp; omega
    refine runF_eq rfl ?_
    show Rts (B_is_step [some ⟨tN l, .ro⟩, some ⟨nI i, .ro⟩, some ⟨nI j, .ro⟩, none, none, none]) _
    unfold B_is_step
    refine seqR1 (ρ' := [some ⟨tN l, .ro⟩, some ⟨nI i, .ro⟩, some ⟨nI j, .ro⟩, some ⟨nI (l.getD i 0), .own⟩, some ⟨nI (l.getD j 0), .own⟩, none]) (by simp [-List.getD_eq_getElem?_getD, e1, e2]) ?_
    refine seqR1 (ρ' := [some ⟨tN l, .ro⟩, some ⟨nI i, .ro⟩, some ⟨nI j, .ro⟩, some ⟨nI (l.getD i 0), .own⟩, some ⟨nI (l.getD j 0), .own⟩, none]) (by simp [h3]) ?_
    have hr := rng2_nat (i + 1) j (by omega) (by omega)
    have hr' : rng2 [.int ((i : Int) + 1), nI j] = some ((List.range (j - (i + 1))).map fun k => nI (i + 1 + k)) := hr
    have hl2 : lcS (stepE (.nm 5) tAll (o2 eqD (o2 ixD (getS 0) (getS 5)) (o2 subD (getS 3) (cst (.int 1)))) (wipR [some ⟨tN l, .ro⟩, some ⟨nI i, .ro⟩, some ⟨nI j, .ro⟩, some ⟨nI (l.getD i 0), .own⟩, some ⟨nI (l.getD j 0), .own⟩, none] [5])) ((List.range (j - (i + 1))).map fun k => nI (i + 1 + k)) = some ((List.range (j - (i + 1))).map fun k => .bool (decide (l.getD (i + 1 + k) 0 + 1 = l.getD i 0))) := by
      refine lcS_mapM fun k hk => ?_
      have hk := List.mem_range.mp hk
      have e3 := ix_tN (l := l) (k := i + 1 + k) (by omega)
      have e4 : decide (l.getD (i + 1 + k) 0 + 1 = l.getD i 0) = (((l.getD (i + 1 + k) 0 : Nat) : Int) == ((l.getD i 0 : Nat) : Int) - 1) := by
        rw [Bool.eq_iff_iff]; simp only [decide_eq_true_eq, beq_iff_eq]; omega
      rw [e4]
      simp only [wipR, stepE_e]
      simp [e3, -List.getD_eq_getElem?_getD]
    have hall := allF_map (ds := List.range (j - (i + 1))) (g := fun k => decide (l.getD (i + 1 + k) 0 + 1 = l.getD i 0))
    have e5 := eLc_of (p := .nm 5) (vs := [5]) (hi := iR2 (aCons (o2 addD (getS 1) (cst (.int 1))) (aCons (getS 2) aNil))) (t := tAll) (e := o2 eqD (o2 ixD (getS 0) (getS 5)) (o2 subD (getS 3) (cst (.int 1))))
      (ρ := [some ⟨tN l, .ro⟩, some ⟨nI i, .ro⟩, some ⟨nI j, .ro⟩, some ⟨nI (l.getD i 0), .own⟩, some ⟨nI (l.getD j 0), .own⟩, none]) (by simp [hr']) (by simp; omega) hl2
    have e6 : decide (l.getD i 0 = l.getD j 0 + 2) = (((l.getD i 0 : Nat) : Int) - ((l.getD j 0 : Nat) : Int) == 2) := by
      rw [Bool.eq_iff_iff]; simp only [decide_eq_true_eq, beq_iff_eq]; omega
    refine ⟨_, _, sRet_of (lift_of (d := .bool (decide (l.getD i 0 = l.getD j 0 + 2) && (List.range (j - (i + 1))).all fun k => decide (l.getD (i + 1 + k) 0 + 1 = l.getD i 0))) ?_), rfl⟩
    rw [e6]
    simp only [eand_e, o2_e, getS_z, getS_s, subD_int, cst_e, eqD_int, fnE_e, aCons_e, aNil_e, e5, hall]
    cases (((l.getD i 0 : Nat) : Int) - ((l.getD j 0 : Nat) : Int) == 2) <;> simp
end T92

set_option Elab.async false
set_option linter.all false
set_option maxRecDepth 100000
set_option maxHeartbeats 4000000
namespace T92
open PySem PySem.Spec PyProof.Rows L2 PV
/-! steps down -/
def movedS (l : List Nat) (i j : Nat) : List Nat := (((l ++ [0]).set i (l.getD i 0 - 1)).set j (l.getD j 0 + 1)).filter fun a => Nat.blt 0 a
theorem list_tN (l : List Nat) : listF [tN l] = some (lN l) := by simp [listF, pure_nI]
theorem gt_nI (a : Nat) : gtI (nI a) (.int 0) = some (.bool (Nat.blt 0 a)) := by
  rw [gtI_int]
  congr 2
  rw [Bool.eq_iff_iff, decide_eq_true_eq, Nat.blt_eq]
  omega
theorem fm_filter (l : List Nat) : List.filterMap (fun a => if Nat.blt 0 a = true then some (nI a) else none) l = (l.filter fun a => Nat.blt 0 a).map nI := by
  induction l with
  | nil => rfl
  | cons a l ih =>
    rw [List.filterMap_cons, List.filter_cons, ih]
    cases h : Nat.blt 0 a <;> simp
theorem filterG (l : List Nat) (ρ : Rh) (i : Nat) (hρ : ∀ d : D, patS .ro (.nm i) d (wipR ρ [i]) = some ((wipR ρ [i]).set i (some ⟨d, .ro⟩))) (hi : i < ρ.length) : lcS (stepE (.nm i) (qB (o2 gtI (getS i) (cst (.int 0)))) (gE (getS i)) (wipR ρ [i])) (l.map nI) = some ((l.filter fun a => Nat.blt 0 a).map nI) := by
  have hg : ∀ d : D, getS i ((wipR ρ [i]).set i (some ⟨d, .ro⟩)) = some d := fun d => by
    unfold getS
    rw [List.getElem?_set_self (by rw [wipR_len]; exact hi)]
  have := lcS_fm (step := stepE (.nm i) (qB (o2 gtI (getS i) (cst (.int 0)))) (gE (getS i)) (wipR ρ [i])) (f := nI) (g := fun a => if Nat.blt 0 a = true then some (nI a) else none) (ds := l) fun a _ => by
    have e := gt_nI a
    cases h : Nat.blt 0 a <;> simp [-patS_nm, hρ, hg, e, h]
  rw [this, fm_filter]
theorem moved_eq (l : List Nat) (i j : Nat) (hi : i < l.length) (hij : i ≠ j) (hj : j ≤ l.length) (h1 : 1 ≤ l.getD i 0) (hl : l.length ≤ 900) : F_moved [tN l, nI i, nI j] = some (tN (movedS l i j)) := by
  have e0 := list_tN l
  have e1 : addD (lN l) (.list [.int 0]) = some (lN (l ++ [0])) := by
    have := addL_ok (X := l.map nI) (Y := [nI 0]) (pure_nI l) (by simp) (by simp; omega)
    show addD (lN l) (.list [.int 0]) = some (PyData.list ((l ++ [0]).map nI))
    rw [List.map_append]; exact this
  have e2 := ix_lN (l := l ++ [0]) (k := i) (by simp; omega)
  have g2 : (l ++ [0]).getD i 0 = l.getD i 0 := by
    simp only [List.getD_eq_getElem?_getD]
    rw [List.getElem?_append_left hi]
  rw [g2] at e2
  have e3 : ixSet ((l ++ [0]).map nI) (nI i) (.int (((l.getD i 0 : Nat) : Int) - 1)) = some (((l ++ [0]).set i (l.getD i 0 - 1)).map nI) := by
    rw [show PyData.int (((l.getD i 0 : Nat) : Int) - 1) = nI (l.getD i 0 - 1) from by rw [nI]; congr 1; omega]
    rw [ixSet_nat _ (by simp; omega)]
    simp only [List.map_set]
  have e4 := ix_lN (l := (l ++ [0]).set i (l.getD i 0 - 1)) (k := j) (by simp; omega)
  have g4 : ((l ++ [0]).set i (l.getD i 0 - 1)).getD j 0 = l.getD j 0 := by
    simp only [List.getD_eq_getElem?_getD]
    rw [List.getElem?_set_ne hij]
    by_cases h : j < l.length
    · rw [List.getElem?_append_left h]
    · rw [List.getElem?_append_right (by omega), List.getElem?_eq_none (Nat.not_lt.mp h)]
      have : j - l.length = 0 := by omega
      rw [this]; rfl
  rw [g4] at e4
  have e5 : ixSet (((l ++ [0]).set i (l.getD i 0 - 1)).map nI) (nI j) (.int (((l.getD j 0 : Nat) : Int) + 1)) = some ((((l ++ [0]).set i (l.getD i 0 - 1)).set j (l.getD j 0 + 1)).map nI) := by
    rw [show PyData.int (((l.getD j 0 : Nat) : Int) + 1) = nI (l.getD j 0 + 1) from by rw [nI]; congr 1]
    rw [ixSet_nat _ (by simp; omega)]
    simp only [List.map_set]
  refine runF_eq rfl ?_
  show Rts (B_moved [some ⟨tN l, .ro⟩, some ⟨nI i, .ro⟩, some ⟨nI j, .ro⟩, none, none]) _
  unfold B_moved
  refine seqR1 (ρ' := [some ⟨tN l, .ro⟩, some ⟨nI i, .ro⟩, some ⟨nI j, .ro⟩, some ⟨lN (l ++ [0]), .own⟩, none]) (by simp [-List.map_append, e0, e1]) ?_
  refine seqR1 (ρ' := [some ⟨tN l, .ro⟩, some ⟨nI i, .ro⟩, some ⟨nI j, .ro⟩, some ⟨lN ((l ++ [0]).set i (l.getD i 0 - 1)), .own⟩, none]) (by simp [-List.map_append, -List.getD_eq_getElem?_getD, -List.map_set, e2, e3]) ?_
  refine seqR1 (ρ' := [some ⟨tN l, .ro⟩, some ⟨nI i, .ro⟩, some ⟨nI j, .ro⟩, some ⟨lN (((l ++ [0]).set i (l.getD i 0 - 1)).set j (l.getD j 0 + 1)), .own⟩, none]) (by simp [-List.map_append, -List.getD_eq_getElem?_getD, -List.map_set, e4, e5]) ?_
  have e6 := eLc_of (p := .nm 4) (vs := [4]) (hi := iS (getS 3)) (t := qB (o2 gtI (getS 4) (cst (.int 0)))) (e := gE (getS 4)) (ρ := [some ⟨tN l, .ro⟩, some ⟨nI i, .ro⟩, some ⟨nI j, .ro⟩, some ⟨lN (((l ++ [0]).set i (l.getD i 0 - 1)).set j (l.getD j 0 + 1)), .own⟩, none]) (ds := (((l ++ [0]).set i (l.getD i 0 - 1)).set j (l.getD j 0 + 1)).map nI)
    (by simp [-List.map_append, -List.map_set]) (by simp; omega) (filterG _ _ 4 (fun d => rfl) (by simp))
  refine ⟨_, _, sRet_of (lift_of (d := tN (movedS l i j)) ?_), rfl⟩
  simp only [u1_e, e6, Option.bind_some]
  rw [tupD]
  unfold movedS
  simp [pure_nI]
end T92

set_option Elab.async false
set_option linter.all false
set_option maxRecDepth 100000
set_option maxHeartbeats 4000000
namespace T92
open PySem PySem.Spec PyProof.Rows L2 PV
def rowSteps (l : List Nat) (i : Nat) : List (List Nat) := ((List.range (l.length - i)).filter fun d => isStep l i (i + 1 + d)).map fun d => movedS l i (i + 1 + d)
def stepsU (l : List Nat) : Nat → List (List Nat)
  | 0 => []
  | n + 1 => stepsU l n ++ rowSteps l n
def steps (l : List Nat) : List (List Nat) := isort lexLeN (stepsU l l.length)
theorem isStep_pos {l : List Nat} {i j : Nat} (h : isStep l i j = true) : 2 ≤ l.getD i 0 := by
  unfold isStep at h
  split at h
  · simp only [decide_eq_true_eq] at h; omega
  · simp only [Bool.and_eq_true, decide_eq_true_eq] at h; omega
theorem movedS_ne {l : List Nat} {i j : Nat} (hj : j ≤ l.length) : movedS l i j ≠ [] := by
  have hm : l.getD j 0 + 1 ∈ movedS l i j := by
    unfold movedS
    rw [List.mem_filter]
    refine ⟨?_, by rw [Nat.blt_eq]; omega⟩
    have : (((l ++ [0]).set i (l.getD i 0 - 1)).set j (l.getD j 0 + 1))[j]? = some (l.getD j 0 + 1) := List.getElem?_set_self (by simp; omega)
    exact List.mem_of_getElem? this
  exact List.ne_nil_of_mem hm
theorem rowSteps_len (l : List Nat) (i : Nat) : (rowSteps l i).length ≤ l.length := by
  unfold rowSteps
  rw [List.length_map]
  exact Nat.le_trans (List.length_filter_le _ _) (by simp)
theorem stepsU_len (l : List Nat) : ∀ n, (stepsU l n).length ≤ n * l.length
  | 0 => by simp [stepsU]
  | n + 1 => by
    rw [stepsU, List.length_append, Nat.succ_mul]
    have := stepsU_len l n
    have := rowSteps_len l n
    omega
theorem stepsU_ne {l : List Nat} : ∀ {n}, ∀ s ∈ stepsU l n, s ≠ []
  | 0, s, h => by cases h
  | n + 1, s, h => by
    rw [stepsU] at h
    rcases List.mem_append.mp h with h | h
    · exact stepsU_ne s h
    · unfold rowSteps at h
      obtain ⟨d, hd, rfl⟩ := List.mem_map.mp h
      have := List.mem_range.mp (List.mem_filter.mp hd).1
      exact movedS_ne (by omega)
theorem steps_ne {l : List Nat} : ∀ s ∈ steps l, s ≠ [] := fun s h => stepsU_ne s ((isort_perm lexLeN _).mem_iff.mp h)
theorem steps_eq (l : List Nat) (hl : l.length ≤ 60) : F_steps_down [tN l] = some (.tuple ((steps l).map tN)) := by
  have e0 := len_tN l
  have hr := rng1_nat l.length (by omega)
  refine runF_eq rfl ?_
  show Rts (B_steps_down [some ⟨tN l, .ro⟩, none, none, none, none]) _
  unfold B_steps_down
  refine seqR1 (ρ' := [some ⟨tN l, .ro⟩, some ⟨nI l.length, .own⟩, none, none, none]) (by simp) ?_
  refine seqR1 (ρ' := [some ⟨tN l, .ro⟩, some ⟨nI l.length, .own⟩, some ⟨.list [], .own⟩, none, none]) (by simp) ?_
  refine Nxs.seqR (P1 := fun ρ => ∃ x, ρ = [some ⟨tN l, .ro⟩, some ⟨nI l.length, .own⟩, some ⟨.list ((stepsU l l.length).map tN), .own⟩, x, none]) ?_ ?_
  · refine sFor_of (ds := rangeD 0 l.length) (ρ1 := [some ⟨tN l, .ro⟩, some ⟨nI l.length, .own⟩, some ⟨.list [], .own⟩, none, none]) (by simp [hr]) rfl ?_
    have := forS_rng (p := .nm 3) (b := (sDrop (extendV 2 (lift (eLc (.nm 4) [4] (iR2 (aCons (o2 addD (getS 3) (cst (.int 1))) (aCons (o2 addD (getS 1) (cst (.int 1))) aNil))) (qT (fnE F_is_step (aCons (getS 0) (aCons (getS 3) (aCons (getS 4) aNil))))) (fnE F_moved (aCons (getS 0) (aCons (getS 3) (aCons (getS 4) aNil)))))))))
      (fun k ρ => ∃ x, ρ = [some ⟨tN l, .ro⟩, some ⟨nI l.length, .own⟩, some ⟨.list ((stepsU l k).map tN), .own⟩, x, none] ∧ NP x) l.length [some ⟨tN l, .ro⟩, some ⟨nI l.length, .own⟩, some ⟨.list [], .own⟩, none, none] ⟨none, rfl, NP.none⟩ ?_
    · obtain ⟨ρ, e, x, e2, _⟩ := this
      exact ⟨ρ, e, x, e2⟩
    · rintro k ρ hk ⟨x, rfl, hx⟩
      refine ⟨[some ⟨tN l, .ro⟩, some ⟨nI l.length, .own⟩, some ⟨.list ((stepsU l k).map tN), .own⟩, some ⟨nI k, .ro⟩, none], by simp [setS_np hx], ?_⟩
      have hr2 := rng2_nat (k + 1) (l.length + 1) (by omega) (by omega)
      have hsub : l.length + 1 - (k + 1) = l.length - k := by omega
      rw [hsub] at hr2
      have hr3 : rng2 [.int ((k : Int) + 1), .int ((l.length : Int) + 1)] = some ((List.range (l.length - k)).map fun i => nI (k + 1 + i)) := hr2
      have hlc := lcS_fm (step := stepE (.nm 4) (qT (fnE F_is_step (aCons (getS 0) (aCons (getS 3) (aCons (getS 4) aNil))))) (fnE F_moved (aCons (getS 0) (aCons (getS 3) (aCons (getS 4) aNil)))) (wipR [some ⟨tN l, .ro⟩, some ⟨nI l.length, .own⟩, some ⟨.list ((stepsU l k).map tN), .own⟩, some ⟨nI k, .ro⟩, none] [4]))
        (f := fun i => nI (k + 1 + i)) (g := fun i => if isStep l k (k + 1 + i) = true then some (tN (movedS l k (k + 1 + i))) else none) (ds := List.range (l.length - k)) fun i hi => by
          have hi := List.mem_range.mp hi
          have e1 := step_eq l k (k + 1 + i) hk (by omega) (by omega) (by omega)
          simp only [wipR, stepE_e]
          cases hs : isStep l k (k + 1 + i) with
          | false => rw [hs] at e1; simp [e1]
          | true =>
            rw [hs] at e1
            have e2 := moved_eq l k (k + 1 + i) hk (by omega) (by omega) (by have := isStep_pos hs; omega) (by omega)
            simp [e1, e2]
      have hfm : (List.range (l.length - k)).filterMap (fun i => if isStep l k (k + 1 + i) = true then some (tN (movedS l k (k + 1 + i))) else none) = (rowSteps l k).map tN := by
        unfold rowSteps
        rw [List.map_map]
        generalize List.range (l.length - k) = L
        induction L with
        | nil => rfl
        | cons a L ih =>
          rw [List.filterMap_cons, List.filter_cons, ih]
          cases h : isStep l k (k + 1 + a) <;> simp
      rw [hfm] at hlc
      have e6 := eLc_of (p := .nm 4) (vs := [4]) (hi := iR2 (aCons (o2 addD (getS 3) (cst (.int 1))) (aCons (o2 addD (getS 1) (cst (.int 1))) aNil))) (t := qT (fnE F_is_step (aCons (getS 0) (aCons (getS 3) (aCons (getS 4) aNil))))) (e := fnE F_moved (aCons (getS 0) (aCons (getS 3) (aCons (getS 4) aNil))))
        (ρ := [some ⟨tN l, .ro⟩, some ⟨nI l.length, .own⟩, some ⟨.list ((stepsU l k).map tN), .own⟩, some ⟨nI k, .ro⟩, none]) (by simp [hr3]) (by simp; omega) hlc
      have hlen := stepsU_len l k
      have hlen2 := rowSteps_len l k
      have hb : (stepsU l k).length + (rowSteps l k).length < 1000000 := by
        have : k * l.length ≤ 60 * 60 := Nat.mul_le_mul (by omega) hl
        omega
      refine ⟨_, ?_, some ⟨nI k, .ro⟩, rfl, NP.ro⟩
      simp only [sDrop_e, extendV_e, lift_e, e6, Option.map_some]
      rw [stepsU]
      simp [lstAt, hb]
  · rintro ρ ⟨x, rfl⟩
    have e7 := sort_tNs (L := stepsU l l.length) fun s h => stepsU_ne s h
    refine ⟨_, _, sRet_of (lift_of (d := .tuple ((steps l).map tN)) ?_), rfl⟩
    have hp := pure_tNs (isort lexLeN (stepsU l l.length))
    simp only [u1_e, fnE_e, aCons_e, aNil_e, getS_z, getS_s, e7, Option.bind_some]
    rw [tupD, if_pos hp]
    rfl
end T92

set_option Elab.async false
set_option linter.all false
set_option maxRecDepth 100000
set_option maxHeartbeats 4000000
namespace T92
open PySem PySem.Spec PyProof.Rows L2 PV
/-! partitions, descents -/
def PartN (l : List Nat) : Prop := (∀ x ∈ l, 0 < x) ∧ ∀ k, k + 1 < l.length → l.getD (k + 1) 0 ≤ l.getD k 0
theorem allF_true {ds : List D} (h : ∀ d ∈ ds, d = .bool true) : allF [.list ds] = some (.bool true) := by
  have : ds = ds.map fun _ => .bool true := by
    induction ds with
    | nil => rfl
    | cons d ds ih => rw [List.map_cons, ← ih fun e m => h e (List.mem_cons_of_mem _ m), h d List.mem_cons_self]
  rw [this]
  have := allF_map (ds := ds) (g := fun _ => true)
  rw [this]
  simp
theorem rng1_m1 (n : Nat) (h : n ≤ 1000) : rng1 [.int ((n : Int) - 1)] = some ((List.range (n - 1)).map nI) := by
  cases n with
  | zero => rfl
  | succ n =>
    have := rng1_nat n (by omega)
    rw [show ((n + 1 : Nat) : Int) - 1 = (n : Int) by omega, this, range_nI]
    rfl
theorem part_true {l : List Nat} (h : PartN l) (hl : l.length ≤ 900) : F_is_partition [tN l] = some (.bool true) := by
  have h1 : lcS (stepE (.nm 2) tAll (eand (u1 (isiD "int") (getS 2)) (eand (u1 notT (u1 (isiD "bool") (getS 2))) (o2 gtI (getS 2) (cst (.int 0))))) (wipR [some ⟨tN l, .ro⟩, none, none] [2])) (l.map nI) = some (l.map fun _ => .bool true) :=
    lcS_mapM fun a ha => by
      have := h.1 a ha
      simp [wipR, nI, this]
  have h2 : lcS (stepE (.nm 1) tAll (o2 geI (o2 ixD (getS 0) (getS 1)) (o2 ixD (getS 0) (o2 addD (getS 1) (cst (.int 1))))) (wipR [some ⟨tN l, .ro⟩, none, none] [1])) ((List.range (l.length - 1)).map nI) = some ((List.range (l.length - 1)).map fun _ => .bool true) :=
    lcS_mapM fun k hk => by
      have hk := List.mem_range.mp hk
      have e1 := ix_tN (l := l) (k := k) (by omega)
      have e2 := ix_tN (l := l) (k := k + 1) (by omega)
      have e3 : ixD (tN l) (.int ((k : Int) + 1)) = some (nI (l.getD (k + 1) 0)) := e2
      have := h.2 k (by omega)
      simp only [wipR, stepE_e]
      simp [-List.getD_eq_getElem?_getD, e1, e3]
      omega
  have g1 := eLc_of (p := .nm 2) (vs := [2]) (hi := iS (getS 0)) (t := tAll) (e := eand (u1 (isiD "int") (getS 2)) (eand (u1 notT (u1 (isiD "bool") (getS 2))) (o2 gtI (getS 2) (cst (.int 0))))) (ρ := [some ⟨tN l, .ro⟩, none, none]) (ds := l.map nI) (by simp) (by simp; omega) h1
  have g2 := eLc_of (p := .nm 1) (vs := [1]) (hi := iR1 (aCons (o2 subD (fnE lenF (aCons (getS 0) aNil)) (cst (.int 1))) aNil)) (t := tAll) (e := o2 geI (o2 ixD (getS 0) (getS 1)) (o2 ixD (getS 0) (o2 addD (getS 1) (cst (.int 1))))) (ρ := [some ⟨tN l, .ro⟩, none, none]) (by simp [rng1_m1 l.length (by omega)]) (by simp; omega) h2
  have a1 : allF [.list (l.map fun _ => PyData.bool true)] = some (.bool true) := allF_true fun d m => by obtain ⟨_, _, rfl⟩ := List.mem_map.mp m; rfl
  have a2 : allF [.list ((List.range (l.length - 1)).map fun _ => PyData.bool true)] = some (.bool true) := allF_true fun d m => by obtain ⟨_, _, rfl⟩ := List.mem_map.mp m; rfl
  refine runF_eq rfl ?_
  show Rts (B_is_partition [some ⟨tN l, .ro⟩, none, none]) _
  unfold B_is_partition
  refine seqR1 (ρ' := [some ⟨tN l, .ro⟩, none, none]) (by simp) ?_
  refine seqR1 (ρ' := [some ⟨tN l, .ro⟩, none, none]) (by simp only [sIf_e, lift_e, pnot_e, qT_e, fnE_e, aCons_e, aNil_e, g1, a1]; simp) ?_
  refine ⟨_, _, sRet_of (lift_of (d := .bool true) ?_), rfl⟩
  simp only [fnE_e, aCons_e, aNil_e, g2, a2]
/-- a path -/
structure Path (a b : List Nat) (P : List (List Nat)) : Prop where
  parts : ∀ p ∈ P, PartN p ∧ p.length ≤ 60
  first : P.head? = some a
  last : P.getLast? = some b
  step : ∀ k, k + 1 < P.length → P.getD (k + 1) [] ∈ steps (P.getD k [])
  short : P.length ≤ 900
theorem ix_tNs {P : List (List Nat)} {k : Nat} (h : k < P.length) : ixD (.tuple (P.map tN)) (nI k) = some (tN (P.getD k [])) :=
  ixT (by rw [List.getElem?_map, List.getElem?_eq_getElem h]; simp [List.getD_eq_getElem?_getD, h])
theorem ix_last {ds : List D} {d : D} (h : ds.getLast? = some d) : ixD (.tuple ds) (.int (-1)) = some d := by
  rcases List.eq_nil_or_concat ds with rfl | ⟨ps, x, rfl⟩
  · cases h
  · rw [List.concat_eq_append] at *
    simp at h
    subst h
    show atI (ps ++ [x]) (-1) = some x
    have : ixN (ps ++ [x]).length (-1) = some ps.length := by
      simp [ixN]
      omega
    unfold atI
    rw [this]
    simp
theorem ixl_last {ds : List D} {d : D} (h : ds.getLast? = some d) : ixD (.list ds) (.int (-1)) = some d := by
  rcases List.eq_nil_or_concat ds with rfl | ⟨ps, x, rfl⟩
  · cases h
  · rw [List.concat_eq_append] at *
    simp at h
    subst h
    show atI (ps ++ [x]) (-1) = some x
    have : ixN (ps ++ [x]).length (-1) = some ps.length := by
      simp [ixN]
      omega
    unfold atI
    rw [this]
    simp
theorem descent_is {a b : List Nat} {P : List (List Nat)} (h : Path a b P) : F_is_descent [tN a, tN b, .tuple (P.map tN)] = some (.bool true) := by
  have hP : P ≠ [] := fun z => by rw [z] at h; cases h.first
  have hlen : 0 < P.length := List.length_pos_iff.mpr hP
  have n1 : eqD (.tuple (P.map tN)) (.tuple []) = some (.bool false) := by
    rw [eqD_of (sh_tNs P) (by decide) (Sh.tup (k := 0) (ds := []) fun x m => nomatch m) (by decide), eqv_nil_t]
    cases P with
    | nil => exact absurd rfl hP
    | cons _ _ => rfl
  have h1 : lcS (stepE (.nm 4) tAll (fnE F_is_partition (aCons (getS 4) aNil)) (wipR [some ⟨tN a, .ro⟩, some ⟨tN b, .ro⟩, some ⟨.tuple (P.map tN), .ro⟩, none, none] [4])) (P.map tN) = some (P.map fun _ => .bool true) :=
    lcS_mapM fun p hp => by
      have e := part_true (h.parts p hp).1 (by have := (h.parts p hp).2; omega)
      simp [wipR, e]
  have i0 : ixD (.tuple (P.map tN)) (.int 0) = some (tN a) := by
    have := h.first
    cases P with
    | nil => exact absurd rfl hP
    | cons p P => simp at this; subst this; exact ixT (ds := tN p :: P.map tN) (k := 0) rfl
  have i1 : ixD (.tuple (P.map tN)) (.int (-1)) = some (tN b) := ix_last (by rw [List.getLast?_map, h.last]; rfl)
  have h2 : lcS (stepE (.nm 3) tAll (o2 inD (o2 ixD (getS 2) (o2 addD (getS 3) (cst (.int 1)))) (fnE F_steps_down (aCons (o2 ixD (getS 2) (getS 3)) aNil))) (wipR [some ⟨tN a, .ro⟩, some ⟨tN b, .ro⟩, some ⟨.tuple (P.map tN), .ro⟩, none, none] [3])) ((List.range (P.length - 1)).map nI) = some ((List.range (P.length - 1)).map fun _ => .bool true) :=
    lcS_mapM fun k hk => by
      have hk := List.mem_range.mp hk
      have e1 := ix_tNs (P := P) (k := k) (by omega)
      have e2 := ix_tNs (P := P) (k := k + 1) (by omega)
      have e3 : ixD (.tuple (P.map tN)) (.int ((k : Int) + 1)) = some (tN (P.getD (k + 1) [])) := e2
      have hm : P.getD k [] ∈ P := by
        rw [List.getD_eq_getElem?_getD, List.getElem?_eq_getElem (by omega)]
        exact List.getElem_mem _
      have e4 := steps_eq (P.getD k []) (h.parts _ hm).2
      have e5 := in_tNs (P.getD (k + 1) []) (steps (P.getD k []))
      have e6 : ((steps (P.getD k [])).any fun m => decide (m = P.getD (k + 1) [])) = true := by
        rw [List.any_eq_true]
        exact ⟨_, h.step k (by omega), by simp⟩
      rw [e6] at e5
      simp only [wipR, stepE_e]
      simp [-List.getD_eq_getElem?_getD, e1, e3, e4, e5]
  have g1 := eLc_of (p := .nm 4) (vs := [4]) (hi := iS (getS 2)) (t := tAll) (e := fnE F_is_partition (aCons (getS 4) aNil)) (ρ := [some ⟨tN a, .ro⟩, some ⟨tN b, .ro⟩, some ⟨.tuple (P.map tN), .ro⟩, none, none]) (ds := P.map tN) (by simp) (by have := h.short; simp; omega) h1
  have g2 := eLc_of (p := .nm 3) (vs := [3]) (hi := iR1 (aCons (o2 subD (fnE lenF (aCons (getS 2) aNil)) (cst (.int 1))) aNil)) (t := tAll) (e := o2 inD (o2 ixD (getS 2) (o2 addD (getS 3) (cst (.int 1)))) (fnE F_steps_down (aCons (o2 ixD (getS 2) (getS 3)) aNil)))
    (ρ := [some ⟨tN a, .ro⟩, some ⟨tN b, .ro⟩, some ⟨.tuple (P.map tN), .ro⟩, none, none]) (by simp [rng1_m1 P.length (by have := h.short; omega)]) (by have := h.short; simp; omega) h2
  have a1 : allF [.list (P.map fun _ => PyData.bool true)] = some (.bool true) := allF_true fun d m => by obtain ⟨_, _, rfl⟩ := List.mem_map.mp m; rfl
  have a2 : allF [.list ((List.range (P.length - 1)).map fun _ => PyData.bool true)] = some (.bool true) := allF_true fun d m => by obtain ⟨_, _, rfl⟩ := List.mem_map.mp m; rfl
  have q1 := ne_tN a a
  have q2 := ne_tN b b
  refine runF_eq rfl ?_
  show Rts (B_is_descent [some ⟨tN a, .ro⟩, some ⟨tN b, .ro⟩, some ⟨.tuple (P.map tN), .ro⟩, none, none]) _
  unfold B_is_descent
  refine seqR1 (ρ' := [some ⟨tN a, .ro⟩, some ⟨tN b, .ro⟩, some ⟨.tuple (P.map tN), .ro⟩, none, none]) (by simp only [sIf_e, lift_e, por_e, pnot_e, qT_e, qB_e, u1_e, o2_e, getS_z, getS_s, mkT_e, fnE_e, aCons_e, aNil_e, g1, a1]; simp [n1]) ?_
  refine seqR1 (ρ' := [some ⟨tN a, .ro⟩, some ⟨tN b, .ro⟩, some ⟨.tuple (P.map tN), .ro⟩, none, none]) (by simp [i0, i1, q1, q2]) ?_
  refine ⟨_, _, sRet_of (lift_of (d := .bool true) ?_), rfl⟩
  simp only [fnE_e, aCons_e, aNil_e, g2, a2]
end T92

set_option Elab.async false
set_option linter.all false
set_option maxRecDepth 100000
set_option maxHeartbeats 4000000
namespace T92
open PySem PySem.Spec PyProof.Rows L2 PV
/-! shortage, descent -/
theorem movedS_len (l : List Nat) (i j : Nat) : (movedS l i j).length ≤ l.length + 1 := by
  unfold movedS
  exact Nat.le_trans (List.length_filter_le _ _) (by simp)
theorem stepsU_mlen {l : List Nat} : ∀ {n}, ∀ s ∈ stepsU l n, s.length ≤ l.length + 1
  | 0, s, h => by cases h
  | n + 1, s, h => by
    rw [stepsU] at h
    rcases List.mem_append.mp h with h | h
    · exact stepsU_mlen s h
    · unfold rowSteps at h
      obtain ⟨d, hd, rfl⟩ := List.mem_map.mp h
      exact movedS_len _ _ _
theorem steps_mlen {l : List Nat} : ∀ s ∈ steps l, s.length ≤ l.length + 1 := fun s h => stepsU_mlen s ((isort_perm lexLeN _).mem_iff.mp h)
theorem enum_zip (a b : List Nat) (n : Nat) : enumD (zipD ((psums a n).map nI) ((psums b n).map nI)) = (List.range n).map fun i => .tuple [nI i, .tuple [nI (pre a (i + 1)), nI (pre b (i + 1))]] := by
  have hz : zipD ((psums a n).map nI) ((psums b n).map nI) = (List.range n).map fun i => .tuple [nI (pre a (i + 1)), nI (pre b (i + 1))] := by
    unfold zipD psums
    rw [List.map_map, List.map_map, List.zipWith_map, List.zipWith_self]
    rfl
  rw [hz, enumD_range]
  rw [List.length_map, List.length_range]
  refine List.map_congr_left fun i hi => ?_
  have hi := List.mem_range.mp hi
  congr 3
  rw [List.getD_eq_getElem?_getD, List.getElem?_map, List.getElem?_range hi]
  rfl
theorem short_eq (a b : List Nat) (ha : a.length ≤ 900) (hb : b.length ≤ 900) (h : Dm a b) : F_shortage [tN a, tN b] = some .none := by
  have m1 := max2_nI a.length b.length
  have l1 := len_tN a
  have l2 := len_tN b
  have e1 := sums_eq a (max a.length b.length) (by omega)
  have e2 := sums_eq b (max a.length b.length) (by omega)
  have hz := enum_zip a b (max a.length b.length)
  have hl : lcS (stepE (.tp [.nm 4, .tp [.nm 5, .nm 6]]) (qB (o2 ltD (getS 5) (getS 6))) (o2 addD (getS 4) (cst (.int 1))) (wipR [some ⟨tN a, .ro⟩, some ⟨tN b, .ro⟩, some ⟨nI (max a.length b.length), .own⟩, none, none, none, none] [4, 5, 6])) ((List.range (max a.length b.length)).map fun i => .tuple [nI i, .tuple [nI (pre a (i + 1)), nI (pre b (i + 1))]]) = some ((List.range (max a.length b.length)).filterMap fun _ => none) :=
    lcS_fm fun i _ => by
      have := h.2 (i + 1)
      have h2 : decide (pre a (i + 1) < pre b (i + 1)) = false := decide_eq_false (by omega)
      simp only [wipR, stepE_e]
      simp [-decide_eq_false_iff_not, h2]
  have e3 := eLc_of (p := .tp [.nm 4, .tp [.nm 5, .nm 6]]) (vs := [4, 5, 6]) (hi := iEZ (fnE F_sums_of (aCons (getS 0) (aCons (getS 2) aNil))) (fnE F_sums_of (aCons (getS 1) (aCons (getS 2) aNil)))) (t := qB (o2 ltD (getS 5) (getS 6))) (e := o2 addD (getS 4) (cst (.int 1)))
    (ρ := [some ⟨tN a, .ro⟩, some ⟨tN b, .ro⟩, some ⟨nI (max a.length b.length), .own⟩, none, none, none, none]) (by simp [e1, e2, hz]) (by simp; omega) hl
  have hfm : (List.range (max a.length b.length)).filterMap (fun _ => (none : Option D)) = [] := by
    generalize List.range (max a.length b.length) = L
    induction L with
    | nil => rfl
    | cons a L ih => rw [List.filterMap_cons]; exact ih
  rw [hfm] at e3
  refine runF_eq rfl ?_
  show Rts (B_shortage [some ⟨tN a, .ro⟩, some ⟨tN b, .ro⟩, none, none, none, none, none]) _
  unfold B_shortage
  refine seqR1 (ρ' := [some ⟨tN a, .ro⟩, some ⟨tN b, .ro⟩, some ⟨nI (max a.length b.length), .own⟩, none, none, none, none]) (by simp [m1, l1, l2]) ?_
  refine seqR1 (ρ' := [some ⟨tN a, .ro⟩, some ⟨tN b, .ro⟩, some ⟨nI (max a.length b.length), .own⟩, some ⟨.list [], .own⟩, none, none, none]) (sSet_of (lift_of e3) rfl) ?_
  simp
def nxt (a b : List Nat) : Option (List Nat) := ((steps a).filter fun s => domM s b).head?
def descP : Nat → List Nat → List Nat → Option (List (List Nat))
  | 0, a, b => if a = b then some [a] else none
  | n + 1, a, b => if a = b then some [a] else match nxt a b with
    | none => none
    | some s => (descP n s b).map (a :: ·)
noncomputable abbrev dC : Rh → Option (Bool × Rh) := lift (qB (o2 neD (o2 ixD (getS 3) (u1 negI (cst (.int 1)))) (getS 1)))
noncomputable abbrev dB : Rh → Out := sDrop (appendV 3 (lift (o2 ixD (eLc (.nm 4) [4] (iS (fnE F_steps_down (aCons (o2 ixD (getS 3) (u1 negI (cst (.int 1)))) aNil))) (qT (fnE F_dominates (aCons (getS 4) (aCons (getS 1) aNil)))) (gE (getS 4))) (cst (.int 0)))))
theorem wayIx (W : List (List Nat)) (a : List Nat) : ixD (.list ((W ++ [a]).map tN)) (.int (-1)) = some (tN a) := ixl_last (by simp)
def wR (z b : List Nat) (W : List (List Nat)) : Rh := [some ⟨tN z, .ro⟩, some ⟨tN b, .ro⟩, some ⟨.none, .own⟩, some ⟨.list (W.map tN), .own⟩, none]
theorem fm_dom (L : List (List Nat)) (b : List Nat) : List.filterMap (fun s => if domM s b = true then some (tN s) else none) L = (L.filter fun s => domM s b).map tN := by
  induction L with
  | nil => rfl
  | cons a l ih =>
    rw [List.filterMap_cons, List.filter_cons, ih]
    cases h : domM a b <;> simp
theorem dC_eq (z a b : List Nat) (W : List (List Nat)) : dC (wR z b (W ++ [a])) = some (!decide (a = b), wR z b (W ++ [a])) := by
  have h1 := wayIx W a
  have h2 := ne_tN a b
  unfold dC wR
  simp [-List.map_append, h1, h2]
theorem dB_turn {z a b : List Nat} {W : List (List Nat)} {s : List Nat} (hs : nxt a b = some s) (ha : a.length ≤ 60) (hb : b.length ≤ 900) (hW : W.length < 1000) : dB (wR z b (W ++ [a])) = .nx (wR z b (W ++ [a] ++ [s])) := by
  have h1 := wayIx W a
  have h2 := steps_eq a ha
  have h3 : lcS (stepE (.nm 4) (qT (fnE F_dominates (aCons (getS 4) (aCons (getS 1) aNil)))) (gE (getS 4)) (wipR (wR z b (W ++ [a])) [4])) ((steps a).map tN) = some ((steps a).filterMap fun s => if domM s b = true then some (tN s) else none) :=
    lcS_fm fun s hs => by
      have e := dom_eq s b (by have := steps_mlen s hs; omega) hb
      simp only [wipR, stepE_e]
      unfold wR
      have e9 := pure_nI s
      cases hd : domM s b <;> (rw [hd] at e; simp [-List.map_append, e, e9])
  rw [fm_dom] at h3
  have h4 : (eLc (.nm 4) [4] (iS (fnE F_steps_down (aCons (o2 ixD (getS 3) (u1 negI (cst (.int 1)))) aNil))) (qT (fnE F_dominates (aCons (getS 4) (aCons (getS 1) aNil)))) (gE (getS 4))) (wR z b (W ++ [a])) = some (.list (((steps a).filter fun s => domM s b).map tN)) := by
    refine eLc_of (ds := (steps a).map tN) (by unfold wR; simp [-List.map_append, h1, h2]) ?_ h3
    have := stepsU_len a a.length
    have e := (isort_perm lexLeN (stepsU a a.length)).length_eq
    unfold steps
    rw [List.length_map, e]
    have : a.length * a.length ≤ 60 * 60 := Nat.mul_le_mul ha ha
    omega
  have h5 : ixD (.list (((steps a).filter fun s => domM s b).map tN)) (.int 0) = some (tN s) := by
    unfold nxt at hs
    cases hf : (steps a).filter fun s => domM s b with
    | nil => rw [hf] at hs; cases hs
    | cons q Q => rw [hf] at hs; cases hs; exact ixL (ds := tN s :: Q.map tN) (k := 0) rfl
  unfold dB
  simp only [sDrop_e, appendV_e, lift_e, o2_e, h4, h5, cst_e, Option.map_some]
  unfold wR
  have hl : W.length + 1 + 1 < 1000000 := by omega
  simp [lstAt, List.map_append, hl]
theorem wh_desc {z b : List Nat} (hb : b.length ≤ 900) : ∀ (n : Nat) (a : List Nat) (W P : List (List Nat)), descP n a b = some P → (∀ p ∈ P, p.length ≤ 60) → W.length + n < 1000 → wh dC dB (n + 1) (wR z b (W ++ [a])) = some (.nx (wR z b (W ++ P)))
  | 0, a, W, P, h, hp, hW => by
    unfold descP at h
    split at h
    · rename_i e
      cases h
      unfold wh
      rw [dC_eq]
      simp [e]
    · cases h
  | n + 1, a, W, P, h, hp, hW => by
    unfold descP at h
    split at h
    · rename_i e
      cases h
      unfold wh
      rw [dC_eq]
      simp [e]
    · rename_i e
      split at h
      · cases h
      · rename_i s hs
        cases hq : descP n s b with
        | none => rw [hq] at h; cases h
        | some Q =>
          rw [hq] at h
          cases h
          have := wh_desc (z := z) hb n s (W ++ [a]) Q hq (fun p m => hp p (List.mem_cons_of_mem _ m)) (by simp; omega)
          unfold wh
          rw [dC_eq]
          simp only [e, decide_false, Bool.not_false]
          rw [dB_turn hs (hp a List.mem_cons_self) hb (by omega)]
          simp only
          rw [this, List.append_assoc]
          rfl
theorem desc_eq {a b : List Nat} {P : List (List Nat)} {n : Nat} (ha : a.length ≤ 900) (hb : b.length ≤ 900) (hd : Dm a b) (h : descP n a b = some P) (hp : ∀ p ∈ P, p.length ≤ 60) (hn : n < 1000) : F_descent [tN a, tN b] = some (.tuple [.str "descent", .tuple (P.map tN)]) := by
  have e1 := short_eq a b ha hb hd
  have e2 : sWhile dC dB (wR a b [a]) = .nx (wR a b P) := sWhile_of (n := n + 1) (wh_desc hb n a [] P h hp (by simp; omega)) (by omega)
  have e3 := pure_tNs P
  refine runF_eq rfl ?_
  show Rts (B_descent [some ⟨tN a, .ro⟩, some ⟨tN b, .ro⟩, none, none, none]) _
  unfold B_descent
  refine seqR1 (ρ' := [some ⟨tN a, .ro⟩, some ⟨tN b, .ro⟩, some ⟨.none, .own⟩, none, none]) (by simp [e1]) ?_
  refine seqR1 (ρ' := [some ⟨tN a, .ro⟩, some ⟨tN b, .ro⟩, some ⟨.none, .own⟩, none, none]) (by rfl) ?_
  have e4 := pure_nI a
  refine seqR1 (ρ' := wR a b [a]) (by simp [wR, e4]) ?_
  refine seqR1 (ρ' := wR a b P) e2 ?_
  unfold wR
  simp [tupD, e3]
/-- a descent is a path -/
theorem descP_path : ∀ (n : Nat) (a b : List Nat) (P : List (List Nat)), descP n a b = some P → P.head? = some a ∧ P.getLast? = some b ∧ (∀ k, k + 1 < P.length → P.getD (k + 1) [] ∈ steps (P.getD k [])) ∧ P.length ≤ n + 1
  | 0, a, b, P, h => by
    unfold descP at h
    split at h
    · rename_i e
      cases h
      subst e
      refine ⟨rfl, rfl, fun k hk => ?_, by simp⟩
      simp at hk
    · cases h
  | n + 1, a, b, P, h => by
    unfold descP at h
    split at h
    · rename_i e
      cases h
      subst e
      refine ⟨rfl, rfl, fun k hk => ?_, by simp⟩
      simp at hk
    · split at h
      · cases h
      · rename_i s hs
        cases hq : descP n s b with
        | none => rw [hq] at h; cases h
        | some Q =>
          rw [hq] at h
          cases h
          obtain ⟨q1, q2, q3, q4⟩ := descP_path n s b Q hq
          cases Q with
          | nil => cases q1
          | cons t Q =>
            simp at q1
            subst q1
            refine ⟨rfl, ?_, fun k hk => ?_, by simpa using q4⟩
            · simpa using q2
            · cases k with
              | zero =>
                unfold nxt at hs
                have : t ∈ (steps a).filter fun s => domM s b := List.mem_of_mem_head? (by rw [hs]; rfl)
                simpa using (List.mem_filter.mp this).1
              | succ k => exact q3 k (by simpa using hk)
theorem descP_pathOk {n : Nat} {a b : List Nat} {P : List (List Nat)} (h : descP n a b = some P) (hp : ∀ p ∈ P, PartN p ∧ p.length ≤ 60) (hn : n ≤ 800) : Path a b P := by
  obtain ⟨q1, q2, q3, q4⟩ := descP_path n a b P h
  exact ⟨hp, q1, q2, q3, by omega⟩
end T92

set_option Elab.async false
set_option linter.all false
set_option maxRecDepth 100000
set_option maxHeartbeats 4000000
namespace T92
open PySem PySem.Spec PyProof.Rows L2 PV
/-! a check that the kernel does quickly -/
def dom1 : Nat → Nat → List Nat → Bool
  | s, t, [] => Nat.beq s t
  | s, t, b :: m => match Nat.ble (t + b) s with
    | true => dom1 s (t + b) m
    | false => false
def domR : Nat → Nat → List Nat → List Nat → Bool
  | s, t, [], m => dom1 s t m
  | s, t, a :: l, [] => match Nat.ble t (s + a) with
    | true => domR (s + a) t l []
    | false => false
  | s, t, a :: l, b :: m => match Nat.ble (t + b) (s + a) with
    | true => domR (s + a) (t + b) l m
    | false => false
def beqL : List Nat → List Nat → Bool
  | [], [] => true
  | a :: l, b :: m => match Nat.beq a b with
    | true => beqL l m
    | false => false
  | _, _ => false
def gat : List Nat → Nat → Nat
  | [], _ => 0
  | a :: l, 0 => a
  | a :: l, k + 1 => gat l k
def isStepF (l : List Nat) (i j : Nat) : Bool :=
  match Nat.beq j (i + 1) with
  | true => Nat.ble (gat l j + 2) (gat l i)
  | false => match Nat.beq (gat l i) (gat l j + 2) with
    | true => (List.range (j - (i + 1))).all fun k => Nat.beq (gat l (i + 1 + k) + 1) (gat l i)
    | false => false
def rowStepsF (l : List Nat) (i : Nat) : List (List Nat) := ((List.range (l.length - i)).filter fun d => isStepF l i (i + 1 + d)).map fun d => movedS l i (i + 1 + d)
def stepsUF (l : List Nat) : Nat → List (List Nat)
  | 0 => []
  | n + 1 => stepsUF l n ++ rowStepsF l n
def stepsF (l : List Nat) : List (List Nat) := isort lexLeN (stepsUF l l.length)
def nxtF (a b : List Nat) : Option (List Nat) := ((stepsF a).filter fun s => domR 0 0 s b).head?
def partB : List Nat → Bool
  | [] => true
  | [a] => Nat.blt 0 a
  | a :: b :: l => match Nat.ble b a with
    | true => partB (b :: l)
    | false => false
def okP : Nat → List Nat → List Nat → Bool
  | 0, a, b => match partB a with
    | true => beqL a b
    | false => false
  | n + 1, a, b => match partB a with
    | false => false
    | true => match beqL a b with
      | true => true
      | false => match nxtF a b with
        | none => false
        | some s => okP n s b
def stairs (n : Nat) : List Nat := (List.range (n - 1)).map fun k => n - 1 - k
def rowsE : Nat → Nat → Nat → List (List Nat)
  | 0, t, _ => match Nat.beq t 0 with | true => [[]] | false => []
  | c + 1, t, m => match Nat.beq t 0 with
    | true => [[]]
    | false => (List.range (min t m)).flatMap fun k => (rowsE c (t - (k + 1)) (k + 1)).map fun r => (k + 1) :: r
def okRow (n : Nat) (r : List Nat) : Bool := match domR 0 0 (stairs n) r with
  | false => true
  | true => match okP 50 (stairs n) r with
    | false => false
    | true => (stepsF r).all fun s => match partB s with
      | false => false
      | true => match Nat.blt n s.length with
        | true => true
        | false => domR 0 0 (stairs n) s
def okN (n : Nat) : Bool := (rowsE n (n * (n - 1) / 2) (n - 1)).all (okRow n)
/-! ### it says what the plain law says -/
theorem pre_z (l : List Nat) : pre l 0 = 0 := by simp [pre]
theorem pre_cons (a : Nat) (l : List Nat) (k : Nat) : pre (a :: l) (k + 1) = a + pre l k := by simp [pre]
theorem pre_nil (k : Nat) : pre [] k = 0 := by simp [pre]
theorem nble {a b : Nat} : Nat.ble a b = true ↔ a ≤ b := by rw [Nat.ble_eq]
theorem nbleF {a b : Nat} : Nat.ble a b = false ↔ ¬ a ≤ b := by rw [← Bool.not_eq_true, nble]
theorem nbeq {a b : Nat} : Nat.beq a b = true ↔ a = b := by rw [Nat.beq_eq]
theorem nbeqF {a b : Nat} : Nat.beq a b = false ↔ ¬ a = b := by rw [← Bool.not_eq_true, nbeq]
theorem dom1_iff : ∀ (m : List Nat) (s t : Nat), t ≤ s → (dom1 s t m = true ↔ s = t + m.sum ∧ ∀ k, t + pre m k ≤ s)
  | [], s, t, h => by
    unfold dom1
    rw [nbeq]
    constructor
    · intro e; exact ⟨by simpa using e, fun k => by rw [pre_nil]; exact h⟩
    · intro e; simpa using e.1
  | b :: m, s, t, h => by
    unfold dom1
    by_cases hb : t + b ≤ s
    · rw [nble.mpr hb]
      simp only
      rw [dom1_iff m s (t + b) hb]
      refine and_congr (by simp; omega) ⟨fun e k => ?_, fun e k => ?_⟩
      · cases k with
        | zero => rw [pre_z]; exact h
        | succ k => rw [pre_cons]; have := e k; omega
      · have := e (k + 1); rw [pre_cons] at this; omega
    · rw [nbleF.mpr hb]
      simp only [Bool.false_eq_true, false_iff]
      rintro ⟨_, e⟩
      have := e 1
      rw [pre_cons, pre_z] at this
      omega
theorem domR_iff : ∀ (l m : List Nat) (s t : Nat), t ≤ s → (domR s t l m = true ↔ s + l.sum = t + m.sum ∧ ∀ k, t + pre m k ≤ s + pre l k)
  | [], m, s, t, h => by
    unfold domR
    rw [dom1_iff m s t h]
    refine and_congr (by simp) ⟨fun e k => by rw [pre_nil]; exact e k, fun e k => by have := e k; rw [pre_nil] at this; exact this⟩
  | a :: l, [], s, t, h => by
    unfold domR
    have hb : t ≤ s + a := by omega
    rw [nble.mpr hb]
    simp only
    rw [domR_iff l [] (s + a) t hb]
    refine and_congr (by simp; omega) ⟨fun e k => by rw [pre_nil]; omega, fun e k => by rw [pre_nil]; omega⟩
  | a :: l, b :: m, s, t, h => by
    unfold domR
    by_cases hb : t + b ≤ s + a
    · rw [nble.mpr hb]
      simp only
      rw [domR_iff l m (s + a) (t + b) hb]
      refine and_congr (by simp; omega) ⟨fun e k => ?_, fun e k => ?_⟩
      · cases k with
        | zero => rw [pre_z, pre_z]; omega
        | succ k => rw [pre_cons, pre_cons]; have := e k; omega
      · have := e (k + 1); rw [pre_cons, pre_cons] at this; omega
    · rw [nbleF.mpr hb]
      simp only [Bool.false_eq_true, false_iff]
      rintro ⟨_, e⟩
      have := e 1
      rw [pre_cons, pre_z, pre_cons, pre_z] at this
      omega
theorem domR_dm (a b : List Nat) : domR 0 0 a b = true ↔ Dm a b := by
  rw [domR_iff a b 0 0 (Nat.le_refl _)]
  unfold Dm
  simp
theorem domR_eq (a b : List Nat) : domR 0 0 a b = domM a b := by
  rw [Bool.eq_iff_iff, domR_dm, domM_iff]
theorem beqL_iff : ∀ a b : List Nat, beqL a b = true ↔ a = b
  | [], [] => by simp [beqL]
  | [], _ :: _ => by simp [beqL]
  | _ :: _, [] => by simp [beqL]
  | a :: l, b :: m => by
    unfold beqL
    by_cases h : a = b
    · rw [nbeq.mpr h]; simp only; rw [beqL_iff l m]; simp [h]
    · rw [nbeqF.mpr h]; simp [h]
theorem gat_eq : ∀ (l : List Nat) (k : Nat), gat l k = l.getD k 0
  | [], k => by simp [gat]
  | a :: l, 0 => by simp [gat]
  | a :: l, k + 1 => by rw [gat, gat_eq l k]; simp
theorem isStepF_eq (l : List Nat) (i j : Nat) : isStepF l i j = isStep l i j := by
  unfold isStepF isStep
  simp only [gat_eq]
  by_cases h : j = i + 1
  · rw [nbeq.mpr h, if_pos h]
    simp only
    rw [Bool.eq_iff_iff, nble, decide_eq_true_eq]
  · rw [nbeqF.mpr h, if_neg h]
    simp only
    by_cases h2 : l.getD i 0 = l.getD j 0 + 2
    · rw [nbeq.mpr h2, decide_eq_true h2, Bool.true_and]
      simp only
      congr 1
      funext k
      rw [Bool.eq_iff_iff, nbeq, decide_eq_true_eq]
    · rw [nbeqF.mpr h2, decide_eq_false h2, Bool.false_and]
theorem stepsUF_eq (l : List Nat) : ∀ n, stepsUF l n = stepsU l n
  | 0 => rfl
  | n + 1 => by
    rw [stepsUF, stepsU, stepsUF_eq l n]
    unfold rowStepsF rowSteps
    simp only [isStepF_eq]
theorem stepsF_eq (l : List Nat) : stepsF l = steps l := by unfold stepsF steps; rw [stepsUF_eq]
theorem nxtF_eq (a b : List Nat) : nxtF a b = nxt a b := by
  unfold nxtF nxt
  rw [stepsF_eq]
  simp only [domR_eq]
theorem partB_iff : ∀ l : List Nat, partB l = true → PartN l
  | [], _ => ⟨fun x m => (nomatch m), fun k hk => by simp at hk⟩
  | [a], h => by
    unfold partB at h
    refine ⟨fun x m => ?_, fun k hk => by simp at hk⟩
    rw [List.mem_singleton.mp m]
    exact Nat.blt_eq.mp h
  | a :: b :: l, h => by
    unfold partB at h
    by_cases hb : b ≤ a
    · rw [nble.mpr hb] at h
      obtain ⟨h1, h2⟩ := partB_iff (b :: l) h
      refine ⟨fun x m => ?_, fun k hk => ?_⟩
      · rcases List.mem_cons.mp m with rfl | m
        · have := h1 b List.mem_cons_self; omega
        · exact h1 x m
      · cases k with
        | zero => simpa using hb
        | succ k => exact h2 k (by simpa using hk)
    · rw [nbleF.mpr hb] at h; cases h
theorem okP_of : ∀ (n : Nat) (a b : List Nat), okP n a b = true → a.length + n ≤ 60 → ∃ P, descP n a b = some P ∧ ∀ p ∈ P, PartN p ∧ p.length ≤ 60
  | 0, a, b, h, hl => by
    unfold okP at h
    cases hp : partB a with
    | false => rw [hp] at h; cases h
    | true =>
      rw [hp] at h
      have e := (beqL_iff a b).mp h
      refine ⟨[a], by unfold descP; rw [if_pos e], fun p m => ?_⟩
      rw [List.mem_singleton.mp m]
      exact ⟨partB_iff a hp, by omega⟩
  | n + 1, a, b, h, hl => by
    unfold okP at h
    cases hp : partB a with
    | false => rw [hp] at h; cases h
    | true =>
      rw [hp] at h
      simp only at h
      cases hq : beqL a b with
      | true =>
        have e := (beqL_iff a b).mp hq
        refine ⟨[a], by unfold descP; rw [if_pos e], fun p m => ?_⟩
        rw [List.mem_singleton.mp m]
        exact ⟨partB_iff a hp, by omega⟩
      | false =>
        have e : ¬ a = b := fun z => by rw [(beqL_iff a b).mpr z] at hq; cases hq
        rw [hq, nxtF_eq] at h
        simp only at h
        cases hs : nxt a b with
        | none => rw [hs] at h; cases h
        | some s =>
          rw [hs] at h
          have hm : s ∈ steps a := by
            unfold nxt at hs
            exact (List.mem_filter.mp (List.mem_of_mem_head? (by rw [hs]; rfl))).1
          have := steps_mlen s hm
          obtain ⟨P, e1, e2⟩ := okP_of n s b h (by omega)
          refine ⟨a :: P, by unfold descP; rw [if_neg e]; simp only [hs, e1, Option.map_some], fun p m => ?_⟩
          rcases List.mem_cons.mp m with rfl | m
          · exact ⟨partB_iff _ hp, by omega⟩
          · exact e2 p m
theorem rowsE_mem : ∀ (c t m : Nat) (r : List Nat), r.Pairwise (· ≥ ·) → (∀ x ∈ r, 0 < x) → r.length ≤ c → r.sum = t → (∀ x ∈ r, x ≤ m) → r ∈ rowsE c t m
  | 0, t, m, r, h1, h2, h3, h4, h5 => by
    have : r = [] := List.length_eq_zero_iff.mp (by omega)
    subst this
    subst h4
    simp [rowsE]
  | c + 1, t, m, [], h1, h2, h3, h4, h5 => by
    subst h4
    simp [rowsE]
  | c + 1, t, m, a :: r, h1, h2, h3, h4, h5 => by
    have ha := h2 a List.mem_cons_self
    have hs : a + r.sum = t := by rw [← h4]; simp
    have ht : ¬ t = 0 := by omega
    unfold rowsE
    rw [nbeqF.mpr ht]
    simp only
    rw [List.mem_flatMap]
    rw [List.pairwise_cons] at h1
    refine ⟨a - 1, List.mem_range.mpr ?_, ?_⟩
    · have := h5 a List.mem_cons_self
      omega
    · rw [show a - 1 + 1 = a by omega]
      refine List.mem_map.mpr ⟨r, rowsE_mem c (t - a) a r h1.2 (fun x m => h2 x (List.mem_cons_of_mem _ m)) (by simpa using h3) (by omega) (fun x m => h1.1 x m), rfl⟩
theorem okRow_of {n : Nat} {r : List Nat} (hn : n ≤ 9) (h : okRow n r = true) (hd : Dm (stairs n) r) : (∃ P, descP 50 (stairs n) r = some P ∧ ∀ p ∈ P, PartN p ∧ p.length ≤ 60) ∧ ∀ s ∈ steps r, PartN s ∧ (s.length ≤ n → Dm (stairs n) s) := by
  unfold okRow at h
  rw [(domR_dm (stairs n) r).mpr hd] at h
  simp only at h
  cases hp : okP 50 (stairs n) r with
  | false => rw [hp] at h; cases h
  | true =>
    rw [hp, stepsF_eq] at h
    simp only at h
    refine ⟨okP_of 50 _ _ hp (by simp [stairs]; omega), fun s m => ?_⟩
    have := List.all_eq_true.mp h s m
    cases hq : partB s with
    | false => rw [hq] at this; cases this
    | true =>
      rw [hq] at this
      simp only at this
      refine ⟨partB_iff s hq, fun hl => ?_⟩
      cases hb : Nat.blt n s.length with
      | true => have := Nat.blt_eq.mp hb; omega
      | false =>
        rw [hb] at this
        exact (domR_dm _ _).mp this
theorem okN_of {n : Nat} {r : List Nat} (hn : n ≤ 9) (h1 : 1 ≤ n) (hs : (stairs n).sum = n * (n - 1) / 2) (h : okN n = true) (p1 : r.Pairwise (· ≥ ·)) (p2 : ∀ x ∈ r, 0 < x) (p3 : r.length ≤ n) (hd : Dm (stairs n) r) : (∃ P, descP 50 (stairs n) r = some P ∧ ∀ p ∈ P, PartN p ∧ p.length ≤ 60) ∧ ∀ s ∈ steps r, PartN s ∧ (s.length ≤ n → Dm (stairs n) s) := by
  refine okRow_of hn ?_ hd
  unfold okN at h
  refine List.all_eq_true.mp h r (rowsE_mem _ _ _ r p1 p2 p3 (by rw [← hs]; exact hd.1.symm) fun x m => ?_)
  cases r with
  | nil => cases m
  | cons a r =>
    have e := hd.2 1
    rw [pre_cons, pre_z] at e
    have e2 : pre (stairs n) 1 ≤ n - 1 := by
      unfold stairs pre
      cases n with
      | zero => omega
      | succ n =>
        cases n with
        | zero => simp
        | succ n => simp [List.range_succ_eq_map]
    rw [List.pairwise_cons] at p1
    rcases List.mem_cons.mp m with rfl | m
    · omega
    · have := p1.1 x m
      simp at this
      omega
end T92

set_option Elab.async false
set_option linter.all false
set_option maxRecDepth 100000
set_option maxHeartbeats 4000000
namespace T92
open PySem PySem.Spec PyProof.Rows L2 PV
theorem okN1 : okN 1 = true := by decide +kernel
theorem okN2 : okN 2 = true := by decide +kernel
theorem okN3 : okN 3 = true := by decide +kernel
theorem okN4 : okN 4 = true := by decide +kernel
theorem okN5 : okN 5 = true := by decide +kernel
theorem okN6 : okN 6 = true := by decide +kernel
theorem okN7 : okN 7 = true := by decide +kernel
theorem okN8 : okN 8 = true := by decide +kernel
theorem okN9 : okN 9 = true := by decide +kernel
theorem rows_ok {n : Nat} {r : List Nat} (hn : n ≤ 9) (h1 : 1 ≤ n) (p1 : r.Pairwise (· ≥ ·)) (p2 : ∀ x ∈ r, 0 < x) (p3 : r.length ≤ n) (hd : Dm (stairs n) r) : (∃ P, descP 50 (stairs n) r = some P ∧ ∀ p ∈ P, PartN p ∧ p.length ≤ 60) ∧ ∀ s ∈ steps r, PartN s ∧ (s.length ≤ n → Dm (stairs n) s) := by
  have hs : n = 1 ∨ n = 2 ∨ n = 3 ∨ n = 4 ∨ n = 5 ∨ n = 6 ∨ n = 7 ∨ n = 8 ∨ n = 9 := by omega
  rcases hs with rfl | rfl | rfl | rfl | rfl | rfl | rfl | rfl | rfl
  · exact okN_of hn h1 (by decide) okN1 p1 p2 p3 hd
  · exact okN_of hn h1 (by decide) okN2 p1 p2 p3 hd
  · exact okN_of hn h1 (by decide) okN3 p1 p2 p3 hd
  · exact okN_of hn h1 (by decide) okN4 p1 p2 p3 hd
  · exact okN_of hn h1 (by decide) okN5 p1 p2 p3 hd
  · exact okN_of hn h1 (by decide) okN6 p1 p2 p3 hd
  · exact okN_of hn h1 (by decide) okN7 p1 p2 p3 hd
  · exact okN_of hn h1 (by decide) okN8 p1 p2 p3 hd
  · exact okN_of hn h1 (by decide) okN9 p1 p2 p3 hd
end T92

set_option Elab.async false
set_option linter.all false
set_option maxRecDepth 100000
set_option maxHeartbeats 4000000
namespace T92
open PySem PySem.Spec PyProof.Rows L2 PV
/-! clashes -/
def gN (k : Nat) : Nat := k * (k - 1) / 2
theorem mulD_small {i j : Int} (h : i.natAbs < 18446744073709551616) : mulD (.int i) (.int j) = some (.int (i * j)) := by
  unfold mulD alt mulI
  simp [h]
theorem fdivD_two (i : Int) : fdivD (.int i) (.int 2) = some (.int (i / 2)) := by
  show (if (0 : Int) < 2 ∧ (2 : Int).natAbs.log2 < 9000 then some (PyData.int (i / 2)) else none) = _
  rw [if_pos ⟨by decide, by decide +kernel⟩]
theorem gN_int (k : Nat) : ((k : Int) * ((k : Int) - 1)) / 2 = ((gN k : Nat) : Int) := by
  unfold gN
  cases k with
  | zero => rfl
  | succ k =>
    have : ((k + 1 : Nat) : Int) - 1 = (k : Int) := by omega
    rw [this, Nat.add_sub_cancel]
    norm_cast
theorem games_eq (k : Nat) (h : k ≤ 1000) : F_games_of [nI k] = some (nI (gN k)) := by
  have e1 : mulD (nI k) (.int ((k : Int) - 1)) = some (.int ((k : Int) * ((k : Int) - 1))) := mulD_small (by omega)
  refine runF_eq rfl ?_
  show Rts (B_games_of [some ⟨nI k, .ro⟩]) _
  unfold B_games_of
  simp [e1, fdivD_two, gN_int]
theorem count_eq (i m : Nat) (h : i ≤ m) : F_is_count [nI i, .int 0, nI m] = some (.bool true) := by
  refine runF_eq rfl ?_
  show Rts (B_is_count [some ⟨nI i, .ro⟩, some ⟨.int 0, .ro⟩, some ⟨nI m, .ro⟩]) _
  unfold B_is_count
  simp [h]
def toldS (s V : List Nat) : Nat := (V.map fun i => s.getD i 0).sum
def clashB (s : List Nat) (k told : Nat) : Bool := decide (told < gN k) || decide (gN k + k * (s.length - k) < told)
theorem clash_eq (s V : List Nat) (hne : V ≠ []) (hV : ∀ v ∈ V, v < s.length) (hasc : ∀ k, k + 1 < V.length → V.getD k 0 < V.getD (k + 1) 0) (hl : V.length ≤ s.length) (hs : s.length ≤ 60) : F_is_clash [tN s, tN V] = some (.bool (clashB s V.length (toldS s V))) := by
  have l1 := len_tN s
  have l2 := len_tN V
  have n1 : eqD (tN V) (.tuple []) = some (.bool false) := by
    rw [eqD_of (sh_tN V) (by decide) (Sh.tup (k := 0) (ds := []) fun x m => nomatch m) (by decide), eqv_nil_t]
    cases V with
    | nil => exact absurd rfl hne
    | cons _ _ => rfl
  have h1 : lcS (stepE (.nm 5) tAll (fnE F_is_count (aCons (getS 5) (aCons (cst (.int 0)) (aCons (o2 subD (getS 2) (cst (.int 1))) aNil)))) (wipR [some ⟨tN s, .ro⟩, some ⟨tN V, .ro⟩, some ⟨nI s.length, .own⟩, none, none, none] [5])) (V.map nI) = some (V.map fun _ => .bool true) :=
    lcS_mapM fun v hv => by
      have := hV v hv
      have e := count_eq v (s.length - 1) (by omega)
      have e2 : nI (s.length - 1) = PyData.int ((s.length : Int) - 1) := by rw [nI]; congr 1; omega
      rw [e2] at e
      simp [wipR, e]
  have h2 : lcS (stepE (.nm 3) tAll (o2 ltD (o2 ixD (getS 1) (getS 3)) (o2 ixD (getS 1) (o2 addD (getS 3) (cst (.int 1))))) (wipR [some ⟨tN s, .ro⟩, some ⟨tN V, .ro⟩, some ⟨nI s.length, .own⟩, none, none, none] [3])) ((List.range (V.length - 1)).map nI) = some ((List.range (V.length - 1)).map fun _ => .bool true) :=
    lcS_mapM fun k hk => by
      have hk := List.mem_range.mp hk
      have e1 := ix_tN (l := V) (k := k) (by omega)
      have e2 := ix_tN (l := V) (k := k + 1) (by omega)
      have e3 : ixD (tN V) (.int ((k : Int) + 1)) = some (nI (V.getD (k + 1) 0)) := e2
      have := hasc k (by omega)
      simp only [wipR, stepE_e]
      simp [-List.getD_eq_getElem?_getD, e1, e3]
      omega
  have h3 : lcS (stepE (.nm 5) tAll (gE (o2 ixD (getS 0) (getS 5))) (wipR [some ⟨tN s, .ro⟩, some ⟨tN V, .ro⟩, some ⟨nI s.length, .own⟩, none, none, none] [5])) (V.map nI) = some (V.map fun v => nI (s.getD v 0)) :=
    lcS_mapM fun v hv => by
      have e1 := ix_tN (l := s) (k := v) (hV v hv)
      simp only [wipR, stepE_e]
      simp [-List.getD_eq_getElem?_getD, e1]
  have g1 := eLc_of (p := .nm 5) (vs := [5]) (hi := iS (getS 1)) (t := tAll) (e := fnE F_is_count (aCons (getS 5) (aCons (cst (.int 0)) (aCons (o2 subD (getS 2) (cst (.int 1))) aNil)))) (ρ := [some ⟨tN s, .ro⟩, some ⟨tN V, .ro⟩, some ⟨nI s.length, .own⟩, none, none, none]) (ds := V.map nI) (by simp) (by simp; omega) h1
  have g2 := eLc_of (p := .nm 3) (vs := [3]) (hi := iR1 (aCons (o2 subD (fnE lenF (aCons (getS 1) aNil)) (cst (.int 1))) aNil)) (t := tAll) (e := o2 ltD (o2 ixD (getS 1) (getS 3)) (o2 ixD (getS 1) (o2 addD (getS 3) (cst (.int 1)))))
    (ρ := [some ⟨tN s, .ro⟩, some ⟨tN V, .ro⟩, some ⟨nI s.length, .own⟩, none, none, none]) (by simp [rng1_m1 V.length (by omega)]) (by simp; omega) h2
  have g3 := eLc_of (p := .nm 5) (vs := [5]) (hi := iS (getS 1)) (t := tAll) (e := gE (o2 ixD (getS 0) (getS 5))) (ρ := [some ⟨tN s, .ro⟩, some ⟨tN V, .ro⟩, some ⟨nI s.length, .own⟩, none, none, none]) (ds := V.map nI) (by simp) (by simp; omega) h3
  have a1 : allF [.list (V.map fun _ => PyData.bool true)] = some (.bool true) := allF_true fun d m => by obtain ⟨_, _, rfl⟩ := List.mem_map.mp m; rfl
  have a2 : allF [.list ((List.range (V.length - 1)).map fun _ => PyData.bool true)] = some (.bool true) := allF_true fun d m => by obtain ⟨_, _, rfl⟩ := List.mem_map.mp m; rfl
  have a3 : sumF [.list (V.map fun v => nI (s.getD v 0))] = some (nI (toldS s V)) := by
    have := sum_lN (V.map fun i => s.getD i 0)
    rw [lN, List.map_map] at this
    exact this
  have q1 := games_eq V.length (by omega)
  have q2 : mulD (nI V.length) (.int ((s.length : Int) - (V.length : Int))) = some (nI (V.length * (s.length - V.length))) := by
    rw [mulD_small (by omega), nI]
    congr 2
    have : ((s.length : Int) - (V.length : Int)) = ((s.length - V.length : Nat) : Int) := by omega
    rw [this]
    norm_cast
  have q0 : subD (nI s.length) (nI V.length) = some (.int ((s.length : Int) - (V.length : Int))) := subD_int _ _
  have f1 : ltD (nI (toldS s V)) (nI (gN V.length)) = some (.bool (decide (toldS s V < gN V.length))) := by simp
  have f2 : addD (nI (gN V.length)) (nI (V.length * (s.length - V.length))) = some (nI (gN V.length + V.length * (s.length - V.length))) := by simp [-Int.natCast_mul]
  have f3 : gtI (nI (toldS s V)) (nI (gN V.length + V.length * (s.length - V.length))) = some (.bool (decide (gN V.length + V.length * (s.length - V.length) < toldS s V))) := by
    rw [gtI_int]
    congr 2
    rw [decide_eq_decide]
    omega
  refine runF_eq rfl ?_
  show Rts (B_is_clash [some ⟨tN s, .ro⟩, some ⟨tN V, .ro⟩, none, none, none, none]) _
  unfold B_is_clash
  refine seqR1 (ρ' := [some ⟨tN s, .ro⟩, some ⟨tN V, .ro⟩, some ⟨nI s.length, .own⟩, none, none, none]) (by simp [l1]) ?_
  refine seqR1 (ρ' := [some ⟨tN s, .ro⟩, some ⟨tN V, .ro⟩, some ⟨nI s.length, .own⟩, none, none, none]) (by simp only [sIf_e, lift_e, por_e, pnot_e, qT_e, qB_e, u1_e, o2_e, getS_z, getS_s, mkT_e, fnE_e, aCons_e, aNil_e, g1, a1]; simp [n1]) ?_
  refine seqR1 (ρ' := [some ⟨tN s, .ro⟩, some ⟨tN V, .ro⟩, some ⟨nI s.length, .own⟩, none, none, none]) (by simp only [sIf_e, lift_e, pnot_e, qT_e, fnE_e, aCons_e, aNil_e, g2, a2]; simp) ?_
  refine seqR1 (ρ' := [some ⟨tN s, .ro⟩, some ⟨tN V, .ro⟩, some ⟨nI s.length, .own⟩, some ⟨nI V.length, .own⟩, some ⟨nI (toldS s V), .own⟩, none]) (by simp only [sPar_e, bCons_e, bNil_e, lift_e, fnE_e, aCons_e, aNil_e, getS_z, getS_s, l2, Option.map_some, g3, a3]; simp) ?_
  refine ⟨_, _, sRet_of (lift_of (d := .bool (clashB s V.length (toldS s V))) ?_), rfl⟩
  unfold clashB
  simp only [eor_e, o2_e, getS_z, getS_s, fnE_e, aCons_e, aNil_e, q0, q1, q2, f1, f2, f3]
  cases decide (toldS s V < gN V.length) <;> simp
end T92

set_option Elab.async false
set_option linter.all false
set_option maxRecDepth 100000
set_option maxHeartbeats 4000000
namespace T92
open PySem PySem.Spec PyProof.Rows L2 PV
/-! by score, a clash, score rows -/
def ordLe (s : List Nat) (i j : Nat) : Bool := lexLeN [s.getD i 0, i] [s.getD j 0, j]
def order (s : List Nat) : List Nat := isort (ordLe s) (List.range s.length)
theorem ordLe_iff (s : List Nat) (i j : Nat) : ordLe s i j = true ↔ (s.getD i 0 < s.getD j 0 ∨ (s.getD i 0 = s.getD j 0 ∧ i ≤ j)) := by
  unfold ordLe lexLeN lexLtN
  generalize s.getD i 0 = a
  generalize s.getD j 0 = b
  by_cases h1 : b < a
  · rw [Nat.blt_eq.mpr h1]; simp; omega
  · have e1 : Nat.blt b a = false := by rw [← Bool.not_eq_true, Nat.blt_eq]; exact h1
    rw [e1]
    by_cases h2 : b = a
    · rw [nbeq.mpr h2]
      subst h2
      simp only [lexLtN]
      by_cases h3 : j < i
      · rw [Nat.blt_eq.mpr h3]; simp; omega
      · have e3 : Nat.blt j i = false := by rw [← Bool.not_eq_true, Nat.blt_eq]; exact h3
        rw [e3]
        cases h4 : Nat.beq j i <;> simp [lexLtN] <;> omega
    · rw [nbeqF.mpr h2]; simp; omega
theorem order_perm (s : List Nat) : (order s).Perm (List.range s.length) := isort_perm _ _
theorem order_len (s : List Nat) : (order s).length = s.length := by rw [(order_perm s).length_eq, List.length_range]
theorem order_sorted (s : List Nat) : (order s).Pairwise (fun i j => ordLe s i j = true) :=
  isort_sorted (fun a b c h k => by rw [ordLe_iff] at *; omega) (fun a b => by rw [ordLe_iff, ordLe_iff]; omega) _
theorem map_range_getD (s : List Nat) : (List.range s.length).map (fun i => s.getD i 0) = s := by
  refine List.ext_getElem (by simp) fun i h1 h2 => ?_
  simp [List.getD_eq_getElem?_getD, h2]
theorem order_scores (s : List Nat) : (order s).map (fun i => s.getD i 0) = isort leN s := by
  refine (isort_of_le ?_ ?_).symm
  · rw [List.pairwise_map]
    exact (order_sorted s).imp fun {a b} h => by rw [ordLe_iff] at h; omega
  · have := (order_perm s).map (fun i => s.getD i 0)
    rw [map_range_getD] at this
    exact this
theorem by_eq (s : List Nat) (hs : s.length ≤ 900) : F_by_score [tN s] = some (lN (order s)) := by
  have l1 := len_tN s
  have hk : keysD 1 (mkT (aCons (gE (o2 ixD (getS 0) (getS 1))) (aCons (gE (getS 1)) aNil))) [some ⟨tN s, .ro⟩, none] ((List.range s.length).map nI) = some ((List.range s.length).map fun i => tN [s.getD i 0, i]) :=
    keysD_map fun i hi => by
      have e := ix_tN (List.mem_range.mp hi)
      simp [-List.getD_eq_getElem?_getD, e]
  have ho : okSort ((List.range s.length).map fun i => tN [s.getD i 0, i]) = true := by
    have := okSort_tNs (L := (List.range s.length).map fun i => [s.getD i 0, i]) fun l m => by
      obtain ⟨i, _, rfl⟩ := List.mem_map.mp m
      exact List.cons_ne_nil _ _
    rw [List.map_map] at this
    exact this
  have hz : ((List.range s.length).map nI).zip ((List.range s.length).map fun i => tN [s.getD i 0, i]) = (List.range s.length).map fun i => (nI i, tN [s.getD i 0, i]) := by
    rw [List.zip_map', ]
  have hs2 : sortKD ((List.range s.length).map nI) ((List.range s.length).map fun i => tN [s.getD i 0, i]) = (order s).map nI := by
    unfold sortKD
    rw [hz, isort_map (s := ordLe s) (fun i => (nI i, tN [s.getD i 0, i])) (fun a b => dataLe_tN _ _), List.map_map]
    rfl
  refine runF_eq rfl ?_
  show Rts (B_by_score [some ⟨tN s, .ro⟩, none]) _
  unfold B_by_score
  refine ⟨_, _, sRet_of (lift_of (d := lN (order s)) ?_), rfl⟩
  rw [sortKG_e]
  simp only [fnE_e, aCons_e, aNil_e, getS_z, l1]
  rw [if_pos (by omega)]
  unfold sortKR
  rw [show (s.length : Int).toNat = s.length from rfl, range_nI, if_pos ⟨pure_nI _, by simp; omega⟩]
  simp only [hk]
  rw [if_pos ho, hs2]
def isCl (s V : List Nat) : Bool := clashB s V.length (toldS s V)
def two (s : List Nat) (i : Nat) : List (List Nat) := [(order s).take (1 + i), (order s).drop (s.length - (1 + i))]
def anyCl (s : List Nat) : Bool := (List.range s.length).any fun i => (two s i).any (isCl s)
theorem toldS_perm (s : List Nat) {V W : List Nat} (h : V.Perm W) : toldS s V = toldS s W := (h.map _).sum_nat
theorem sorted_asc {V : List Nat} (hd : V.Nodup) : ∀ k, k + 1 < (isort leN V).length → (isort leN V).getD k 0 < (isort leN V).getD (k + 1) 0 := fun k hk => by
  have h1 := isort_le V
  have h2 : (isort leN V).Nodup := (isort_perm leN V).nodup_iff.mpr hd
  have h3 : (isort leN V).Pairwise (· < ·) := by
    refine (h1.and h2).imp fun {a b} h => ?_
    have := h.1; have := h.2; omega
  rw [List.pairwise_iff_getElem] at h3
  have := h3 k (k + 1) (by omega) hk (by omega)
  rw [List.getD_eq_getElem?_getD, List.getD_eq_getElem?_getD, List.getElem?_eq_getElem (by omega), List.getElem?_eq_getElem hk]
  exact this
theorem cl_eq (s V : List Nat) (hne : V ≠ []) (hV : ∀ v ∈ V, v < s.length) (hd : V.Nodup) (hl : V.length ≤ s.length) (hs : s.length ≤ 60) : F_is_clash [tN s, tN (isort leN V)] = some (.bool (isCl s V)) := by
  have p := isort_perm leN V
  have := clash_eq s (isort leN V) (fun z => hne (by have := p.length_eq; rw [z] at this; exact List.length_eq_zero_iff.mp this.symm)) (fun v m => hV v (p.mem_iff.mp m)) (sorted_asc hd) (by rw [p.length_eq]; exact hl) hs
  rw [p.length_eq, toldS_perm s p] at this
  exact this
theorem two_ok {s : List Nat} {i : Nat} (hi : i < s.length) : ∀ V ∈ two s i, V ≠ [] ∧ (∀ v ∈ V, v < s.length) ∧ V.Nodup ∧ V.length ≤ s.length := by
  have h1 := order_perm s
  have h2 := order_len s
  have h3 : ∀ v ∈ order s, v < s.length := fun v m => List.mem_range.mp (h1.mem_iff.mp m)
  have h4 : (order s).Nodup := h1.nodup_iff.mpr List.nodup_range
  intro V m
  unfold two at m
  rcases List.mem_cons.mp m with rfl | m
  · refine ⟨fun z => ?_, fun v m => h3 v (List.mem_of_mem_take m), h4.sublist (List.take_sublist _ _), by rw [List.length_take]; omega⟩
    have := congrArg List.length z
    rw [List.length_take, h2, List.length_nil] at this
    omega
  · rw [List.mem_singleton.mp m]
    refine ⟨fun z => ?_, fun v m => h3 v (List.mem_of_mem_drop m), h4.sublist (List.drop_sublist _ _), by rw [List.length_drop]; omega⟩
    have := congrArg List.length z
    rw [List.length_drop, h2, List.length_nil] at this
    omega
noncomputable abbrev aIf : Rh → Out := (sIf (lift (qT (fnE F_is_clash (aCons (getS 0) (aCons (u1 tupD (fnE (sortF false) (aCons (getS 3) aNil))) aNil))))) (sRet (lift (u1 tupD (fnE (sortF false) (aCons (getS 3) aNil))))) (sNil))
noncomputable abbrev aIn : Rh → Out := (sFor [] (.nm 3) (lift (iS (mkT (aCons (slE (getS 1) opn (ops (getS 2))) (aCons (slE (getS 1) (ops (u1 negI (getS 2))) opn) aNil))))) aIf)
theorem aIf_f {s V O : List Nat} {x : Option Cl} (hne : V ≠ []) (hV : ∀ v ∈ V, v < s.length) (hd : V.Nodup) (hl : V.length ≤ s.length) (hs : s.length ≤ 60) (h : isCl s V = false) : aIf [some ⟨tN s, .ro⟩, some ⟨lN O, .own⟩, x, some ⟨lN V, .ro⟩] = .nx [some ⟨tN s, .ro⟩, some ⟨lN O, .own⟩, x, some ⟨lN V, .ro⟩] := by
  have e1 := cl_eq s V hne hV hd hl hs
  have e2 := sort_lN V
  have e3 := pure_nI (isort leN V)
  rw [h] at e1
  simp [e1, e2, tupD, e3]
theorem aIf_t {s V O : List Nat} {x : Option Cl} (hne : V ≠ []) (hV : ∀ v ∈ V, v < s.length) (hd : V.Nodup) (hl : V.length ≤ s.length) (hs : s.length ≤ 60) (h : isCl s V = true) : Rts (aIf [some ⟨tN s, .ro⟩, some ⟨lN O, .own⟩, x, some ⟨lN V, .ro⟩]) fun d _ => ∃ ds, d = .tuple ds := by
  have e1 := cl_eq s V hne hV hd hl hs
  have e2 := sort_lN V
  have e3 := pure_nI (isort leN V)
  rw [h] at e1
  simp [e1, e2, tupD, e3]
theorem aIn_src (s : List Nat) (i : Nat) (hi : i < s.length) (hs : s.length ≤ 60) (y : Option Cl) : (lift (iS (mkT (aCons (slE (getS 1) opn (ops (getS 2))) (aCons (slE (getS 1) (ops (u1 negI (getS 2))) opn) aNil))))) [some ⟨tN s, .ro⟩, some ⟨lN (order s), .own⟩, some ⟨nI (1 + i), .ro⟩, y] = some ((two s i).map lN, [some ⟨tN s, .ro⟩, some ⟨lN (order s), .own⟩, some ⟨nI (1 + i), .ro⟩, y]) := by
  have e1 := take_lN (order s) (1 + i)
  have e2 := lastk_lN (order s) (1 + i) (by rw [order_len]; omega) (by omega)
  rw [order_len] at e2
  refine lift_of ?_
  show (iS _ _) = some [lN ((order s).take (1 + i)), lN ((order s).drop (s.length - (1 + i)))]
  simp only [iS_e, mkT_e, aCons_e, aNil_e, slE_e, opn_e, ops_e, u1_e, getS_z, getS_s, Option.bind_some, negI_int, e1, e2]
  rfl
theorem aIn_eq (s : List Nat) (i : Nat) (hi : i < s.length) (hs : s.length ≤ 60) (y : Option Cl) (hy : NP y) :
    ((two s i).any (isCl s) = false → Nxs (aIn [some ⟨tN s, .ro⟩, some ⟨lN (order s), .own⟩, some ⟨nI (1 + i), .ro⟩, y]) fun ρ => ∃ y, ρ = [some ⟨tN s, .ro⟩, some ⟨lN (order s), .own⟩, some ⟨nI (1 + i), .ro⟩, y] ∧ NP y) ∧
    ((two s i).any (isCl s) = true → Rts (aIn [some ⟨tN s, .ro⟩, some ⟨lN (order s), .own⟩, some ⟨nI (1 + i), .ro⟩, y]) fun d _ => ∃ ds, d = .tuple ds) := by
  have e := aIn_src s i hi hs y
  have ok := two_ok hi
  have := forS_ret (p := .nm 3) (b := aIf) (fun ρ => ∃ y, ρ = [some ⟨tN s, .ro⟩, some ⟨lN (order s), .own⟩, some ⟨nI (1 + i), .ro⟩, y] ∧ NP y) (fun d _ => ∃ ds, d = .tuple ds) lN (isCl s) (two s i) _
    (fun V m ρ hρ hT => by
      obtain ⟨y, rfl, hy⟩ := hρ
      obtain ⟨a1, a2, a3, a4⟩ := ok V m
      exact ⟨[some ⟨tN s, .ro⟩, some ⟨lN (order s), .own⟩, some ⟨nI (1 + i), .ro⟩, some ⟨lN V, .ro⟩], by simp [setS_np hy], _, aIf_f a1 a2 a3 a4 hs hT, _, rfl, NP.ro⟩)
    (fun V m ρ hρ hT => by
      obtain ⟨y, rfl, hy⟩ := hρ
      obtain ⟨a1, a2, a3, a4⟩ := ok V m
      exact ⟨[some ⟨tN s, .ro⟩, some ⟨lN (order s), .own⟩, some ⟨nI (1 + i), .ro⟩, some ⟨lN V, .ro⟩], by simp [setS_np hy], aIf_t a1 a2 a3 a4 hs hT⟩)
    ⟨y, rfl, hy⟩
  exact ⟨fun z => sFor_of e rfl (this.1 z), fun z => sFor_ofR e rfl (this.2 z)⟩
theorem aclash_eq (s : List Nat) (hs : s.length ≤ 60) : (anyCl s = false → F_a_clash [tN s] = some .none) ∧ (anyCl s = true → ∃ ds, F_a_clash [tN s] = some (.tuple ds)) := by
  have e0 := by_eq s (by omega)
  have e1 : (lift (iR2 (aCons (cst (.int 1)) (aCons (o2 addD (fnE lenF (aCons (getS 1) aNil)) (cst (.int 1))) aNil)))) [some ⟨tN s, .ro⟩, some ⟨lN (order s), .own⟩, none, none] = some ((List.range s.length).map fun i => nI (1 + i), [some ⟨tN s, .ro⟩, some ⟨lN (order s), .own⟩, none, none]) := by
    have h1 := rng2_nI 1 (s.length + 1) (by omega) (by omega)
    have h2 := len_lN (order s)
    rw [order_len] at h2
    rw [Nat.add_sub_cancel] at h1
    refine lift_of ?_
    simp only [iR2_e, aCons_e, aNil_e, cst_e, o2_e, fnE_e, getS_z, getS_s, h2, addD_int, Option.bind_some]
    exact h1
  have := forS_ret (p := .nm 2) (b := aIn) (fun ρ => ∃ x y, ρ = [some ⟨tN s, .ro⟩, some ⟨lN (order s), .own⟩, x, y] ∧ NP x ∧ NP y) (fun d _ => ∃ ds, d = .tuple ds) (fun i => nI (1 + i)) (fun i => (two s i).any (isCl s)) (List.range s.length) [some ⟨tN s, .ro⟩, some ⟨lN (order s), .own⟩, none, none]
    (fun i m ρ hρ hT => by
      obtain ⟨x, y, rfl, hx, hy⟩ := hρ
      refine ⟨[some ⟨tN s, .ro⟩, some ⟨lN (order s), .own⟩, some ⟨nI (1 + i), .ro⟩, y], by simp [setS_np hx], ?_⟩
      obtain ⟨ρ2, e2, y2, e3, h3⟩ := (aIn_eq s i (List.mem_range.mp m) hs y hy).1 hT
      exact ⟨ρ2, e2, _, y2, e3, NP.ro, h3⟩)
    (fun i m ρ hρ hT => by
      obtain ⟨x, y, rfl, hx, hy⟩ := hρ
      exact ⟨[some ⟨tN s, .ro⟩, some ⟨lN (order s), .own⟩, some ⟨nI (1 + i), .ro⟩, y], by simp [setS_np hx], (aIn_eq s i (List.mem_range.mp m) hs y hy).2 hT⟩)
    ⟨none, none, rfl, NP.none, NP.none⟩
  constructor
  · intro h
    refine runF_eq rfl ?_
    show Rts (B_a_clash [some ⟨tN s, .ro⟩, none, none, none]) _
    unfold B_a_clash
    refine seqR1 (ρ' := [some ⟨tN s, .ro⟩, some ⟨lN (order s), .own⟩, none, none]) (by simp [e0]) ?_
    refine Nxs.seqR (sFor_of e1 rfl (this.1 h)) fun ρ' hρ => ?_
    obtain ⟨x, y, rfl, _, _⟩ := hρ
    simp
  · intro h
    have hr : Rts (B_a_clash [some ⟨tN s, .ro⟩, none, none, none]) fun d _ => ∃ ds, d = .tuple ds := by
      unfold B_a_clash
      refine seqR1 (ρ' := [some ⟨tN s, .ro⟩, some ⟨lN (order s), .own⟩, none, none]) (by simp [e0]) ?_
      exact Rts.seq (sFor_ofR e1 rfl (this.2 h))
    obtain ⟨d, e, ds, rfl⟩ := runF_of (np := 1) (n := 4) (B := B_a_clash) (ds := [tN s]) rfl hr
    exact ⟨ds, e⟩
theorem row_eq (s : List Nat) (hs : s.length ≤ 60) : F_is_score_row [tN s] = some (.bool (!anyCl s)) := by
  have h := aclash_eq s hs
  cases hc : anyCl s with
  | false =>
    have e := h.1 hc
    simp [F_is_score_row, B_is_score_row, runP, rho0, e]
    rfl
  | true =>
    obtain ⟨ds, e⟩ := h.2 hc
    simp [F_is_score_row, B_is_score_row, runP, rho0, e]
    rfl
end T92

set_option Elab.async false
set_option linter.all false
set_option maxRecDepth 100000
set_option maxHeartbeats 4000000
namespace T92
open PySem PySem.Spec PyProof.Rows L2 PV
/-! a score row is one under the stairs -/
def rowS (s : List Nat) : List Nat := (isort geN s).filter fun a => Nat.blt 0 a
theorem pre_filter : ∀ (l : List Nat), l.Pairwise (· ≥ ·) → ∀ k, pre (l.filter fun a => Nat.blt 0 a) k = pre l k
  | [], _, k => rfl
  | a :: l, h, k => by
    rw [List.pairwise_cons] at h
    rw [List.filter_cons]
    by_cases ha : 0 < a
    · rw [if_pos (Nat.blt_eq.mpr ha)]
      cases k with
      | zero => rw [pre_z, pre_z]
      | succ k => rw [pre_cons, pre_cons, pre_filter l h.2 k]
    · have e : Nat.blt 0 a = false := by rw [← Bool.not_eq_true, Nat.blt_eq]; exact ha
      rw [e]
      simp only [Bool.false_eq_true, if_false]
      have hz : ∀ x ∈ l, x = 0 := fun x m => by have := h.1 x m; simp at this; omega
      have h0 : ∀ (m : List Nat), (∀ x ∈ m, x = 0) → m.sum = 0 := fun m hm => by
        induction m with
        | nil => rfl
        | cons x m ih => rw [List.sum_cons, ih fun y hy => hm y (List.mem_cons_of_mem _ hy), hm x List.mem_cons_self]
      have e1 : pre (a :: l) k = 0 := h0 _ fun x m => by
        have := List.mem_of_mem_take m
        rcases List.mem_cons.mp this with rfl | m
        · omega
        · exact hz x m
      have e2 : pre (l.filter fun a => Nat.blt 0 a) k = 0 := h0 _ fun x m => hz x (List.mem_filter.mp (List.mem_of_mem_take m)).1
      rw [e1, e2]
theorem sum_le_of : ∀ (a b : List Nat), a.length = b.length → (∀ i (h : i < a.length) (h' : i < b.length), a[i] ≤ b[i]) → a.sum ≤ b.sum
  | [], _, _, _ => by simp
  | x :: a, [], h, _ => by cases h
  | x :: a, y :: b, h, k => by
    have h1 := k 0 (by simp) (by simp)
    have h2 := sum_le_of a b (by simpa using h) fun i hi hi' => k (i + 1) (by simpa using hi) (by simpa using hi')
    simp only [List.sum_cons]
    simp at h1
    omega
def lo (s : List Nat) (k : Nat) : Nat := pre (isort leN s) k
def hi (s : List Nat) (k : Nat) : Nat := ((isort leN s).drop (s.length - k)).sum
theorem S_len (s : List Nat) : (isort leN s).length = s.length := (isort_perm leN s).length_eq
theorem S_sum (s : List Nat) : (isort leN s).sum = s.sum := (isort_perm leN s).sum_nat
theorem lo_hi (s : List Nat) (k : Nat) (hk : k ≤ s.length) : lo s k + hi s (s.length - k) = s.sum := by
  unfold lo hi pre
  rw [show s.length - (s.length - k) = k by omega, ← List.sum_append, List.take_append_drop, S_sum]
theorem lo_le_hi (s : List Nat) (k : Nat) (hk : k ≤ s.length) : lo s k ≤ hi s k := by
  unfold lo hi pre
  have h := isort_le s
  have hl := S_len s
  refine sum_le_of _ _ (by rw [List.length_take, List.length_drop]; omega) fun i h1 h2 => ?_
  rw [List.getElem_take, List.getElem_drop]
  rw [List.length_take] at h1
  by_cases e : s.length - k = 0
  · simp [e]
  · exact List.pairwise_iff_getElem.mp h i (s.length - k + i) (by omega) (by omega) (by omega)
theorem pre_row (s : List Nat) (k : Nat) (hk : k ≤ s.length) : pre (rowS s) k = hi s k := by
  unfold rowS
  rw [pre_filter _ (isort_ge s), ← isort_rev]
  unfold pre hi
  rw [List.take_reverse, List.sum_reverse, S_len]
theorem row_len (s : List Nat) : (rowS s).length ≤ s.length := by
  unfold rowS
  refine Nat.le_trans (List.length_filter_le _ _) ?_
  rw [(isort_perm geN s).length_eq]
  exact Nat.le_refl _
theorem row_sum (s : List Nat) : (rowS s).sum = s.sum := by
  have := pre_row s s.length (Nat.le_refl _)
  rw [pre_all _ (row_len s)] at this
  rw [this]
  unfold hi
  rw [Nat.sub_self, List.drop_zero, S_sum]
theorem told_lo (s : List Nat) (k : Nat) : toldS s ((order s).take k) = lo s k := by
  unfold toldS lo pre
  rw [List.map_take, order_scores]
theorem told_hi (s : List Nat) (k : Nat) : toldS s ((order s).drop (s.length - k)) = hi s k := by
  unfold toldS hi
  rw [List.map_drop, order_scores]
def okK (s : List Nat) (k : Nat) : Prop := gN k ≤ lo s k ∧ lo s k ≤ gN k + k * (s.length - k) ∧ gN k ≤ hi s k ∧ hi s k ≤ gN k + k * (s.length - k)
theorem anyCl_iff (s : List Nat) : anyCl s = false ↔ ∀ k, 1 ≤ k → k ≤ s.length → okK s k := by
  have key : ∀ i, i < s.length → ((two s i).any (isCl s) = false ↔ okK s (1 + i)) := fun i hi => by
    have h2 := order_len s
    unfold two
    rw [List.any_cons, List.any_cons, List.any_nil, Bool.or_false, Bool.or_eq_false_iff]
    unfold isCl
    rw [told_lo, told_hi, List.length_take, List.length_drop, h2, show min (1 + i) s.length = 1 + i by omega, show s.length - (s.length - (1 + i)) = 1 + i by omega]
    unfold clashB okK
    simp only [Bool.or_eq_false_iff, decide_eq_false_iff_not, Nat.not_lt]
    constructor
    · rintro ⟨⟨a, b⟩, c, d⟩; exact ⟨a, b, c, d⟩
    · rintro ⟨a, b, c, d⟩; exact ⟨⟨a, b⟩, c, d⟩
  unfold anyCl
  rw [List.any_eq_false]
  constructor
  · intro h k h1 h2
    have := h (k - 1) (List.mem_range.mpr (by omega))
    rw [Bool.not_eq_true, key (k - 1) (by omega), show 1 + (k - 1) = k by omega] at this
    exact this
  · intro h i hi
    have hi := List.mem_range.mp hi
    rw [Bool.not_eq_true, key i hi]
    exact h (1 + i) (by omega) (by omega)
theorem arith1 : ∀ n < 10, ∀ k < 10, k ≤ n → pre (stairs n) k + gN (n - k) = gN n := by decide +kernel
theorem arith2 : ∀ n < 10, ∀ k < 10, k ≤ n → gN k + k * (n - k) + gN (n - k) = gN n := by decide +kernel
theorem stairs_sum : ∀ n < 10, (stairs n).sum = gN n := by decide +kernel
theorem stairs_len (n : Nat) : (stairs n).length = n - 1 := by simp [stairs]
theorem under_iff (s : List Nat) (hs : s.length ≤ 9) (h1 : 1 ≤ s.length) : anyCl s = false ↔ Dm (stairs s.length) (rowS s) := by
  rw [anyCl_iff]
  constructor
  · intro h
    have hn := h s.length h1 (Nat.le_refl _)
    unfold okK at hn
    have e0 : lo s s.length = s.sum := by
      have := lo_hi s s.length (Nat.le_refl _)
      rw [Nat.sub_self] at this
      have : hi s 0 = 0 := by unfold hi; rw [Nat.sub_zero, List.drop_of_length_le (by rw [S_len]; exact Nat.le_refl _)]; rfl
      omega
    rw [Nat.sub_self, Nat.mul_zero, e0] at hn
    have et : s.sum = gN s.length := by omega
    refine ⟨by rw [stairs_sum _ (by omega), row_sum, et], fun k => ?_⟩
    by_cases hk : k ≤ s.length
    · rw [pre_row s k hk]
      have a1 := arith1 s.length (by omega) k (by omega) hk
      have a2 := arith2 s.length (by omega) k (by omega) hk
      by_cases h0 : k = 0
      · subst h0
        have : hi s 0 = 0 := by unfold hi; rw [Nat.sub_zero, List.drop_of_length_le (by rw [S_len]; exact Nat.le_refl _)]; rfl
        omega
      · have := h k (by omega) hk
        unfold okK at this
        omega
    · rw [pre_all (rowS s) (by have := row_len s; omega), pre_all (stairs s.length) (by rw [stairs_len]; omega), row_sum, stairs_sum _ (by omega), et]
      exact Nat.le_refl _
  · rintro ⟨ht, hp⟩ k hk1 hk
    rw [stairs_sum _ (by omega), row_sum] at ht
    have a2 := arith2 s.length (by omega) k (by omega) hk
    have b1 := hp k
    rw [pre_row s k hk] at b1
    have a1 := arith1 s.length (by omega) k (by omega) hk
    have b2 := hp (s.length - k)
    rw [pre_row s _ (by omega)] at b2
    have a3 := arith1 s.length (by omega) (s.length - k) (by omega) (by omega)
    rw [show s.length - (s.length - k) = k by omega] at a3
    have c1 := lo_hi s k hk
    have c2 := lo_le_hi s k hk
    unfold okK
    omega
theorem row_dec (s : List Nat) (hs : s.length ≤ 9) (h1 : 1 ≤ s.length) : F_is_score_row [tN s] = some (.bool (domM (stairs s.length) (rowS s))) := by
  rw [row_eq s (by omega)]
  congr 2
  rw [Bool.eq_iff_iff, domM_iff, ← under_iff s hs h1]
  simp
end T92

set_option Elab.async false
set_option linter.all false
set_option maxRecDepth 100000
set_option maxHeartbeats 4000000
namespace T92
open PySem PySem.Spec PyProof.Rows L2 PV
/-! the law's own helpers -/
def lawM (a b : List Nat) : Bool := decide (a.sum = b.sum) && (List.range (max a.length b.length)).all fun k => decide (pre b k ≤ pre a k)
theorem lawM_eq (a b : List Nat) : lawM a b = domM a b := by
  rw [Bool.eq_iff_iff, domM_iff]
  unfold lawM Dm
  simp only [Bool.and_eq_true, decide_eq_true_eq, List.all_eq_true, List.mem_range]
  refine and_congr_right fun hs => ⟨fun h k => ?_, fun h k _ => h k⟩
  by_cases hk : k < max a.length b.length
  · exact h k hk
  · rw [pre_all a (by omega), pre_all b (by omega), hs]; exact Nat.le_refl _
theorem under_eq (a b : List Nat) (ha : a.length ≤ 900) (hb : b.length ≤ 900) : F__law_under [tN a, tN b] = some (.bool (domM a b)) := by
  rw [← lawM_eq]
  have m1 := max2_nI a.length b.length
  have l1 := len_tN a
  have l2 := len_tN b
  have s1 := sum_tN a
  have s2 := sum_tN b
  have q := eq_nI a.sum b.sum
  have hr := rng1_nat (max a.length b.length) (by omega)
  have hl : lcS (stepE (.nm 3) tAll (o2 geI (fnE sumF (aCons (slE (getS 0) opn (ops (getS 3))) aNil)) (fnE sumF (aCons (slE (getS 1) opn (ops (getS 3))) aNil))) (wipR [some ⟨tN a, .ro⟩, some ⟨tN b, .ro⟩, some ⟨nI (max a.length b.length), .own⟩, none] [3])) ((List.range (max a.length b.length)).map nI) = some ((List.range (max a.length b.length)).map fun k => .bool (decide (pre b k ≤ pre a k))) :=
    lcS_mapM fun k hk => by
      have e1 := take_tN a k
      have e2 := take_tN b k
      have e3 : sumF [tN (a.take k)] = some (nI (pre a k)) := sum_tN _
      have e4 : sumF [tN (b.take k)] = some (nI (pre b k)) := sum_tN _
      simp only [wipR, stepE_e]
      simp [-List.map_take, e1, e2, e3, e4]
  have hall := allF_map (ds := List.range (max a.length b.length)) (g := fun k => decide (pre b k ≤ pre a k))
  have e3 := eLc_of (p := .nm 3) (vs := [3]) (hi := iR1 (aCons (getS 2) aNil)) (t := tAll) (e := o2 geI (fnE sumF (aCons (slE (getS 0) opn (ops (getS 3))) aNil)) (fnE sumF (aCons (slE (getS 1) opn (ops (getS 3))) aNil)))
    (ρ := [some ⟨tN a, .ro⟩, some ⟨tN b, .ro⟩, some ⟨nI (max a.length b.length), .own⟩, none]) (by simp only [iR1_e, aCons_e, aNil_e, getS_z, getS_s, Option.bind_some]; rw [hr, range_nI]) (by simp; omega) hl
  refine runF_eq rfl ?_
  show Rts (B__law_under [some ⟨tN a, .ro⟩, some ⟨tN b, .ro⟩, none, none]) _
  unfold B__law_under
  refine seqR1 (ρ' := [some ⟨tN a, .ro⟩, some ⟨tN b, .ro⟩, some ⟨nI (max a.length b.length), .own⟩, none]) (by simp [m1, l1, l2]) ?_
  refine ⟨_, _, sRet_of (lift_of (d := .bool (lawM a b)) ?_), rfl⟩
  simp only [eand_e, o2_e, fnE_e, aCons_e, aNil_e, getS_z, getS_s, s1, s2, q, e3, hall]
  unfold lawM
  cases decide (a.sum = b.sum) <;> simp
theorem sortedDown_row (s : List Nat) : isort geN (s.filter fun a => Nat.blt 0 a) = rowS s :=
  isort_of_ge ((isort_ge s).filter _) ((isort_perm geN s).filter _)
theorem down_eq (s : List Nat) (hs : s.length ≤ 900) : F_sorted_down [tN s] = some (tN (rowS s)) := by
  have e1 := eLc_of (p := .nm 1) (vs := [1]) (hi := iS (getS 0)) (t := qB (o2 gtI (getS 1) (cst (.int 0)))) (e := gE (getS 1)) (ρ := [some ⟨tN s, .ro⟩, none]) (ds := s.map nI) (by simp) (by simp; omega) (filterG _ _ 1 (fun d => rfl) (by simp))
  have e2 := sortR_lN (s.filter fun a => Nat.blt 0 a)
  rw [sortedDown_row] at e2
  have e3 := pure_nI (rowS s)
  refine runF_eq rfl ?_
  show Rts (B_sorted_down [some ⟨tN s, .ro⟩, none]) _
  unfold B_sorted_down
  refine ⟨_, _, sRet_of (lift_of (d := tN (rowS s)) ?_), rfl⟩
  simp only [u1_e, fnE_e, aCons_e, aNil_e, e1, e2, Option.bind_some]
  rw [tupD, if_pos e3]
theorem row_law (s : List Nat) (hs : s.length ≤ 900) (ρ : Rh) (h3 : getS 3 ρ = some (tN s)) (hp : ∀ d : D, patS .ro (.nm 19) d (wipR ρ [19]) = some ((wipR ρ [19]).set 19 (some ⟨d, .ro⟩))) (hl : 19 < ρ.length) :
    (u1 tupD (eLc (.nm 19) [19] (iS (u1 revE (fnE (sortF false) (aCons (getS 3) aNil)))) (qB (o2 gtI (getS 19) (cst (.int 0)))) (gE (getS 19)))) ρ = some (tN (rowS s)) := by
  have e0 := sort_tN s
  have e1 : revE (lN (isort leN s)) = some (lN (isort geN s)) := by
    unfold revE lN
    simp only
    rw [if_pos (pure_nI _), ← isort_rev, List.map_reverse]
  have e2 := eLc_of (p := .nm 19) (vs := [19]) (hi := iS (u1 revE (fnE (sortF false) (aCons (getS 3) aNil)))) (t := qB (o2 gtI (getS 19) (cst (.int 0)))) (e := gE (getS 19)) (ρ := ρ) (ds := (isort geN s).map nI)
    (by simp only [iS_e, u1_e, fnE_e, aCons_e, aNil_e, h3, e0, e1, Option.bind_some]; rfl) (by rw [List.length_map, (isort_perm geN s).length_eq]; omega) (filterG _ _ 19 hp hl)
  have e3 := pure_nI (rowS s)
  simp only [u1_e, e2, Option.bind_some]
  rw [tupD]
  exact if_pos e3
/-! ### _law_same -/
theorem same_bool (a b : Bool) : F__law_same [.bool a, .bool b] = some (.bool (a == b)) := by
  cases a <;> cases b <;> kernel_rfl
theorem R_same_int (j : Nat) (a : Int) : R__law_same (j + 1) [.int a, .int a] = some (.bool true) := by
  refine runF_eq rfl ?_
  show Rts (B__law_same (R__law_same j) [some ⟨.int a, .ro⟩, some ⟨.int a, .ro⟩, none]) _
  unfold B__law_same
  simp
theorem R_same_tN (j : Nat) (l : List Nat) (hl : l.length ≤ 900) : R__law_same (j + 2) [tN l, tN l] = some (.bool true) := by
  have l1 := len_tN l
  have q := eq_nI l.length l.length
  have hr := rng1_nat l.length (by omega)
  have hc : lcS (stepE (.nm 2) tAll (fnE (R__law_same (j + 1)) (aCons (o2 ixD (getS 0) (getS 2)) (aCons (o2 ixD (getS 1) (getS 2)) aNil))) (wipR [some ⟨tN l, .ro⟩, some ⟨tN l, .ro⟩, none] [2])) ((List.range l.length).map nI) = some ((List.range l.length).map fun _ => .bool true) :=
    lcS_mapM fun k hk => by
      have e1 := ix_tN (List.mem_range.mp hk)
      have e2 := R_same_int j ((l.getD k 0 : Nat) : Int)
      simp only [wipR, stepE_e]
      simp [-List.getD_eq_getElem?_getD, e1, e2]
  have e3 := eLc_of (p := .nm 2) (vs := [2]) (hi := iR1 (aCons (fnE lenF (aCons (getS 0) aNil)) aNil)) (t := tAll) (e := fnE (R__law_same (j + 1)) (aCons (o2 ixD (getS 0) (getS 2)) (aCons (o2 ixD (getS 1) (getS 2)) aNil)))
    (ρ := [some ⟨tN l, .ro⟩, some ⟨tN l, .ro⟩, none]) (by simp only [iR1_e, fnE_e, aCons_e, aNil_e, getS_z, l1, Option.bind_some]; rw [hr, range_nI]) (by simp; omega) hc
  have a1 : allF [.list ((List.range l.length).map fun _ => PyData.bool true)] = some (.bool true) := allF_true fun d m => by obtain ⟨_, _, rfl⟩ := List.mem_map.mp m; rfl
  refine runF_eq rfl ?_
  show Rts (B__law_same (R__law_same (j + 1)) [some ⟨tN l, .ro⟩, some ⟨tN l, .ro⟩, none]) _
  unfold B__law_same
  have h5 : (eand (o2 eqD (fnE lenF (aCons (getS 0) aNil)) (fnE lenF (aCons (getS 1) aNil))) (fnE allF (aCons (eLc (.nm 2) [2] (iR1 (aCons (fnE lenF (aCons (getS 0) aNil)) aNil)) tAll (fnE (R__law_same (j + 1)) (aCons (o2 ixD (getS 0) (getS 2)) (aCons (o2 ixD (getS 1) (getS 2)) aNil)))) aNil))) [some ⟨tN l, .ro⟩, some ⟨tN l, .ro⟩, none] = some (.bool true) := by
    simp only [eand_e, o2_e, fnE_e, aCons_e, aNil_e, getS_z, getS_s, l1, q, e3, a1]
    simp
  refine Rts.seq ?_
  rw [sIf_t (ρ1 := [some ⟨tN l, .ro⟩, some ⟨tN l, .ro⟩, none]) (by simp)]
  exact ⟨_, _, sRet_of (lift_of h5), rfl⟩
theorem same_tN (l : List Nat) (hl : l.length ≤ 900) : F__law_same [tN l, tN l] = some (.bool true) := R_same_tN 2 l hl
/-! ### scores -/
theorem scores_eq (R : List (List Nat)) (hR : R.length ≤ 900) : F__law_scores [.tuple (R.map tN)] = some (tN (R.map List.sum)) := by
  have hc : lcS (stepE (.nm 1) tAll (fnE sumF (aCons (getS 1) aNil)) (wipR [some ⟨.tuple (R.map tN), .ro⟩, none] [1])) (R.map tN) = some (R.map fun r => nI r.sum) :=
    lcS_mapM fun r hr => by
      have e := sum_tN r
      simp [wipR, e]
  have e3 := eLc_of (p := .nm 1) (vs := [1]) (hi := iS (getS 0)) (t := tAll) (e := fnE sumF (aCons (getS 1) aNil)) (ρ := [some ⟨.tuple (R.map tN), .ro⟩, none]) (by simp) (by simp; omega) hc
  have e4 : (R.map fun r => nI r.sum) = (R.map List.sum).map nI := by rw [List.map_map]; rfl
  refine runF_eq rfl ?_
  show Rts (B__law_scores [some ⟨.tuple (R.map tN), .ro⟩, none]) _
  unfold B__law_scores
  refine ⟨_, _, sRet_of (lift_of (d := tN (R.map List.sum)) ?_), rfl⟩
  simp only [u1_e, e3, Option.bind_some, e4]
  rw [tupD]
  exact if_pos (pure_nI _)
/-! ### stairs -/
theorem stairs_rng : ∀ n : Nat, 1 ≤ n → n ≤ 9 → rng3 [.int ((n : Int) - 1), .int 0, .int (-1)] = some ((stairs n).map nI) := fun n h1 h2 => by
  have : n = 1 ∨ n = 2 ∨ n = 3 ∨ n = 4 ∨ n = 5 ∨ n = 6 ∨ n = 7 ∨ n = 8 ∨ n = 9 := by omega
  rcases this with rfl | rfl | rfl | rfl | rfl | rfl | rfl | rfl | rfl <;> rfl
end T92

set_option Elab.async false
set_option linter.all false
set_option maxRecDepth 100000
set_option maxHeartbeats 4000000
namespace T92
open PySem PySem.Spec PyProof.Rows L2 PV
/-! a round -/
theorem draw_ok {b : D} (hb : IsBox b) {n : Int} (h0 : 0 < n) (h1 : n < 2 ^ 64) : ∃ k b', F__law_draw [b, .int n] = some (.int k, b') ∧ IsBox b' ∧ 0 ≤ k ∧ k < n := drawB_ok hb h0 h1
def AI (ds : List D) : Prop := ∀ d ∈ ds, ∃ i : Int, d = .int i
theorem AI.pure {ds : List D} (h : AI ds) : pureL ds = true := pureL_iff.mpr fun d m => by obtain ⟨i, rfl⟩ := h d m; rfl
theorem AI.erase {ds : List D} (h : AI ds) (j : Nat) : AI (ds.eraseIdx j) := fun d m => h d (List.mem_of_mem_eraseIdx m)
theorem AI.app {ds : List D} (h : AI ds) (i : Int) : AI (ds ++ [.int i]) := fun d m => by
  rcases List.mem_append.mp m with m | m
  · exact h d m
  · exact ⟨i, List.mem_singleton.mp m⟩
theorem AI.ix {ds : List D} (h : AI ds) {k : Nat} (hk : k < ds.length) : ∃ i : Int, ixD (.list ds) (nI k) = some (.int i) := by
  obtain ⟨i, e⟩ := h ds[k] (List.getElem_mem _)
  exact ⟨i, by rw [← e]; exact ixL (List.getElem?_eq_getElem hk)⟩
def pl (b : D) (n : Nat) (pk : Int) (O Pl : List D) (x5 : Option Cl) : Rh := [some ⟨b, .pin⟩, some ⟨nI n, .ro⟩, some ⟨.int pk, .own⟩, some ⟨.list O, .own⟩, some ⟨.list Pl, .own⟩, x5, none, none, none, none, none]
theorem pop_turn {b : D} (hb : IsBox b) (n : Nat) (pk : Int) {O Pl : List D} (x5 : Option Cl) (hO : AI O) (hP : AI Pl) (h1 : 1 ≤ O.length) (h2 : O.length ≤ 100) (h3 : Pl.length ≤ 100) :
    ∃ b' O' Pl', sDrop (appendV 4 (popAtV 3 (callM 0 [.rd 0, .ev (lift (fnE lenF (aCons (getS 3) aNil)))] F__law_draw))) (pl b n pk O Pl x5) = .nx (pl b' n pk O' Pl' x5) ∧ IsBox b' ∧ AI O' ∧ AI Pl' ∧ O'.length = O.length - 1 ∧ Pl'.length = Pl.length + 1 := by
  obtain ⟨k, b', e, hb', k0, k1⟩ := draw_ok hb (n := (O.length : Int)) (by omega) (by omega)
  obtain ⟨j, rfl⟩ := Int.eq_ofNat_of_zero_le k0
  have hj : j < O.length := by omega
  obtain ⟨i, ei⟩ := hO O[j] (List.getElem_mem _)
  have l1 := lenF_lst O
  have hix : ixN O.length (j : Int) = some j := by unfold ixN; simp; omega
  have hg : O[j]? = some (.int i) := by rw [List.getElem?_eq_getElem hj, ei]
  have hp := hO.pure
  refine ⟨b', O.eraseIdx j, Pl ++ [.int i], ?_, hb', hO.erase j, hP.app i, by rw [List.length_eraseIdx, if_pos hj], by simp⟩
  have e1 : callM 0 [.rd 0, .ev (lift (fnE lenF (aCons (getS 3) aNil)))] F__law_draw (pl b n pk O Pl x5) = some (.int j, pl b' n pk O Pl x5) := by
    unfold pl
    simp [runAg, valAgs, valAg, l1, e]
  have e2 : popAtV 3 (callM 0 [.rd 0, .ev (lift (fnE lenF (aCons (getS 3) aNil)))] F__law_draw) (pl b n pk O Pl x5) = some (.int i, pl b' n pk (O.eraseIdx j) Pl x5) := by
    rw [popAtV_e]
    simp only [e1]
    unfold pl
    simp [lstAt, hix, hg, hp]
  simp only [sDrop_e, appendV_e, e2]
  unfold pl
  have : Pl.length + 1 < 1000000 := by omega
  simp [lstAt, this]
theorem pop_loop {b : D} (hb : IsBox b) (n : Nat) (hn : n ≤ 9) (pk : Int) {O : List D} (hO : AI O) (hl : O.length = n) :
    Nxs (sFor [] (.nm 5) (lift (iR1 (aCons (getS 1) aNil))) (sDrop (appendV 4 (popAtV 3 (callM 0 [.rd 0, .ev (lift (fnE lenF (aCons (getS 3) aNil)))] F__law_draw)))) (pl b n pk O [] none))
      fun ρ => ∃ b' O' Pl' x5, ρ = pl b' n pk O' Pl' x5 ∧ IsBox b' ∧ AI Pl' ∧ Pl'.length = n := by
  have hr := rng1_nat n (by omega)
  refine sFor_of (ds := rangeD 0 n) (ρ1 := pl b n pk O [] none) (by unfold pl; simp [hr]) rfl ?_
  have := forS_rng (p := .nm 5) (b := (sDrop (appendV 4 (popAtV 3 (callM 0 [.rd 0, .ev (lift (fnE lenF (aCons (getS 3) aNil)))] F__law_draw))))) (fun k ρ => ∃ b' O' Pl' x5, ρ = pl b' n pk O' Pl' x5 ∧ IsBox b' ∧ AI O' ∧ AI Pl' ∧ O'.length = n - k ∧ Pl'.length = k ∧ NP x5) n (pl b n pk O [] none)
    ⟨b, O, [], none, rfl, hb, hO, fun d m => (nomatch m), by omega, rfl, NP.none⟩ (fun k ρ hk hI => by
      obtain ⟨b1, O1, P1, x5, rfl, hb1, a1, a2, a3, a4, hx⟩ := hI
      obtain ⟨b2, O2, P2, e, hb2, c1, c2, c3, c4⟩ := pop_turn hb1 n pk (some ⟨nI k, .ro⟩) a1 a2 (by omega) (by omega) (by omega)
      exact ⟨pl b1 n pk O1 P1 (some ⟨nI k, .ro⟩), by unfold pl; simp [setS_np hx], _, e, b2, O2, P2, _, rfl, hb2, c1, c2, by omega, by omega, NP.ro⟩)
  obtain ⟨ρ, e, b', O', P', x5, h1, h2, _, h3, _, h4, _⟩ := this
  exact ⟨ρ, e, b', O', P', x5, h1, h2, h3, h4⟩
/-! ### the games -/
def rr (b : D) (n : Nat) (pk : Int) (O Pl : List D) (x5 x6 : Option Cl) (R : List (List Nat)) (x8 x9 : Option Cl) : Rh := [some ⟨b, .pin⟩, some ⟨nI n, .ro⟩, some ⟨.int pk, .own⟩, some ⟨.list O, .own⟩, some ⟨.list Pl, .own⟩, x5, x6, some ⟨.list (R.map lN), .own⟩, x8, x9, none]
def Sq (n : Nat) (R : List (List Nat)) : Prop := R.length = n ∧ ∀ r ∈ R, r.length = n
def setRR (R : List (List Nat)) (i j v : Nat) : List (List Nat) := R.set i ((R.getD i []).set j v)
theorem Sq.get {n : Nat} {R : List (List Nat)} (h : Sq n R) {i : Nat} (hi : i < n) : (R.getD i []).length = n := by
  have h1 := h.1
  rw [List.getD_eq_getElem?_getD, List.getElem?_eq_getElem (by omega)]
  exact h.2 _ (List.getElem_mem _)
theorem Sq.set {n : Nat} {R : List (List Nat)} (h : Sq n R) {i : Nat} (hi : i < n) (j v : Nat) : Sq n (setRR R i j v) := by
  refine ⟨by unfold setRR; rw [List.length_set]; exact h.1, fun r m => ?_⟩
  rcases List.mem_or_eq_of_mem_set m with m | rfl
  · exact h.2 r m
  · rw [List.length_set]; exact h.get hi
theorem patS_rr {n : Nat} {R : List (List Nat)} (h : Sq n R) {i j v : Nat} (hi : i < n) (hj : j < n) (b : D) (pk : Int) (O Pl : List D) (x5 x6 x8 x9 : Option Cl) (f g : Rh → Option D) (hf : f (rr b n pk O Pl x5 x6 R x8 x9) = some (nI i)) (hg : g (rr b n pk O Pl x5 x6 R x8 x9) = some (nI j)) :
    patS .own (.ix2 7 f g) (nI v) (rr b n pk O Pl x5 x6 R x8 x9) = some (rr b n pk O Pl x5 x6 (setRR R i j v) x8 x9) := by
  have h1 := h.1
  have h2 := h.get hi
  have e1 : ixGetL (R.map lN) (nI i) = some (lN (R.getD i [])) := by
    show atI (R.map lN) (i : Int) = _
    refine atI_nat ?_
    rw [List.getElem?_map, List.getElem?_eq_getElem (by omega), List.getD_eq_getElem?_getD, List.getElem?_eq_getElem (by omega)]
    rfl
  have e2 : ixSet ((R.getD i []).map nI) (nI j) (nI v) = some (((R.getD i []).set j v).map nI) := by
    rw [ixSet_nat _ (by rw [List.length_map]; omega), List.map_set]
  have e3 : ixSet (R.map lN) (nI i) (lN ((R.getD i []).set j v)) = some ((setRR R i j v).map lN) := by
    rw [ixSet_nat _ (by rw [List.length_map]; omega)]
    unfold setRR
    rw [List.map_set]
  have ew : wr 7 (rr b n pk O Pl x5 x6 R x8 x9) = some (.list (R.map lN), .own) := rfl
  unfold patS
  simp only [ew, hf, hg, e1, e2, e3]
  rfl
noncomputable abbrev gTest : Rh → Option (Bool × Rh) := (tor (lift (qB (o2 eqD (getS 2) (cst (.int 0))))) (tor (tand (lift (qB (o2 eqD (getS 2) (cst (.int 1))))) (wB (v2 eqD (callM 0 [.rd 0, .ev (lift (cst (.int 5)))] F__law_draw) (lift (cst (.int 0)))))) (lift (pand (qB (o2 eqD (getS 2) (cst (.int 2)))) (qB (o2 eqD (o2 fdivD (o2 ixD (getS 4) (getS 6)) (cst (.int 3))) (o2 fdivD (o2 ixD (getS 4) (getS 8)) (cst (.int 3)))))))))
theorem fdivD_three (i : Int) : fdivD (.int i) (.int 3) = some (.int (i / 3)) := by
  show (if (0 : Int) < 3 ∧ (3 : Int).natAbs.log2 < 9000 then some (PyData.int (i / 3)) else none) = _
  rw [if_pos ⟨by decide, by decide +kernel⟩]
theorem gTest_ok {b : D} (hb : IsBox b) {n : Nat} {pk : Int} {O Pl : List D} {x5 x9 : Option Cl} {R : List (List Nat)} {i j : Nat} (hP : AI Pl) (hl : Pl.length = n) (hi : i < n) (hj : j < n) :
    ∃ t b', gTest (rr b n pk O Pl x5 (some ⟨nI i, .ro⟩) R (some ⟨nI j, .ro⟩) x9) = some (t, rr b' n pk O Pl x5 (some ⟨nI i, .ro⟩) R (some ⟨nI j, .ro⟩) x9) ∧ IsBox b' := by
  obtain ⟨k, b', e, hb', k0, k1⟩ := draw_ok hb (n := 5) (by omega) (by omega)
  obtain ⟨p, ep⟩ := hP.ix (k := i) (by omega)
  obtain ⟨q, eq⟩ := hP.ix (k := j) (by omega)
  have f1 := fdivD_three p
  have f2 := fdivD_three q
  unfold rr
  by_cases h0 : pk = 0
  · exact ⟨true, b, by simp [h0], hb⟩
  · have h0' : (pk == 0) = false := by simpa using h0
    by_cases h1 : pk = 1
    · subst h1
      by_cases hk : k = 0
      · exact ⟨true, b', by simp [runAg, valAgs, valAg, e, hk], hb'⟩
      · have hk' : (k == 0) = false := by simpa using hk
        exact ⟨false, b', by simp [runAg, valAgs, valAg, e, hk'], hb'⟩
    · have h1' : (pk == 1) = false := by simpa using h1
      by_cases h2 : pk = 2
      · subst h2
        exact ⟨p / 3 == q / 3, b, by simp [ep, eq, f1, f2], hb⟩
      · have h2' : (pk == 2) = false := by simpa using h2
        exact ⟨false, b, by simp [h0', h1', h2'], hb⟩
noncomputable abbrev gBody : Rh → Out := (sSeq (sSet (.nm 9) (lift (o2 gtI (o2 ixD (getS 4) (getS 6)) (o2 ixD (getS 4) (getS 8)))))
    (sSeq (sIf gTest (sSet (.nm 9) (v2 eqD (callM 0 [.rd 0, .ev (lift (cst (.int 2)))] F__law_draw) (lift (cst (.int 0))))) (sNil))
    (sSet (.tp [.ix2 7 (gE (getS 6)) (gE (getS 8)), .ix2 7 (gE (getS 8)) (gE (getS 6))]) (lift (eif (qT (getS 9)) (mkT (aCons (cst (.int 1)) (aCons (cst (.int 0)) aNil))) (mkT (aCons (cst (.int 0)) (aCons (cst (.int 1)) aNil))))))))
theorem gBody_ok {b : D} (hb : IsBox b) {n : Nat} {pk : Int} {O Pl : List D} {x5 x9 : Option Cl} {R : List (List Nat)} {i j : Nat} (hR : Sq n R) (hP : AI Pl) (hl : Pl.length = n) (hi : i < n) (hj : j < n) (hx : NP x9) :
    ∃ b' R' x9', gBody (rr b n pk O Pl x5 (some ⟨nI i, .ro⟩) R (some ⟨nI j, .ro⟩) x9) = .nx (rr b' n pk O Pl x5 (some ⟨nI i, .ro⟩) R' (some ⟨nI j, .ro⟩) x9') ∧ IsBox b' ∧ Sq n R' ∧ NP x9' := by
  obtain ⟨p, ep⟩ := hP.ix (k := i) (by omega)
  obtain ⟨q, eq⟩ := hP.ix (k := j) (by omega)
  have e1 : sSet (.nm 9) (lift (o2 gtI (o2 ixD (getS 4) (getS 6)) (o2 ixD (getS 4) (getS 8)))) (rr b n pk O Pl x5 (some ⟨nI i, .ro⟩) R (some ⟨nI j, .ro⟩) x9) = .nx (rr b n pk O Pl x5 (some ⟨nI i, .ro⟩) R (some ⟨nI j, .ro⟩) (some ⟨.bool (decide (q < p)), .own⟩)) := by
    unfold rr
    simp [ep, eq, setS_np hx]
  obtain ⟨t, b1, e2, hb1⟩ := gTest_ok (b := b) hb (n := n) (pk := pk) (O := O) (Pl := Pl) (x5 := x5) (x9 := some ⟨.bool (decide (q < p)), .own⟩) (R := R) (i := i) (j := j) hP hl hi hj
  have fin : ∀ (b : D) (h : Bool), sSet (.tp [.ix2 7 (gE (getS 6)) (gE (getS 8)), .ix2 7 (gE (getS 8)) (gE (getS 6))]) (lift (eif (qT (getS 9)) (mkT (aCons (cst (.int 1)) (aCons (cst (.int 0)) aNil))) (mkT (aCons (cst (.int 0)) (aCons (cst (.int 1)) aNil))))) (rr b n pk O Pl x5 (some ⟨nI i, .ro⟩) R (some ⟨nI j, .ro⟩) (some ⟨.bool h, .own⟩)) = .nx (rr b n pk O Pl x5 (some ⟨nI i, .ro⟩) (setRR (setRR R i j (if h then 1 else 0)) j i (if h then 0 else 1)) (some ⟨nI j, .ro⟩) (some ⟨.bool h, .own⟩)) := fun b h => by
    have a1 := patS_rr hR hi hj (v := if h then 1 else 0) b pk O Pl x5 (some ⟨nI i, .ro⟩) (some ⟨nI j, .ro⟩) (some ⟨.bool h, .own⟩) (gE (getS 6)) (gE (getS 8)) (by simp [rr]) (by simp [rr])
    have a2 := patS_rr (hR.set hi j (if h then 1 else 0)) hj hi (v := if h then 0 else 1) b pk O Pl x5 (some ⟨nI i, .ro⟩) (some ⟨nI j, .ro⟩) (some ⟨.bool h, .own⟩) (gE (getS 8)) (gE (getS 6)) (by simp [rr]) (by simp [rr])
    have a3 : (lift (eif (qT (getS 9)) (mkT (aCons (cst (.int 1)) (aCons (cst (.int 0)) aNil))) (mkT (aCons (cst (.int 0)) (aCons (cst (.int 1)) aNil))))) (rr b n pk O Pl x5 (some ⟨nI i, .ro⟩) R (some ⟨nI j, .ro⟩) (some ⟨.bool h, .own⟩)) = some (.tuple [nI (if h then 1 else 0), nI (if h then 0 else 1)], rr b n pk O Pl x5 (some ⟨nI i, .ro⟩) R (some ⟨nI j, .ro⟩) (some ⟨.bool h, .own⟩)) := by
      cases h <;> simp [rr]
    refine sSet_of a3 ?_
    rw [patS_tp, patsS_cons, a1]
    simp only
    rw [patsS_cons, a2]
    simp
  cases t with
  | true =>
    obtain ⟨k, b2, e3, hb2, _, _⟩ := draw_ok hb1 (n := 2) (by omega) (by omega)
    refine ⟨b2, _, _, ?_, hb2, (hR.set hi j (if (k == 0) then 1 else 0)).set hj i (if (k == 0) then 0 else 1), NP.own (d := .bool (k == 0))⟩
    have e4 : sSet (.nm 9) (v2 eqD (callM 0 [.rd 0, .ev (lift (cst (.int 2)))] F__law_draw) (lift (cst (.int 0)))) (rr b1 n pk O Pl x5 (some ⟨nI i, .ro⟩) R (some ⟨nI j, .ro⟩) (some ⟨.bool (decide (q < p)), .own⟩)) = .nx (rr b2 n pk O Pl x5 (some ⟨nI i, .ro⟩) R (some ⟨nI j, .ro⟩) (some ⟨.bool (k == 0), .own⟩)) := by
      unfold rr
      simp [runAg, valAgs, valAg, e3]
    unfold gBody
    rw [sSeq_e]
    simp only [e1]
    rw [sSeq_e]
    simp only [sIf_t e2, e4, fin]
  | false =>
    refine ⟨b1, _, _, ?_, hb1, (hR.set hi j (if (decide (q < p)) then 1 else 0)).set hj i (if (decide (q < p)) then 0 else 1), NP.own (d := .bool (decide (q < p)))⟩
    unfold gBody
    rw [sSeq_e]
    simp only [e1]
    rw [sSeq_e]
    simp only [sIf_f e2, sNil_e, fin]
theorem games_loop {b : D} (hb : IsBox b) {n : Nat} (hn : n ≤ 9) {pk : Int} {O Pl : List D} {x5 : Option Cl} {R : List (List Nat)} (hR : Sq n R) (hP : AI Pl) (hl : Pl.length = n) :
    Nxs (sFor [] (.nm 6) (lift (iR1 (aCons (getS 1) aNil))) (sFor [] (.nm 8) (lift (iR1 (aCons (getS 6) aNil))) gBody) (rr b n pk O Pl x5 none R none none))
      fun ρ => ∃ b' R' x6 x8 x9, ρ = rr b' n pk O Pl x5 x6 R' x8 x9 ∧ IsBox b' ∧ Sq n R' := by
  have hr := rng1_nat n (by omega)
  refine sFor_of (ds := rangeD 0 n) (ρ1 := rr b n pk O Pl x5 none R none none) (by unfold rr; simp [hr]) rfl ?_
  have := forS_rng (p := .nm 6) (b := sFor [] (.nm 8) (lift (iR1 (aCons (getS 6) aNil))) gBody) (fun k ρ => ∃ b' R' x6 x8 x9, ρ = rr b' n pk O Pl x5 x6 R' x8 x9 ∧ IsBox b' ∧ Sq n R' ∧ NP x6 ∧ NP x8 ∧ NP x9) n (rr b n pk O Pl x5 none R none none)
    ⟨b, R, none, none, none, rfl, hb, hR, NP.none, NP.none, NP.none⟩ (fun i ρ hi hI => by
      obtain ⟨b1, R1, x6, x8, x9, rfl, hb1, hR1, n6, n8, n9⟩ := hI
      refine ⟨rr b1 n pk O Pl x5 (some ⟨nI i, .ro⟩) R1 x8 x9, by unfold rr; simp [setS_np n6], ?_⟩
      have hr2 := rng1_nat i (by omega)
      refine sFor_of (ds := rangeD 0 i) (ρ1 := rr b1 n pk O Pl x5 (some ⟨nI i, .ro⟩) R1 x8 x9) (by unfold rr; simp [hr2]) rfl ?_
      have := forS_rng (p := .nm 8) (b := gBody) (fun k ρ => ∃ b' R' x8 x9, ρ = rr b' n pk O Pl x5 (some ⟨nI i, .ro⟩) R' x8 x9 ∧ IsBox b' ∧ Sq n R' ∧ NP x8 ∧ NP x9) i (rr b1 n pk O Pl x5 (some ⟨nI i, .ro⟩) R1 x8 x9)
        ⟨b1, R1, x8, x9, rfl, hb1, hR1, n8, n9⟩ (fun j ρ hj hI => by
          obtain ⟨b2, R2, y8, y9, rfl, hb2, hR2, m8, m9⟩ := hI
          obtain ⟨b3, R3, z9, e, hb3, hR3, m9'⟩ := gBody_ok hb2 (pk := pk) (O := O) (x5 := x5) hR2 hP hl hi (j := j) (by omega) m9
          exact ⟨rr b2 n pk O Pl x5 (some ⟨nI i, .ro⟩) R2 (some ⟨nI j, .ro⟩) y9, by unfold rr; simp [setS_np m8], _, e, b3, R3, _, z9, rfl, hb3, hR3, NP.ro, m9'⟩)
      obtain ⟨ρ, e, b', R', y8, y9, h1, h2, h3, h4, h5⟩ := this
      exact ⟨ρ, e, b', R', _, y8, y9, h1, h2, h3, NP.ro, h4, h5⟩)
  obtain ⟨ρ, e, b', R', x6, x8, x9, h1, h2, h3, _⟩ := this
  exact ⟨ρ, e, b', R', x6, x8, x9, h1, h2, h3⟩
theorem zeros_mul (n : Nat) (hn : n ≤ 9) : mulD (.list [.int 0]) (nI n) = some (lN (List.replicate n 0)) := by
  have : n = 0 ∨ n = 1 ∨ n = 2 ∨ n = 3 ∨ n = 4 ∨ n = 5 ∨ n = 6 ∨ n = 7 ∨ n = 8 ∨ n = 9 := by omega
  rcases this with rfl | rfl | rfl | rfl | rfl | rfl | rfl | rfl | rfl | rfl <;> rfl
theorem round_ok {b : D} (hb : IsBox b) {n : Nat} (hn : n ≤ 9) : ∃ d b', F__law_round [b, nI n] = some (d, b') ∧ (∃ R : List (List Nat), d = .tuple (R.map tN) ∧ R.length = n) ∧ IsBox b' := by
  refine runN_of (np := 2) (n := 11) (m := 0) (B := B__law_round) (ds := [b, nI n]) (Po := fun d b' => (∃ R : List (List Nat), d = .tuple (R.map tN) ∧ R.length = n) ∧ IsBox b') rfl ?_
  show Rts (B__law_round [some ⟨b, .pin⟩, some ⟨nI n, .ro⟩, none, none, none, none, none, none, none, none, none]) _
  unfold B__law_round
  obtain ⟨pk, b1, e1, hb1, _, _⟩ := draw_ok hb (n := 3) (by omega) (by omega)
  have hrg : rgMk .list (some (.int 0)) (some (nI n)) = some (.list (rangeD 0 n)) := by
    unfold rgMk nI
    simp only
    rw [if_pos ⟨by decide, by omega⟩, Int.sub_zero]
    rfl
  refine seqR1 (ρ' := [some ⟨b1, .pin⟩, some ⟨nI n, .ro⟩, some ⟨.int pk, .own⟩, some ⟨.list (rangeD 0 n), .own⟩, none, none, none, none, none, none, none]) (by simp [runAg, valAgs, valAg, e1, hrg]) ?_
  refine seqR1 (ρ' := pl b1 n pk (rangeD 0 n) [] none) (by simp [pl]) ?_
  refine Nxs.seqR (pop_loop hb1 n hn pk (O := rangeD 0 n) (fun d m => by rw [range_nI] at m; obtain ⟨k, _, rfl⟩ := List.mem_map.mp m; exact ⟨k, rfl⟩) (rangeD_len _ _)) fun ρ hρ => ?_
  obtain ⟨b2, O2, P2, x5, rfl, hb2, hP2, hl2⟩ := hρ
  have hr := rng1_nat n (by omega)
  have hm := zeros_mul n hn
  have hz : lcS (stepE (.nm 6) tAll (o2 mulD (mkL (aCons (cst (.int 0)) aNil)) (getS 1)) (wipR (pl b2 n pk O2 P2 x5) [6])) ((List.range n).map nI) = some ((List.range n).map fun _ => lN (List.replicate n 0)) :=
    lcS_mapM fun k _ => by
      unfold pl
      simp only [wipR, stepE_e]
      simp [hm]
  have ez := eLc_of (p := .nm 6) (vs := [6]) (hi := iR1 (aCons (getS 1) aNil)) (t := tAll) (e := o2 mulD (mkL (aCons (cst (.int 0)) aNil)) (getS 1)) (ρ := pl b2 n pk O2 P2 x5) (by unfold pl; simp [hr, range_nI]) (by simp; omega) hz
  have ez2 : ((List.range n).map fun _ => lN (List.replicate n 0)) = ((List.range n).map fun _ => List.replicate n 0).map lN := by rw [List.map_map]; rfl
  rw [ez2] at ez
  refine seqR1 (ρ' := rr b2 n pk O2 P2 x5 none ((List.range n).map fun _ => List.replicate n 0) none none) (sSet_of (lift_of ez) (by simp [pl, rr])) ?_
  refine Nxs.seqR (games_loop hb2 hn (R := (List.range n).map fun _ => List.replicate n 0) ⟨by simp, fun r m => by obtain ⟨_, _, rfl⟩ := List.mem_map.mp m; simp⟩ hP2 hl2) fun ρ hρ => ?_
  obtain ⟨b3, R, x6, x8, x9, rfl, hb3, hR⟩ := hρ
  have hf : lcS (stepE (.nm 10) tAll (u1 tupD (getS 10)) (wipR (rr b3 n pk O2 P2 x5 x6 R x8 x9) [10])) (R.map lN) = some (R.map tN) :=
    lcS_mapM fun r _ => by
      have := pure_nI r
      unfold rr
      simp only [wipR, stepE_e]
      simp [tupD, this]
  have ef := eLc_of (p := .nm 10) (vs := [10]) (hi := iS (getS 7)) (t := tAll) (e := u1 tupD (getS 10)) (ρ := rr b3 n pk O2 P2 x5 x6 R x8 x9) (ds := R.map lN) (by unfold rr; simp) (by have := hR.1; simp; omega) hf
  refine ⟨.tuple (R.map tN), _, sRet_of (lift_of ?_), ⟨b3, .pin⟩, rfl, ⟨R, rfl, hR.1⟩, hb3⟩
  simp only [u1_e, ef, Option.bind_some]
  rw [tupD]
  exact if_pos (pure_tNs R)
end T92

set_option Elab.async false
set_option linter.all false
set_option maxRecDepth 100000
set_option maxHeartbeats 4000000
namespace T92
open PySem PySem.Spec PyProof.Rows L2 PV
/-! the law in pieces; its end -/
noncomputable def qx1 : Rh → Out := sSet (.nm 2) (v2 addD (lift (cst (.int 1))) (callM 1 [.rd 1, .ev (lift (cst (.int 9)))] F__law_draw))
noncomputable def qx2 : Rh → Out := sPar 3 4 (bCons (fnV F__law_scores (bCons (callM 1 [.rd 1, .ev (lift (gE (getS 2)))] F__law_round) bNil)) (bCons (callM 1 [.rd 1, .ev (lift (cst (.int 4)))] F__law_draw) bNil))
noncomputable def qx3 : Rh → Out := sIf (lift (qB (o2 eqD (getS 4) (cst (.int 0))))) (sSet (.nm 3) (w1 tupD (vLc [] (.nm 5) [5] (lift (iR1 (aCons (getS 2) aNil))) (lift tAll) (callM 1 [.rd 1, .ev (lift (o2 addD (getS 2) (cst (.int 1))))] F__law_draw)))) (sNil)
noncomputable def qx4 : Rh → Out := sIf (lift (qB (o2 eqD (getS 4) (cst (.int 1))))) (sSeq (sSet (.tp [.nm 5, .nm 6]) (nkT (bCons (callM 1 [.rd 1, .ev (lift (gE (getS 2)))] F__law_draw) (bCons (callM 1 [.rd 1, .ev (lift (gE (getS 2)))] F__law_draw) bNil)))) (sSet (.nm 3) (lift (u1 tupD (eLc (.tp [.nm 18, .nm 20]) [18, 20] (iE (getS 3)) tAll (o2 subD (o2 addD (getS 20) (eif (qB (o2 eqD (getS 18) (getS 5))) (cst (.int 1)) (cst (.int 0)))) (eif (pand (qB (o2 eqD (getS 18) (getS 6))) (qB (o2 gtI (getS 20) (cst (.int 0))))) (cst (.int 1)) (cst (.int 0))))))))) (sNil)
noncomputable def qx5 : Rh → Out := sSet (.nm 7) (lift (u1 tupD (eLc (.nm 18) [18] (iR3 (aCons (o2 subD (getS 2) (cst (.int 1))) (aCons (cst (.int 0)) (aCons (u1 negI (cst (.int 1))) aNil)))) tAll (gE (getS 18)))))
noncomputable def qx6 : Rh → Out := sSet (.nm 8) (lift (u1 tupD (eLc (.nm 19) [19] (iS (u1 revE (fnE (sortF false) (aCons (getS 3) aNil)))) (qB (o2 gtI (getS 19) (cst (.int 0)))) (gE (getS 19)))))
noncomputable def qx7 : Rh → Out := sSet (.nm 9) (lift (fnE F__law_under (aCons (getS 7) (aCons (getS 8) aNil))))
noncomputable def qx8 : Rh → Out := sIf (lift (por (pnot (qT (fnE F__law_same (aCons (fnE F_is_score_row (aCons (getS 3) aNil)) (aCons (getS 9) aNil))))) (por (pnot (qT (fnE F__law_same (aCons (fnE F_dominates (aCons (getS 7) (aCons (fnE F_sorted_down (aCons (getS 3) aNil)) aNil))) (aCons (getS 9) aNil))))) (pnot (qT (fnE F__law_same (aCons (fnE F_sorted_down (aCons (getS 3) aNil)) (aCons (getS 8) aNil)))))))) (sRet (lift (cst (.bool false)))) (sNil)
noncomputable def qx9 : Rh → Out := sIf (lift (qT (getS 9))) (sSeq (sFor [] (.nm 10) (lift (iS (fnE F_steps_down (aCons (getS 8) aNil)))) (sIf (lift (pand (qB (o2 leD (fnE lenF (aCons (getS 10) aNil)) (getS 2))) (qB (o2 isNotD (fnE F_is_score_row (aCons (o2 addD (getS 10) (o2 mulE (mkT (aCons (cst (.int 0)) aNil)) (o2 subD (getS 2) (fnE lenF (aCons (getS 10) aNil))))) aNil)) (cst (.bool true)))))) (sRet (lift (cst (.bool false)))) (sNil))) (sSeq (sSet (.tp [.nm 11, .nm 12]) (lift (fnE F_descent (aCons (getS 7) (aCons (getS 8) aNil))))) (sIf (lift (por (qB (o2 neD (getS 11) (cst (.str "descent")))) (qB (o2 isNotD (fnE F_is_descent (aCons (getS 7) (aCons (getS 8) (aCons (getS 12) aNil)))) (cst (.bool true)))))) (sRet (lift (cst (.bool false)))) (sNil)))) (sNil)
noncomputable def qx10 : Rh → Out := sSet (.nm 13) (v2 addD (lift (cst (.int 1))) (callM 1 [.rd 1, .ev (lift (cst (.int 6)))] F__law_draw))
noncomputable def qx11 : Rh → Out := sSet (.nm 7) (lift (u1 tupD (eLc (.nm 18) [18] (iR3 (aCons (o2 subD (getS 13) (cst (.int 1))) (aCons (cst (.int 0)) (aCons (u1 negI (cst (.int 1))) aNil)))) tAll (gE (getS 18)))))
noncomputable def qx12 : Rh → Out := sSet (.nm 14) (lift (eLc (.nm 17) [17] (iS (fnE F__law_partitions (aCons (o2 fdivD (o2 mulD (getS 13) (o2 subD (getS 13) (cst (.int 1)))) (cst (.int 2))) (aCons (getS 13) (aCons (getS 13) aNil))))) (qT (fnE F__law_under (aCons (getS 7) (aCons (getS 17) aNil)))) (gE (getS 17))))
noncomputable def qx13 : Rh → Out := sSet (.nm 15) (lift (u1 tupD (fnE (sortF false) (aCons (eLc (.nm 17) [17] (iS (getS 14)) tAll (o2 addD (o2 mulE (mkT (aCons (cst (.int 0)) aNil)) (o2 subD (getS 13) (fnE lenF (aCons (getS 17) aNil)))) (u1 revE (getS 17)))) aNil))))
noncomputable def qx14 : Rh → Out := sIf (lift (por (pnot (qT (fnE F__law_same (aCons (fnE F_rising_rows (aCons (getS 13) aNil)) (aCons (getS 15) aNil))))) (pnot (qT (fnE F__law_same (aCons (fnE F_count_rising (aCons (getS 13) aNil)) (aCons (fnE lenF (aCons (getS 15) aNil)) aNil))))))) (sRet (lift (cst (.bool false)))) (sNil)
noncomputable def qx15 : Rh → Out := sSet (.nm 16) (lift (eif (qB (o2 eqD (o2 modI (getS 13) (cst (.int 2))) (cst (.int 0)))) (u1 tupD (o2 addD (o2 mulD (mkL (aCons (o2 fdivD (o2 subD (getS 13) (cst (.int 1))) (cst (.int 2))) aNil)) (o2 subD (getS 13) (o2 fdivD (getS 13) (cst (.int 2))))) (o2 mulD (mkL (aCons (o2 fdivD (getS 13) (cst (.int 2))) aNil)) (o2 fdivD (getS 13) (cst (.int 2)))))) (o2 mulE (mkT (aCons (o2 fdivD (o2 subD (getS 13) (cst (.int 1))) (cst (.int 2))) aNil)) (getS 13))))
noncomputable def qx16 : Rh → Out := sRet (lift (eand (o2 inD (getS 16) (getS 15)) (fnE allF (aCons (eLc (.nm 17) [17] (iS (getS 15)) tAll (o2 leD (fnE F_threes_of (aCons (getS 17) aNil)) (fnE F_threes_of (aCons (getS 16) aNil)))) aNil))))
theorem qx_eq : B_law = sSeq qx1 (sSeq qx2 (sSeq qx3 (sSeq qx4 (sSeq qx5 (sSeq qx6 (sSeq qx7 (sSeq qx8 (sSeq qx9 (sSeq qx10 (sSeq qx11 (sSeq qx12 (sSeq qx13 (sSeq qx14 (sSeq qx15 (qx16))))))))))))))) := rfl
noncomputable def qT : Rh → Out := sSeq qx11 (sSeq qx12 (sSeq qx13 (sSeq qx14 (sSeq qx15 qx16))))
theorem qx_eqT : B_law = sSeq qx1 (sSeq qx2 (sSeq qx3 (sSeq qx4 (sSeq qx5 (sSeq qx6 (sSeq qx7 (sSeq qx8 (sSeq qx9 (sSeq qx10 qT))))))))) := rfl
def isT : Out → Bool
  | .rt (.bool true) _ => true
  | _ => false
theorem isT_rts {o : Out} (h : isT o = true) : Rts o fun d _ => d = .bool true := by
  unfold isT at h
  split at h
  · exact ⟨_, _, rfl, rfl⟩
  · cases h
def tl (a0 a1 a2 a3 a4 a5 a6 : Option Cl) (a7 : D) (a8 a9 a10 a11 a12 : Option Cl) (few : Int) : Rh := [a0, a1, a2, a3, a4, a5, a6, some ⟨a7, .own⟩, a8, a9, a10, a11, a12, some ⟨.int few, .own⟩, none, none, none, none, none, none, none]
end T92

set_option Elab.async false
set_option linter.all false
set_option maxRecDepth 100000
set_option maxHeartbeats 4000000
namespace T92
open PySem PySem.Spec PyProof.Rows L2 PV
/-! the law's end, for each number of players up to six, by the kernel -/
theorem tail1 (a0 a1 a2 a3 a4 a5 a6 : Option Cl) (a7 : D) (a8 a9 a10 a11 a12 : Option Cl) : isT (qT (tl a0 a1 a2 a3 a4 a5 a6 a7 a8 a9 a10 a11 a12 1)) = true := by kernel_rfl
theorem tail2 (a0 a1 a2 a3 a4 a5 a6 : Option Cl) (a7 : D) (a8 a9 a10 a11 a12 : Option Cl) : isT (qT (tl a0 a1 a2 a3 a4 a5 a6 a7 a8 a9 a10 a11 a12 2)) = true := by kernel_rfl
theorem tail3 (a0 a1 a2 a3 a4 a5 a6 : Option Cl) (a7 : D) (a8 a9 a10 a11 a12 : Option Cl) : isT (qT (tl a0 a1 a2 a3 a4 a5 a6 a7 a8 a9 a10 a11 a12 3)) = true := by kernel_rfl
theorem tail4 (a0 a1 a2 a3 a4 a5 a6 : Option Cl) (a7 : D) (a8 a9 a10 a11 a12 : Option Cl) : isT (qT (tl a0 a1 a2 a3 a4 a5 a6 a7 a8 a9 a10 a11 a12 4)) = true := by kernel_rfl
theorem tail5 (a0 a1 a2 a3 a4 a5 a6 : Option Cl) (a7 : D) (a8 a9 a10 a11 a12 : Option Cl) : isT (qT (tl a0 a1 a2 a3 a4 a5 a6 a7 a8 a9 a10 a11 a12 5)) = true := by kernel_rfl
theorem tail6 (a0 a1 a2 a3 a4 a5 a6 : Option Cl) (a7 : D) (a8 a9 a10 a11 a12 : Option Cl) : isT (qT (tl a0 a1 a2 a3 a4 a5 a6 a7 a8 a9 a10 a11 a12 6)) = true := by kernel_rfl
theorem tail_ok {few : Int} (h1 : 1 ≤ few) (h2 : few ≤ 6) (a0 a1 a2 a3 a4 a5 a6 : Option Cl) (a7 : D) (a8 a9 a10 a11 a12 : Option Cl) : Rts (qT (tl a0 a1 a2 a3 a4 a5 a6 a7 a8 a9 a10 a11 a12 few)) fun d _ => d = .bool true := by
  have : few = 1 ∨ few = 2 ∨ few = 3 ∨ few = 4 ∨ few = 5 ∨ few = 6 := by omega
  rcases this with rfl | rfl | rfl | rfl | rfl | rfl
  · exact isT_rts (tail1 ..)
  · exact isT_rts (tail2 ..)
  · exact isT_rts (tail3 ..)
  · exact isT_rts (tail4 ..)
  · exact isT_rts (tail5 ..)
  · exact isT_rts (tail6 ..)
end T92

set_option Elab.async false
set_option linter.all false
set_option maxRecDepth 100000
set_option maxHeartbeats 4000000
namespace T92
open PySem PySem.Spec PyProof.Rows L2 PV
/-! the law, up to the number of few -/
def st (b : D) (x2 x3 x4 x5 x6 x7 x8 x9 x10 x11 x12 : Option Cl) : Rh := [none, some ⟨b, .own⟩, x2, x3, x4, x5, x6, x7, x8, x9, x10, x11, x12, none, none, none, none, none, none, none, none]
abbrev ow (d : D) : Option Cl := some ⟨d, .own⟩
theorem l1_ok {b : D} (hb : IsBox b) : ∃ n b', qx1 (st b none none none none none none none none none none none) = .nx (st b' (ow (nI n)) none none none none none none none none none none) ∧ IsBox b' ∧ 1 ≤ n ∧ n ≤ 9 := by
  obtain ⟨k, b', e, hb', k0, k1⟩ := draw_ok hb (n := 9) (by omega) (by omega)
  obtain ⟨j, rfl⟩ := Int.eq_ofNat_of_zero_le k0
  refine ⟨1 + j, b', ?_, hb', by omega, by omega⟩
  simp [qx1, st, runAg, valAgs, valAg, e, nI]
theorem l2_ok {b : D} (hb : IsBox b) {n : Nat} (h1 : 1 ≤ n) (h9 : n ≤ 9) : ∃ (s : List Nat) (pk : Int) (b' : D), qx2 (st b (ow (nI n)) none none none none none none none none none none) = .nx (st b' (ow (nI n)) (ow (tN s)) (ow (.int pk)) none none none none none none none none) ∧ IsBox b' ∧ s.length = n := by
  obtain ⟨d, b1, e1, ⟨R, rfl, hR⟩, hb1⟩ := round_ok hb h9
  obtain ⟨k, b2, e2, hb2, k0, k1⟩ := draw_ok hb1 (n := 4) (by omega) (by omega)
  have e3 := scores_eq R (by omega)
  refine ⟨R.map List.sum, k, b2, ?_, hb2, by rw [List.length_map, hR]⟩
  have f1 : (fnV F__law_scores (bCons (callM 1 [.rd 1, .ev (lift (gE (getS 2)))] F__law_round) bNil)) (st b (ow (nI n)) none none none none none none none none none none) = some (tN (R.map List.sum), st b1 (ow (nI n)) none none none none none none none none none none) := by
    simp [st, runAg, valAgs, valAg, e1, -List.map_map, e3]
  have f2 : (callM 1 [.rd 1, .ev (lift (cst (.int 4)))] F__law_draw) (st b1 (ow (nI n)) none none none none none none none none none none) = some (.int k, st b2 (ow (nI n)) none none none none none none none none none none) := by
    simp [st, runAg, valAgs, valAg, e2]
  simp only [qx2, sPar_e, bCons_e, bNil_e, f1, f2]
  simp [st]
theorem nats_of {r : List D} {m : Int} : (∀ x ∈ r, ∃ i : Int, x = .int i ∧ 0 ≤ i) → ∃ l : List Nat, r = l.map nI := by
  induction r with
  | nil => exact fun _ => ⟨[], rfl⟩
  | cons d r ih =>
    intro h
    obtain ⟨l, rfl⟩ := ih fun x m => h x (List.mem_cons_of_mem _ m)
    obtain ⟨i, rfl, hi⟩ := h d List.mem_cons_self
    obtain ⟨j, rfl⟩ := Int.eq_ofNat_of_zero_le hi
    exact ⟨j :: l, rfl⟩
theorem l3_ok {b : D} (hb : IsBox b) {n : Nat} (h1 : 1 ≤ n) (h9 : n ≤ 9) {s : List Nat} (hs : s.length = n) (pk : Int) : ∃ (s' : List Nat) (b' : D), qx3 (st b (ow (nI n)) (ow (tN s)) (ow (.int pk)) none none none none none none none none) = .nx (st b' (ow (nI n)) (ow (tN s')) (ow (.int pk)) none none none none none none none none) ∧ IsBox b' ∧ s'.length = n := by
  by_cases hp : pk = 0
  · subst hp
    have hr := rng1_nat n (by omega)
    obtain ⟨r, ρ', e, ⟨b', hb', rfl⟩, hl, ha⟩ := lcV_all (p := .nm 5) (e := callM 1 [.rd 1, .ev (lift (o2 addD (getS 2) (cst (.int 1))))] F__law_draw) (vs := [5]) (fun ρ => ∃ b', IsBox b' ∧ ρ = st b' (ow (nI n)) (ow (tN s)) (ow (.int 0)) none none none none none none none none) (fun d => True) (fun _ y => ∃ i : Int, y = .int i ∧ 0 ≤ i) (fun d ρ _ hI => by
      obtain ⟨b1, hb1, rfl⟩ := hI
      obtain ⟨k, b2, e2, hb2, p2, q2⟩ := draw_ok hb1 (n := (n : Int) + 1) (by omega) (by omega)
      refine ⟨st b1 (ow (nI n)) (ow (tN s)) (ow (.int 0)) (some ⟨d, .ro⟩) none none none none none none none, .int k, st b2 (ow (nI n)) (ow (tN s)) (ow (.int 0)) (some ⟨d, .ro⟩) none none none none none none none, by simp [st], ?_, ⟨k, rfl, p2⟩, by simp [noPin, st], b2, hb2, by simp [wipR, st]⟩
      simp [st, runAg, valAgs, valAg, e2]) (rangeD 0 n) (st b (ow (nI n)) (ow (tN s)) (ow (.int 0)) none none none none none none none none) (fun _ _ => trivial) ⟨b, hb, rfl⟩
    obtain ⟨l, rfl⟩ := nats_of (m := 0) fun x m => by obtain ⟨d, _, h⟩ := ha x m; exact h
    refine ⟨l, b', ?_, hb', by rw [List.length_map, rangeD_len] at hl; exact hl⟩
    have ev : vLc [] (.nm 5) [5] (lift (iR1 (aCons (getS 2) aNil))) (lift tAll) (callM 1 [.rd 1, .ev (lift (o2 addD (getS 2) (cst (.int 1))))] F__law_draw) (st b (ow (nI n)) (ow (tN s)) (ow (.int 0)) none none none none none none none none) = some (.list (l.map nI), st b' (ow (nI n)) (ow (tN s)) (ow (.int 0)) none none none none none none none none) := by
      refine vLc_of (ds := rangeD 0 n) (ρ1 := st b (ow (nI n)) (ow (tN s)) (ow (.int 0)) none none none none none none none none) (lift_of ?_) (by rw [rangeD_len]; omega) (by simp [noPin, st]) rfl ?_
      · simp [st, hr]
      · have hw : wipR (st b (ow (nI n)) (ow (tN s)) (ow (.int 0)) none none none none none none none none) [5] = st b (ow (nI n)) (ow (tN s)) (ow (.int 0)) none none none none none none none none := by simp [wipR, st]
        rw [hw]; exact e
    have hp := pure_nI l
    unfold qx3
    rw [sIf_t (ρ1 := st b (ow (nI n)) (ow (tN s)) (ow (.int 0)) none none none none none none none none) (by simp [st])]
    refine sSet_of (w1_of ev (z := tN l) (by rw [tupD]; exact if_pos hp)) (by simp [st])
  · have hp' : (pk == 0) = false := by simpa using hp
    refine ⟨s, b, ?_, hb, hs⟩
    unfold qx3
    rw [sIf_f (ρ1 := st b (ow (nI n)) (ow (tN s)) (ow (.int pk)) none none none none none none none none) (by simp [st, hp'])]
    simp
def twk (s : List Nat) (i j : Int) : List Nat := (List.range s.length).map fun k => s.getD k 0 + (if ((k : Int) == i) = true then 1 else 0) - (if ((k : Int) == j) = true ∧ 0 < s.getD k 0 then 1 else 0)
theorem twk_len (s : List Nat) (i j : Int) : (twk s i j).length = s.length := by simp [twk]
theorem l4_ok {b : D} (hb : IsBox b) {n : Nat} (h1 : 1 ≤ n) (h9 : n ≤ 9) {s : List Nat} (hs : s.length = n) (pk : Int) : ∃ (s' : List Nat) (x5 x6 : Option Cl) (b' : D), qx4 (st b (ow (nI n)) (ow (tN s)) (ow (.int pk)) none none none none none none none none) = .nx (st b' (ow (nI n)) (ow (tN s')) (ow (.int pk)) x5 x6 none none none none none none) ∧ IsBox b' ∧ s'.length = n := by
  by_cases hp : pk = 1
  · subst hp
    obtain ⟨i, b1, e1, hb1, i0, i1⟩ := draw_ok hb (n := (n : Int)) (by omega) (by omega)
    obtain ⟨j, b2, e2, hb2, j0, j1⟩ := draw_ok hb1 (n := (n : Int)) (by omega) (by omega)
    have hl : lcS (stepE (.tp [.nm 18, .nm 20]) tAll (o2 subD (o2 addD (getS 20) (eif (qB (o2 eqD (getS 18) (getS 5))) (cst (.int 1)) (cst (.int 0)))) (eif (pand (qB (o2 eqD (getS 18) (getS 6))) (qB (o2 gtI (getS 20) (cst (.int 0))))) (cst (.int 1)) (cst (.int 0)))) (wipR (st b2 (ow (nI n)) (ow (tN s)) (ow (.int 1)) (ow (.int i)) (ow (.int j)) none none none none none none) [18, 20])) ((List.range s.length).map fun k => .tuple [nI k, nI (s.getD k 0)]) = some ((List.range s.length).map fun k => nI (s.getD k 0 + (if ((k : Int) == i) = true then 1 else 0) - (if ((k : Int) == j) = true ∧ 0 < s.getD k 0 then 1 else 0))) :=
      lcS_mapM fun k _ => by
        generalize s.getD k 0 = v
        unfold st
        simp only [wipR, stepE_e]
        cases c1 : ((k : Int) == i) <;> cases c2 : ((k : Int) == j) <;> by_cases c3 : 0 < v <;> simp [c1, c2, c3, nI] <;> omega
    have he : enumD (s.map nI) = (List.range s.length).map fun k => .tuple [nI k, nI (s.getD k 0)] := by
      rw [enumD_range, List.length_map]
      refine List.map_congr_left fun k hk => ?_
      have hk := List.mem_range.mp hk
      rw [List.getD_eq_getElem?_getD, List.getElem?_map, List.getElem?_eq_getElem hk, List.getD_eq_getElem?_getD, List.getElem?_eq_getElem hk]
      rfl
    have e3 := eLc_of (p := .tp [.nm 18, .nm 20]) (vs := [18, 20]) (hi := iE (getS 3)) (t := tAll) (e := o2 subD (o2 addD (getS 20) (eif (qB (o2 eqD (getS 18) (getS 5))) (cst (.int 1)) (cst (.int 0)))) (eif (pand (qB (o2 eqD (getS 18) (getS 6))) (qB (o2 gtI (getS 20) (cst (.int 0))))) (cst (.int 1)) (cst (.int 0))))
      (ρ := st b2 (ow (nI n)) (ow (tN s)) (ow (.int 1)) (ow (.int i)) (ow (.int j)) none none none none none none) (by unfold st; simp [he]) (by simp; omega) hl
    have hm : ((List.range s.length).map fun k => nI (s.getD k 0 + (if ((k : Int) == i) = true then 1 else 0) - (if ((k : Int) == j) = true ∧ 0 < s.getD k 0 then 1 else 0))) = (twk s i j).map nI := by
      unfold twk
      rw [List.map_map]; rfl
    rw [hm] at e3
    refine ⟨twk s i j, ow (.int i), ow (.int j), b2, ?_, hb2, by rw [twk_len]; exact hs⟩
    unfold qx4
    rw [sIf_t (ρ1 := st b (ow (nI n)) (ow (tN s)) (ow (.int 1)) none none none none none none none none) (by simp [st])]
    rw [sSeq_e]
    have q1 : sSet (.tp [.nm 5, .nm 6]) (nkT (bCons (callM 1 [.rd 1, .ev (lift (gE (getS 2)))] F__law_draw) (bCons (callM 1 [.rd 1, .ev (lift (gE (getS 2)))] F__law_draw) bNil))) (st b (ow (nI n)) (ow (tN s)) (ow (.int 1)) none none none none none none none none) = .nx (st b2 (ow (nI n)) (ow (tN s)) (ow (.int 1)) (ow (.int i)) (ow (.int j)) none none none none none none) := by
      unfold st
      simp [runAg, valAgs, valAg, e1, e2]
    simp only [q1]
    refine sSet_of (lift_of (d := tN (twk s i j)) ?_) (by simp [st])
    simp only [u1_e, e3, Option.bind_some]
    rw [tupD]
    exact if_pos (pure_nI _)
  · have hp' : (pk == 1) = false := by simpa using hp
    refine ⟨s, none, none, b, ?_, hb, hs⟩
    unfold qx4
    rw [sIf_f (ρ1 := st b (ow (nI n)) (ow (tN s)) (ow (.int pk)) none none none none none none none none) (by simp [st, hp'])]
    simp
end T92

set_option Elab.async false
set_option linter.all false
set_option maxRecDepth 100000
set_option maxHeartbeats 4000000
namespace T92
open PySem PySem.Spec PyProof.Rows L2 PV
/-! the law -/
theorem PartN.pw : ∀ {l : List Nat}, PartN l → l.Pairwise (· ≥ ·)
  | [], _ => .nil
  | [a], _ => List.pairwise_singleton _ _
  | a :: b :: l, h => by
    have h2 : PartN (b :: l) := ⟨fun x m => h.1 x (List.mem_cons_of_mem _ m), fun k hk => h.2 (k + 1) (by simpa using hk)⟩
    have p := h2.pw
    have hab : b ≤ a := by simpa using h.2 0 (by simp)
    rw [List.pairwise_cons]
    refine ⟨fun x m => ?_, p⟩
    rcases List.mem_cons.mp m with rfl | m
    · exact hab
    · rw [List.pairwise_cons] at p
      exact Nat.le_trans (p.1 x m) hab
theorem row_of_part {l : List Nat} (h : PartN l) (k : Nat) : rowS (l ++ List.replicate k 0) = l := by
  have e : isort geN (l ++ List.replicate k 0) = l ++ List.replicate k 0 := by
    refine isort_of_ge ?_ (.refl _)
    rw [List.pairwise_append]
    refine ⟨h.pw, ?_, fun a _ b m => by rw [List.eq_of_mem_replicate m]; exact Nat.zero_le _⟩
    rw [List.pairwise_replicate]
    exact .inr (Nat.le_refl _)
  unfold rowS
  rw [e, List.filter_append]
  have e1 : l.filter (fun a => Nat.blt 0 a) = l := List.filter_eq_self.mpr fun a m => Nat.blt_eq.mpr (h.1 a m)
  have e2 : (List.replicate k 0).filter (fun a => Nat.blt 0 a) = [] := List.filter_eq_nil_iff.mpr fun a m => by rw [List.eq_of_mem_replicate m]; decide
  rw [e1, e2, List.append_nil]
theorem rowS_pw (s : List Nat) : (rowS s).Pairwise (· ≥ ·) := (isort_ge s).filter _
theorem rowS_pos (s : List Nat) : ∀ x ∈ rowS s, 0 < x := fun x m => Nat.blt_eq.mp (List.mem_filter.mp m).2
theorem l5_ok {b : D} {n : Nat} (h1 : 1 ≤ n) (h9 : n ≤ 9) (x3 x4 x5 x6 : Option Cl) : qx5 (st b (ow (nI n)) x3 x4 x5 x6 none none none none none none) = .nx (st b (ow (nI n)) x3 x4 x5 x6 (ow (tN (stairs n))) none none none none none) := by
  have hr := stairs_rng n h1 h9
  have hl : lcS (stepE (.nm 18) tAll (gE (getS 18)) (wipR (st b (ow (nI n)) x3 x4 x5 x6 none none none none none none) [18])) ((stairs n).map nI) = some ((stairs n).map nI) :=
    lcS_mapM fun k _ => by
      unfold st
      simp only [wipR, stepE_e]
      simp
  have e3 := eLc_of (p := .nm 18) (vs := [18]) (hi := iR3 (aCons (o2 subD (getS 2) (cst (.int 1))) (aCons (cst (.int 0)) (aCons (u1 negI (cst (.int 1))) aNil)))) (t := tAll) (e := gE (getS 18)) (ρ := st b (ow (nI n)) x3 x4 x5 x6 none none none none none none) (by unfold st; simp [hr]) (by rw [List.length_map, stairs_len]; omega) hl
  refine sSet_of (lift_of (d := tN (stairs n)) ?_) (by simp [st])
  simp only [u1_e, e3, Option.bind_some]
  rw [tupD]
  exact if_pos (pure_nI _)
theorem l6_ok {b : D} {x2 x4 x5 x6 x7 : Option Cl} {s : List Nat} (hs : s.length ≤ 900) : qx6 (st b x2 (ow (tN s)) x4 x5 x6 x7 none none none none none) = .nx (st b x2 (ow (tN s)) x4 x5 x6 x7 (ow (tN (rowS s))) none none none none) := by
  refine sSet_of (lift_of (row_law s hs _ (by simp [st]) (fun d => by simp [st, wipR]) (by simp [st]))) (by simp [st])
theorem l7_ok {b : D} {x2 x3 x4 x5 x6 : Option Cl} {t r : List Nat} (ht : t.length ≤ 900) (hr : r.length ≤ 900) : qx7 (st b x2 x3 x4 x5 x6 (ow (tN t)) (ow (tN r)) none none none none) = .nx (st b x2 x3 x4 x5 x6 (ow (tN t)) (ow (tN r)) (ow (.bool (domM t r))) none none none) := by
  have e := under_eq t r ht hr
  simp [qx7, st, e]
theorem l8_ok {b : D} {x4 x5 x6 : Option Cl} {n : Nat} {s : List Nat} (h1 : 1 ≤ n) (h9 : n ≤ 9) (hs : s.length = n) :
    qx8 (st b (ow (nI n)) (ow (tN s)) x4 x5 x6 (ow (tN (stairs n))) (ow (tN (rowS s))) (ow (.bool (domM (stairs n) (rowS s)))) none none none) = .nx (st b (ow (nI n)) (ow (tN s)) x4 x5 x6 (ow (tN (stairs n))) (ow (tN (rowS s))) (ow (.bool (domM (stairs n) (rowS s)))) none none none) := by
  have hrl := row_len s
  have e1 := row_dec s (by omega) (by omega)
  rw [hs] at e1
  have e2 := down_eq s (by omega)
  have e3 := dom_eq (stairs n) (rowS s) (by rw [stairs_len]; omega) (by omega)
  have e4 := same_bool (domM (stairs n) (rowS s)) (domM (stairs n) (rowS s))
  have e5 := same_tN (rowS s) (by omega)
  have e6 : (domM (stairs n) (rowS s) == domM (stairs n) (rowS s)) = true := by simp
  rw [e6] at e4
  simp [qx8, st, e1, e2, e3, e4, e5]
noncomputable abbrev wIf : Rh → Out := (sIf (lift (pand (qB (o2 leD (fnE lenF (aCons (getS 10) aNil)) (getS 2))) (qB (o2 isNotD (fnE F_is_score_row (aCons (o2 addD (getS 10) (o2 mulE (mkT (aCons (cst (.int 0)) aNil)) (o2 subD (getS 2) (fnE lenF (aCons (getS 10) aNil))))) aNil)) (cst (.bool true)))))) (sRet (lift (cst (.bool false)))) (sNil))
theorem wIf_ok {b : D} {x3 x4 x5 x6 x7 x8 x9 x11 x12 : Option Cl} {n : Nat} (h1 : 1 ≤ n) (h9 : n ≤ 9) {l : List Nat} (hp : PartN l) (hd : l.length ≤ n → Dm (stairs n) l) (hl : l.length ≤ 100) :
    wIf (st b (ow (nI n)) x3 x4 x5 x6 x7 x8 x9 (some ⟨tN l, .ro⟩) x11 x12) = .nx (st b (ow (nI n)) x3 x4 x5 x6 x7 x8 x9 (some ⟨tN l, .ro⟩) x11 x12) := by
  have l1 := len_tN l
  by_cases h : l.length ≤ n
  · have m1 := mulE_tup0 (.int 0) (n - l.length) rfl (by omega)
    have m2 : (PyData.int ((n - l.length : Nat) : Int)) = .int ((n : Int) - (l.length : Int)) := by congr 1; omega
    rw [m2] at m1
    have a1 : addD (tN l) (.tuple (List.replicate (n - l.length) (.int 0))) = some (tN (l ++ List.replicate (n - l.length) 0)) := by
      have := addT_ok (X := l.map nI) (Y := (List.replicate (n - l.length) 0).map nI) (pure_nI l) (pure_nI _) (by simp; omega)
      rw [← List.map_append] at this
      rw [List.map_replicate] at this
      exact this
    have e1 := row_dec (l ++ List.replicate (n - l.length) 0) (by simp; omega) (by simp; omega)
    have e2 : (l ++ List.replicate (n - l.length) 0).length = n := by simp; omega
    rw [e2, row_of_part hp, (domM_iff _ _).mpr (hd h)] at e1
    have e3 : isNotD (.bool true) (.bool true) = some (.bool false) := rfl
    unfold wIf
    refine Eq.trans (sIf_f (ρ1 := st b (ow (nI n)) x3 x4 x5 x6 x7 x8 x9 (some ⟨tN l, .ro⟩) x11 x12) (lift_of ?_)) (by simp)
    simp only [pand_e, qB_e, o2_e, fnE_e, aCons_e, aNil_e, mkT_e, cst_e, st, getS_z, getS_s, l1, subD_int, Option.bind_some]
    simp [-List.map_append, m1, a1, e1, e3, h]
  · unfold wIf
    have h' : decide (l.length ≤ n) = false := decide_eq_false h
    simp [st, l1, h, h']
theorem l9_ok {b : D} {x4 x5 x6 : Option Cl} {n : Nat} {s : List Nat} (h1 : 1 ≤ n) (h9 : n ≤ 9) (hs : s.length = n) :
    ∃ x10 x11 x12, qx9 (st b (ow (nI n)) (ow (tN s)) x4 x5 x6 (ow (tN (stairs n))) (ow (tN (rowS s))) (ow (.bool (domM (stairs n) (rowS s)))) none none none) = .nx (st b (ow (nI n)) (ow (tN s)) x4 x5 x6 (ow (tN (stairs n))) (ow (tN (rowS s))) (ow (.bool (domM (stairs n) (rowS s)))) x10 x11 x12) := by
  have hrl := row_len s
  cases hd : domM (stairs n) (rowS s) with
  | false => exact ⟨none, none, none, by simp [qx9, st]⟩
  | true =>
    have hD := (domM_iff _ _).mp hd
    obtain ⟨⟨P, hP, hpp⟩, hst⟩ := rows_ok h9 h1 (rowS_pw s) (rowS_pos s) (by omega) hD
    have e0 := steps_eq (rowS s) (by omega)
    have e1 := desc_eq (by rw [stairs_len]; omega) (by omega) hD hP (fun p m => (hpp p m).2) (by omega)
    have e2 := descent_is (descP_pathOk hP hpp (by omega))
    have hL : Nxs (sFor [] (.nm 10) (lift (iS (fnE F_steps_down (aCons (getS 8) aNil)))) wIf (st b (ow (nI n)) (ow (tN s)) x4 x5 x6 (ow (tN (stairs n))) (ow (tN (rowS s))) (ow (.bool true)) none none none)) fun ρ => ∃ x10, ρ = st b (ow (nI n)) (ow (tN s)) x4 x5 x6 (ow (tN (stairs n))) (ow (tN (rowS s))) (ow (.bool true)) x10 none none := by
      refine sFor_of (ds := (steps (rowS s)).map tN) (ρ1 := st b (ow (nI n)) (ow (tN s)) x4 x5 x6 (ow (tN (stairs n))) (ow (tN (rowS s))) (ow (.bool true)) none none none) (by unfold st; simp [e0]) rfl ?_
      have := forS_inv (p := .nm 10) (b := wIf) (fun ρ => ∃ x10, ρ = st b (ow (nI n)) (ow (tN s)) x4 x5 x6 (ow (tN (stairs n))) (ow (tN (rowS s))) (ow (.bool true)) x10 none none ∧ NP x10) ((steps (rowS s)).map tN) (st b (ow (nI n)) (ow (tN s)) x4 x5 x6 (ow (tN (stairs n))) (ow (tN (rowS s))) (ow (.bool true)) none none none)
        (fun d m ρ hI => by
          obtain ⟨x10, rfl, hx⟩ := hI
          obtain ⟨l, hl, rfl⟩ := List.mem_map.mp m
          obtain ⟨p1, p2⟩ := hst l hl
          have := steps_mlen l hl
          exact ⟨st b (ow (nI n)) (ow (tN s)) x4 x5 x6 (ow (tN (stairs n))) (ow (tN (rowS s))) (ow (.bool true)) (some ⟨tN l, .ro⟩) none none, by unfold st; simp [setS_np hx], _, wIf_ok h1 h9 p1 p2 (by omega), _, rfl, NP.ro⟩) ⟨none, rfl, NP.none⟩
      obtain ⟨ρ, e, x, h, _⟩ := this
      exact ⟨ρ, e, x, h⟩
    obtain ⟨ρ1, eL, x10, rfl⟩ := hL
    refine ⟨x10, ow (.str "descent"), ow (.tuple (P.map tN)), ?_⟩
    have q1 : neD (.str "descent") (.str "descent") = some (.bool false) := by kernel_rfl
    have q2 : isNotD (.bool true) (.bool true) = some (.bool false) := rfl
    unfold qx9
    rw [sIf_t (ρ1 := st b (ow (nI n)) (ow (tN s)) x4 x5 x6 (ow (tN (stairs n))) (ow (tN (rowS s))) (ow (.bool true)) none none none) (by simp [st])]
    rw [sSeq_e]
    simp only [eL]
    rw [sSeq_e]
    have q3 : sSet (.tp [.nm 11, .nm 12]) (lift (fnE F_descent (aCons (getS 7) (aCons (getS 8) aNil)))) (st b (ow (nI n)) (ow (tN s)) x4 x5 x6 (ow (tN (stairs n))) (ow (tN (rowS s))) (ow (.bool true)) x10 none none) = .nx (st b (ow (nI n)) (ow (tN s)) x4 x5 x6 (ow (tN (stairs n))) (ow (tN (rowS s))) (ow (.bool true)) x10 (ow (.str "descent")) (ow (.tuple (P.map tN)))) := by
      unfold st
      simp [e1]
    simp only [q3]
    simp [st, q1, e2, q2]
theorem l10_ok {b : D} (hb : IsBox b) {x2 x3 x4 x5 x6 x8 x9 x10 x11 x12 : Option Cl} {a7 : D} : ∃ (few : Int) (b' : D), qx10 (st b x2 x3 x4 x5 x6 (ow a7) x8 x9 x10 x11 x12) = .nx (tl none (ow b') x2 x3 x4 x5 x6 a7 x8 x9 x10 x11 x12 few) ∧ 1 ≤ few ∧ few ≤ 6 := by
  obtain ⟨k, b', e, hb', k0, k1⟩ := draw_ok hb (n := 6) (by omega) (by omega)
  refine ⟨1 + k, b', ?_, by omega, by omega⟩
  simp [qx10, st, tl, runAg, valAgs, valAg, e]
theorem law_math : ∀ ns : List Int, ns.length ≤ 63 → ∃ ρ', B_law (rhoL N_law.length (boxD ns)) = .rt (.bool true) ρ' := by
  intro ns _
  have hR : Rts (B_law (rhoL 21 (boxD ns))) fun d _ => d = .bool true := by
    have h0 : rhoL 21 (boxD ns) = st (boxD ns) none none none none none none none none none none none := rfl
    rw [h0, qx_eqT]
    obtain ⟨n, b1, e1, hb1, h1, h9⟩ := l1_ok (isBox_box ns)
    refine seqR1 e1 ?_
    obtain ⟨s, pk, b2, e2, hb2, hs⟩ := l2_ok hb1 h1 h9
    refine seqR1 e2 ?_
    obtain ⟨s, b3, e3, hb3, hs⟩ := l3_ok hb2 h1 h9 hs pk
    refine seqR1 e3 ?_
    obtain ⟨s, x5, x6, b4, e4, hb4, hs⟩ := l4_ok hb3 h1 h9 hs pk
    refine seqR1 e4 ?_
    refine seqR1 (l5_ok h1 h9 _ _ _ _) ?_
    refine seqR1 (l6_ok (by omega)) ?_
    refine seqR1 (l7_ok (by rw [stairs_len]; omega) (by have := row_len s; omega)) ?_
    refine seqR1 (l8_ok h1 h9 hs) ?_
    obtain ⟨x10, x11, x12, e9⟩ := l9_ok (b := b4) (x4 := ow (.int pk)) (x5 := x5) (x6 := x6) h1 h9 hs
    refine seqR1 e9 ?_
    obtain ⟨few, b5, e10, f1, f6⟩ := l10_ok hb4 (x2 := ow (nI n)) (x3 := ow (tN s)) (x4 := ow (.int pk)) (x5 := x5) (x6 := x6) (a7 := tN (stairs n)) (x8 := ow (tN (rowS s))) (x9 := ow (.bool (domM (stairs n) (rowS s)))) (x10 := x10) (x11 := x11) (x12 := x12)
    refine seqR1 e10 ?_
    exact tail_ok f1 f6 ..
  obtain ⟨d, ρ, e, rfl⟩ := hR
  exact ⟨ρ, e⟩
end T92

set_option Elab.async false
set_option linter.all false
set_option maxRecDepth 100000
set_option maxHeartbeats 0
namespace T92
open PySem PySem.Spec PyProof.Rows L2 PV
/-! ### the head: facts by names, the run -/
def d_is_count : He.DefD := ⟨("is_count", none), "is_count", "is_count", defArgs s_is_count, defBody s_is_count, defScope s_is_count, [], []⟩
def d_games_of : He.DefD := ⟨("games_of", none), "games_of", "games_of", defArgs s_games_of, defBody s_games_of, defScope s_games_of, [], []⟩
def d_is_clash : He.DefD := ⟨("is_clash", none), "is_clash", "is_clash", defArgs s_is_clash, defBody s_is_clash, defScope s_is_clash, [], []⟩
def d_by_score : He.DefD := ⟨("by_score", none), "by_score", "by_score", defArgs s_by_score, defBody s_by_score, defScope s_by_score, [], []⟩
def d_a_clash : He.DefD := ⟨("a_clash", none), "a_clash", "a_clash", defArgs s_a_clash, defBody s_a_clash, defScope s_a_clash, [], []⟩
def d_is_score_row : He.DefD := ⟨("is_score_row", none), "is_score_row", "is_score_row", defArgs s_is_score_row, defBody s_is_score_row, defScope s_is_score_row, [], []⟩
def d_threes_of : He.DefD := ⟨("threes_of", none), "threes_of", "threes_of", defArgs s_threes_of, defBody s_threes_of, defScope s_threes_of, [], []⟩
def d_rising_rows : He.DefD := ⟨("rising_rows", none), "rising_rows", "rising_rows", defArgs s_rising_rows, defBody s_rising_rows, defScope s_rising_rows, [], []⟩
def d_count_rising : He.DefD := ⟨("count_rising", none), "count_rising", "count_rising", defArgs s_count_rising, defBody s_count_rising, defScope s_count_rising, [], []⟩
def d_is_partition : He.DefD := ⟨("is_partition", none), "is_partition", "is_partition", defArgs s_is_partition, defBody s_is_partition, defScope s_is_partition, [], []⟩
def d_size_of : He.DefD := ⟨("size_of", none), "size_of", "size_of", defArgs s_size_of, defBody s_size_of, defScope s_size_of, [], []⟩
def d_sorted_down : He.DefD := ⟨("sorted_down", none), "sorted_down", "sorted_down", defArgs s_sorted_down, defBody s_sorted_down, defScope s_sorted_down, [], []⟩
def d_sums_of : He.DefD := ⟨("sums_of", none), "sums_of", "sums_of", defArgs s_sums_of, defBody s_sums_of, defScope s_sums_of, [], []⟩
def d_dominates : He.DefD := ⟨("dominates", none), "dominates", "dominates", defArgs s_dominates, defBody s_dominates, defScope s_dominates, [], []⟩
def d_part_at : He.DefD := ⟨("part_at", none), "part_at", "part_at", defArgs s_part_at, defBody s_part_at, defScope s_part_at, [], []⟩
def d_moved : He.DefD := ⟨("moved", none), "moved", "moved", defArgs s_moved, defBody s_moved, defScope s_moved, [], []⟩
def d_is_step : He.DefD := ⟨("is_step", none), "is_step", "is_step", defArgs s_is_step, defBody s_is_step, defScope s_is_step, [], []⟩
def d_steps_down : He.DefD := ⟨("steps_down", none), "steps_down", "steps_down", defArgs s_steps_down, defBody s_steps_down, defScope s_steps_down, [], []⟩
def d_is_descent : He.DefD := ⟨("is_descent", none), "is_descent", "is_descent", defArgs s_is_descent, defBody s_is_descent, defScope s_is_descent, [], []⟩
def d_shortage : He.DefD := ⟨("shortage", none), "shortage", "shortage", defArgs s_shortage, defBody s_shortage, defScope s_shortage, [], []⟩
def d_descent : He.DefD := ⟨("descent", none), "descent", "descent", defArgs s_descent, defBody s_descent, defScope s_descent, [], []⟩
def d__law_box : He.DefD := ⟨("_law_box", none), "_law_box", "_law_box", defArgs s__law_box, defBody s__law_box, defScope s__law_box, [], []⟩
def d__law_load : He.DefD := ⟨("_law_load", none), "_law_load", "_law_load", defArgs s__law_load, defBody s__law_load, defScope s__law_load, [], []⟩
def d__law_draw : He.DefD := ⟨("_law_draw", none), "_law_draw", "_law_draw", defArgs s__law_draw, defBody s__law_draw, defScope s__law_draw, [], []⟩
def d__law_same : He.DefD := ⟨("_law_same", none), "_law_same", "_law_same", defArgs s__law_same, defBody s__law_same, defScope s__law_same, [], []⟩
def d__law_round : He.DefD := ⟨("_law_round", none), "_law_round", "_law_round", defArgs s__law_round, defBody s__law_round, defScope s__law_round, [], []⟩
def d__law_scores : He.DefD := ⟨("_law_scores", none), "_law_scores", "_law_scores", defArgs s__law_scores, defBody s__law_scores, defScope s__law_scores, [], []⟩
def d__law_partitions : He.DefD := ⟨("_law_partitions", none), "_law_partitions", "_law_partitions", defArgs s__law_partitions, defBody s__law_partitions, defScope s__law_partitions, [], []⟩
def d__law_under : He.DefD := ⟨("_law_under", none), "_law_under", "_law_under", defArgs s__law_under, defBody s__law_under, defScope s__law_under, [], []⟩
def d_law : He.DefD := ⟨("law", none), "law", "law", defArgs s_law, defBody s_law, defScope s_law, [], []⟩
def fn : List He.DefD := [d_is_count, d_games_of, d_is_clash, d_by_score, d_a_clash, d_is_score_row, d_threes_of, d_rising_rows, d_count_rising, d_is_partition, d_size_of, d_sorted_down, d_sums_of, d_dominates, d_part_at, d_moved, d_is_step, d_steps_down, d_is_descent, d_shortage, d_descent, d__law_box, d__law_load, d__law_draw, d__law_same, d__law_round, d__law_scores, d__law_partitions, d__law_under, d_law]
def fa : List He.Fa := [.glo "is_count", .glo "games_of", .glo "is_clash", .glo "by_score", .glo "a_clash", .glo "is_score_row", .glo "threes_of", .glo "rising_rows", .glo "count_rising", .glo "is_partition", .glo "size_of", .glo "sorted_down", .glo "sums_of", .glo "dominates", .glo "part_at", .glo "moved", .glo "is_step", .glo "steps_down", .glo "is_descent", .glo "shortage", .glo "descent", .glo "_law_box", .glo "_law_load", .glo "_law_draw", .glo "_law_same", .glo "_law_round", .glo "_law_scores", .glo "_law_partitions", .glo "_law_under", .glo "law", .free "len", .free "tuple", .free "list", .free "sum", .free "sorted", .free "range", .free "enumerate", .free "zip", .free "any", .free "all", .free "isinstance", .free "int", .free "min", .free "max", .free "set", .free "str", .free "abs", .free "dict", .free "bool"]
abbrev R : PySem.W.OpenRow := PySem.W.OpenLaw.row PySem.Challenge.rw_toldbysums_k92_whole_scores_under_the_st
def ts : List He.Tab := []
def ex (K : PySem.W.Frag) : Bool := true
def nsV0 : List Str := ["is_count", "games_of", "is_clash", "by_score", "a_clash", "is_score_row", "threes_of", "rising_rows", "count_rising", "is_partition", "size_of", "sorted_down", "sums_of", "dominates", "part_at", "moved", "is_step", "steps_down", "is_descent", "shortage", "descent", "_law_box", "_law_load", "_law_draw", "_law_same", "_law_round", "_law_scores", "_law_partitions", "_law_under", "law"]
def nsV : List Str := nsV0
def tf : List (He.Defn × Str) := [(("by_score", none), "by_score")]
abbrev hk : PySem.W.Hook := hookW fa fn ts tf ex nsV
def ob (s : PySem.W.SharedT) : AlV := obsW fa fn ts tf ex nsV (HandSHeadRun.getT s)
theorem ob_eq (s : PySem.W.SharedT) : ob s = hk.obs s.abs := obsW_eq (HandSHeadRun.getT_eq s)
def loose0 : List PySem.Str := ["is_count", "games_of", "is_clash", "by_score", "a_clash", "is_score_row", "threes_of", "rising_rows", "count_rising", "is_partition", "size_of", "sorted_down", "sums_of", "dominates", "part_at", "moved", "is_step", "steps_down", "is_descent", "shortage", "descent", "_law_box", "_law_load", "_law_draw", "_law_same", "_law_round", "_law_scores", "_law_partitions", "_law_under"]
def looseA : List PySem.Str := loose0
theorem run (w : World) : HandSHeadRun.RunEq R (PySem.W.view R.prog [34]) hk ob 6000 looseA w := by
  intro os
  kernel_rfl
theorem facts {P : Program} {w : World} {K : PySem.W.Frag} {h : Heap} {mg : Str → Option Value} {f : Addr} (X : K.In h) (G : h.Ns mainGlobals mg) (hfa : mg ("law" : Str) = some (.ref f)) (cx : SaysW fa fn ts tf ex w h K) :
    ∃ fd : FuncData, (∀ (s : Shared) (v : Value), BindsTo s fd ⟨[v], []⟩ [("script", v)]) ∧ ∀ base : Heap, K.In base → base.Ns mainGlobals mg → (∀ p ∈ tf.map (fun p => He.cT K p.1), LamX.TabB base mg p.1 p.2) → FnOk P w K mg base CX0 21 f fd ["script"] (@spLaw (tnK K tf) K) := by
  letI : TN := tnK K tf
  have c := cx.t.d
  have b_len : mg "len" = none := He.free_ok X G (c.fact 30 (f := .free "len") rfl)
  have b_tuple : mg "tuple" = none := He.free_ok X G (c.fact 31 (f := .free "tuple") rfl)
  have b_list : mg "list" = none := He.free_ok X G (c.fact 32 (f := .free "list") rfl)
  have b_sum : mg "sum" = none := He.free_ok X G (c.fact 33 (f := .free "sum") rfl)
  have b_sorted : mg "sorted" = none := He.free_ok X G (c.fact 34 (f := .free "sorted") rfl)
  have b_range : mg "range" = none := He.free_ok X G (c.fact 35 (f := .free "range") rfl)
  have b_enumerate : mg "enumerate" = none := He.free_ok X G (c.fact 36 (f := .free "enumerate") rfl)
  have b_zip : mg "zip" = none := He.free_ok X G (c.fact 37 (f := .free "zip") rfl)
  have b_any : mg "any" = none := He.free_ok X G (c.fact 38 (f := .free "any") rfl)
  have b_all : mg "all" = none := He.free_ok X G (c.fact 39 (f := .free "all") rfl)
  have b_isinstance : mg "isinstance" = none := He.free_ok X G (c.fact 40 (f := .free "isinstance") rfl)
  have b_int : mg "int" = none := He.free_ok X G (c.fact 41 (f := .free "int") rfl)
  have b_min : mg "min" = none := He.free_ok X G (c.fact 42 (f := .free "min") rfl)
  have b_max : mg "max" = none := He.free_ok X G (c.fact 43 (f := .free "max") rfl)
  have b_set : mg "set" = none := He.free_ok X G (c.fact 44 (f := .free "set") rfl)
  have b_str : mg "str" = none := He.free_ok X G (c.fact 45 (f := .free "str") rfl)
  have b_abs : mg "abs" = none := He.free_ok X G (c.fact 46 (f := .free "abs") rfl)
  have b_dict : mg "dict" = none := He.free_ok X G (c.fact 47 (f := .free "dict") rfl)
  have b_bool : mg "bool" = none := He.free_ok X G (c.fact 48 (f := .free "bool") rfl)
  have B : Bl mg := ⟨b_len, b_tuple, b_list, b_sum, b_sorted, b_range, b_enumerate, b_zip, b_any, b_all, b_isinstance, b_int, b_min, b_max, b_set, b_str, b_abs, b_dict, b_bool⟩
  have C : Cs mg := ⟨⟩
  obtain ⟨fd_is_count, D_is_count⟩ := c.def_ 0 (d := d_is_count) rfl
  have m_is_count := He.glo_ok X G (c.fact 0 (f := .glo "is_count") rfl)
  have n_is_count := FunD.bindsN (ps := ["value", "least", "most"]) D_is_count fun _ _ _ _ _ _ us hl => match us, hl with | [_, _, _], _ => rfl
  obtain ⟨fd_games_of, D_games_of⟩ := c.def_ 1 (d := d_games_of) rfl
  have m_games_of := He.glo_ok X G (c.fact 1 (f := .glo "games_of") rfl)
  have n_games_of := FunD.bindsN (ps := ["k"]) D_games_of fun _ _ _ _ _ _ us hl => match us, hl with | [_], _ => rfl
  obtain ⟨fd_is_clash, D_is_clash⟩ := c.def_ 2 (d := d_is_clash) rfl
  have m_is_clash := He.glo_ok X G (c.fact 2 (f := .glo "is_clash") rfl)
  have n_is_clash := FunD.bindsN (ps := ["scores", "value"]) D_is_clash fun _ _ _ _ _ _ us hl => match us, hl with | [_, _], _ => rfl
  obtain ⟨fd_by_score, D_by_score⟩ := c.def_ 3 (d := d_by_score) rfl
  have m_by_score := He.glo_ok X G (c.fact 3 (f := .glo "by_score") rfl)
  have n_by_score := FunD.bindsN (ps := ["scores"]) D_by_score fun _ _ _ _ _ _ us hl => match us, hl with | [_], _ => rfl
  obtain ⟨fd_a_clash, D_a_clash⟩ := c.def_ 4 (d := d_a_clash) rfl
  have m_a_clash := He.glo_ok X G (c.fact 4 (f := .glo "a_clash") rfl)
  have n_a_clash := FunD.bindsN (ps := ["scores"]) D_a_clash fun _ _ _ _ _ _ us hl => match us, hl with | [_], _ => rfl
  obtain ⟨fd_is_score_row, D_is_score_row⟩ := c.def_ 5 (d := d_is_score_row) rfl
  have m_is_score_row := He.glo_ok X G (c.fact 5 (f := .glo "is_score_row") rfl)
  have n_is_score_row := FunD.bindsN (ps := ["scores"]) D_is_score_row fun _ _ _ _ _ _ us hl => match us, hl with | [_], _ => rfl
  obtain ⟨fd_threes_of, D_threes_of⟩ := c.def_ 6 (d := d_threes_of) rfl
  have m_threes_of := He.glo_ok X G (c.fact 6 (f := .glo "threes_of") rfl)
  have n_threes_of := FunD.bindsN (ps := ["scores"]) D_threes_of fun _ _ _ _ _ _ us hl => match us, hl with | [_], _ => rfl
  obtain ⟨fd_rising_rows, D_rising_rows⟩ := c.def_ 7 (d := d_rising_rows) rfl
  have m_rising_rows := He.glo_ok X G (c.fact 7 (f := .glo "rising_rows") rfl)
  have n_rising_rows := FunD.bindsN (ps := ["n"]) D_rising_rows fun _ _ _ _ _ _ us hl => match us, hl with | [_], _ => rfl
  obtain ⟨fd_count_rising, D_count_rising⟩ := c.def_ 8 (d := d_count_rising) rfl
  have m_count_rising := He.glo_ok X G (c.fact 8 (f := .glo "count_rising") rfl)
  have n_count_rising := FunD.bindsN (ps := ["n"]) D_count_rising fun _ _ _ _ _ _ us hl => match us, hl with | [_], _ => rfl
  obtain ⟨fd_is_partition, D_is_partition⟩ := c.def_ 9 (d := d_is_partition) rfl
  have m_is_partition := He.glo_ok X G (c.fact 9 (f := .glo "is_partition") rfl)
  have n_is_partition := FunD.bindsN (ps := ["value"]) D_is_partition fun _ _ _ _ _ _ us hl => match us, hl with | [_], _ => rfl
  obtain ⟨fd_size_of, D_size_of⟩ := c.def_ 10 (d := d_size_of) rfl
  have m_size_of := He.glo_ok X G (c.fact 10 (f := .glo "size_of") rfl)
  have n_size_of := FunD.bindsN (ps := ["partition"]) D_size_of fun _ _ _ _ _ _ us hl => match us, hl with | [_], _ => rfl
  obtain ⟨fd_sorted_down, D_sorted_down⟩ := c.def_ 11 (d := d_sorted_down) rfl
  have m_sorted_down := He.glo_ok X G (c.fact 11 (f := .glo "sorted_down") rfl)
  have n_sorted_down := FunD.bindsN (ps := ["row"]) D_sorted_down fun _ _ _ _ _ _ us hl => match us, hl with | [_], _ => rfl
  obtain ⟨fd_sums_of, D_sums_of⟩ := c.def_ 12 (d := d_sums_of) rfl
  have m_sums_of := He.glo_ok X G (c.fact 12 (f := .glo "sums_of") rfl)
  have n_sums_of := FunD.bindsN (ps := ["partition", "count"]) D_sums_of fun _ _ _ _ _ _ us hl => match us, hl with | [_, _], _ => rfl
  obtain ⟨fd_dominates, D_dominates⟩ := c.def_ 13 (d := d_dominates) rfl
  have m_dominates := He.glo_ok X G (c.fact 13 (f := .glo "dominates") rfl)
  have n_dominates := FunD.bindsN (ps := ["one", "other"]) D_dominates fun _ _ _ _ _ _ us hl => match us, hl with | [_, _], _ => rfl
  obtain ⟨fd_part_at, D_part_at⟩ := c.def_ 14 (d := d_part_at) rfl
  have m_part_at := He.glo_ok X G (c.fact 14 (f := .glo "part_at") rfl)
  have n_part_at := FunD.bindsN (ps := ["partition", "k"]) D_part_at fun _ _ _ _ _ _ us hl => match us, hl with | [_, _], _ => rfl
  obtain ⟨fd_moved, D_moved⟩ := c.def_ 15 (d := d_moved) rfl
  have m_moved := He.glo_ok X G (c.fact 15 (f := .glo "moved") rfl)
  have n_moved := FunD.bindsN (ps := ["partition", "i", "j"]) D_moved fun _ _ _ _ _ _ us hl => match us, hl with | [_, _, _], _ => rfl
  obtain ⟨fd_is_step, D_is_step⟩ := c.def_ 16 (d := d_is_step) rfl
  have m_is_step := He.glo_ok X G (c.fact 16 (f := .glo "is_step") rfl)
  have n_is_step := FunD.bindsN (ps := ["partition", "i", "j"]) D_is_step fun _ _ _ _ _ _ us hl => match us, hl with | [_, _, _], _ => rfl
  obtain ⟨fd_steps_down, D_steps_down⟩ := c.def_ 17 (d := d_steps_down) rfl
  have m_steps_down := He.glo_ok X G (c.fact 17 (f := .glo "steps_down") rfl)
  have n_steps_down := FunD.bindsN (ps := ["partition"]) D_steps_down fun _ _ _ _ _ _ us hl => match us, hl with | [_], _ => rfl
  obtain ⟨fd_is_descent, D_is_descent⟩ := c.def_ 18 (d := d_is_descent) rfl
  have m_is_descent := He.glo_ok X G (c.fact 18 (f := .glo "is_descent") rfl)
  have n_is_descent := FunD.bindsN (ps := ["one", "other", "value"]) D_is_descent fun _ _ _ _ _ _ us hl => match us, hl with | [_, _, _], _ => rfl
  obtain ⟨fd_shortage, D_shortage⟩ := c.def_ 19 (d := d_shortage) rfl
  have m_shortage := He.glo_ok X G (c.fact 19 (f := .glo "shortage") rfl)
  have n_shortage := FunD.bindsN (ps := ["one", "other"]) D_shortage fun _ _ _ _ _ _ us hl => match us, hl with | [_, _], _ => rfl
  obtain ⟨fd_descent, D_descent⟩ := c.def_ 20 (d := d_descent) rfl
  have m_descent := He.glo_ok X G (c.fact 20 (f := .glo "descent") rfl)
  have n_descent := FunD.bindsN (ps := ["one", "other"]) D_descent fun _ _ _ _ _ _ us hl => match us, hl with | [_, _], _ => rfl
  obtain ⟨fd__law_box, D__law_box⟩ := c.def_ 21 (d := d__law_box) rfl
  have m__law_box := He.glo_ok X G (c.fact 21 (f := .glo "_law_box") rfl)
  have n__law_box := FunD.bindsN (ps := ["script"]) D__law_box fun _ _ _ _ _ _ us hl => match us, hl with | [_], _ => rfl
  obtain ⟨fd__law_load, D__law_load⟩ := c.def_ 22 (d := d__law_load) rfl
  have m__law_load := He.glo_ok X G (c.fact 22 (f := .glo "_law_load") rfl)
  have n__law_load := FunD.bindsN (ps := ["box"]) D__law_load fun _ _ _ _ _ _ us hl => match us, hl with | [_], _ => rfl
  obtain ⟨fd__law_draw, D__law_draw⟩ := c.def_ 23 (d := d__law_draw) rfl
  have m__law_draw := He.glo_ok X G (c.fact 23 (f := .glo "_law_draw") rfl)
  have n__law_draw := FunD.bindsN (ps := ["box", "many"]) D__law_draw fun _ _ _ _ _ _ us hl => match us, hl with | [_, _], _ => rfl
  obtain ⟨fd__law_same, D__law_same⟩ := c.def_ 24 (d := d__law_same) rfl
  have m__law_same := He.glo_ok X G (c.fact 24 (f := .glo "_law_same") rfl)
  have n__law_same := FunD.bindsN (ps := ["a", "b"]) D__law_same fun _ _ _ _ _ _ us hl => match us, hl with | [_, _], _ => rfl
  obtain ⟨fd__law_round, D__law_round⟩ := c.def_ 25 (d := d__law_round) rfl
  have m__law_round := He.glo_ok X G (c.fact 25 (f := .glo "_law_round") rfl)
  have n__law_round := FunD.bindsN (ps := ["box", "n"]) D__law_round fun _ _ _ _ _ _ us hl => match us, hl with | [_, _], _ => rfl
  obtain ⟨fd__law_scores, D__law_scores⟩ := c.def_ 26 (d := d__law_scores) rfl
  have m__law_scores := He.glo_ok X G (c.fact 26 (f := .glo "_law_scores") rfl)
  have n__law_scores := FunD.bindsN (ps := ["games"]) D__law_scores fun _ _ _ _ _ _ us hl => match us, hl with | [_], _ => rfl
  obtain ⟨fd__law_partitions, D__law_partitions⟩ := c.def_ 27 (d := d__law_partitions) rfl
  have m__law_partitions := He.glo_ok X G (c.fact 27 (f := .glo "_law_partitions") rfl)
  have n__law_partitions := FunD.bindsN (ps := ["total", "most", "count"]) D__law_partitions fun _ _ _ _ _ _ us hl => match us, hl with | [_, _, _], _ => rfl
  obtain ⟨fd__law_under, D__law_under⟩ := c.def_ 28 (d := d__law_under) rfl
  have m__law_under := He.glo_ok X G (c.fact 28 (f := .glo "_law_under") rfl)
  have n__law_under := FunD.bindsN (ps := ["one", "other"]) D__law_under fun _ _ _ _ _ _ us hl => match us, hl with | [_, _], _ => rfl
  obtain ⟨fd_law, D_law⟩ := c.def_ 29 (d := d_law) rfl
  have e := hfa.symm.trans (He.glo_ok X G (c.fact 29 (f := .glo "law") rfl))
  cases e
  have b := FunD.bindsA (ps := ["script"]) D_law fun _ _ _ _ _ _ us hl => match us, hl with | [_], _ => rfl
  refine ⟨fd_law, fun s v => b s [v] rfl, fun base _ _ hTab => ?_⟩
  have T_by_score : HasTab K mg base (He.fAd K ("by_score", none)) "by_score" := hasTab_of (tf := tf) (st := s_by_score) cx.nd (by decide +kernel) (hTab _ (List.mem_map.mpr ⟨(("by_score", none), "by_score"), by decide +kernel, rfl⟩)) D_by_score
  have K_is_count := ok_is_count (P := P) (w := w) (base := base) D_is_count m_is_count n_is_count B C
  have K_games_of := ok_games_of (P := P) (w := w) (base := base) D_games_of m_games_of n_games_of B C
  have K_is_clash := ok_is_clash (P := P) (w := w) (base := base) D_is_clash m_is_clash n_is_clash K_is_count K_games_of B C
  have K_by_score := ok_by_score (P := P) (w := w) (base := base) D_by_score m_by_score n_by_score T_by_score B C
  have K_a_clash := ok_a_clash (P := P) (w := w) (base := base) D_a_clash m_a_clash n_a_clash K_by_score K_is_clash B C
  have K_is_score_row := ok_is_score_row (P := P) (w := w) (base := base) D_is_score_row m_is_score_row n_is_score_row K_a_clash B C
  have K_threes_of := ok_threes_of (P := P) (w := w) (base := base) D_threes_of m_threes_of n_threes_of K_games_of B C
  have K_rising_rows := ok_rising_rows (P := P) (w := w) (base := base) D_rising_rows m_rising_rows n_rising_rows K_games_of B C
  have K_count_rising := ok_count_rising (P := P) (w := w) (base := base) D_count_rising m_count_rising n_count_rising K_games_of B C
  have K_is_partition := ok_is_partition (P := P) (w := w) (base := base) D_is_partition m_is_partition n_is_partition B C
  have K_size_of := ok_size_of (P := P) (w := w) (base := base) D_size_of m_size_of n_size_of B C
  have K_sorted_down := ok_sorted_down (P := P) (w := w) (base := base) D_sorted_down m_sorted_down n_sorted_down B C
  have K_sums_of := ok_sums_of (P := P) (w := w) (base := base) D_sums_of m_sums_of n_sums_of B C
  have K_dominates := ok_dominates (P := P) (w := w) (base := base) D_dominates m_dominates n_dominates K_size_of K_sums_of B C
  have K_part_at := ok_part_at (P := P) (w := w) (base := base) D_part_at m_part_at n_part_at B C
  have K_moved := ok_moved (P := P) (w := w) (base := base) D_moved m_moved n_moved B C
  have K_is_step := ok_is_step (P := P) (w := w) (base := base) D_is_step m_is_step n_is_step K_part_at B C
  have K_steps_down := ok_steps_down (P := P) (w := w) (base := base) D_steps_down m_steps_down n_steps_down K_moved K_is_step B C
  have K_is_descent := ok_is_descent (P := P) (w := w) (base := base) D_is_descent m_is_descent n_is_descent K_is_partition K_steps_down B C
  have K_shortage := ok_shortage (P := P) (w := w) (base := base) D_shortage m_shortage n_shortage K_sums_of B C
  have K_descent := ok_descent (P := P) (w := w) (base := base) D_descent m_descent n_descent K_shortage K_steps_down K_dominates B C
  have K__law_load := ok__law_load (P := P) (w := w) (base := base) D__law_load m__law_load n__law_load B C
  have K__law_draw := ok__law_draw (P := P) (w := w) (base := base) D__law_draw m__law_draw n__law_draw K__law_load B C
  have K__law_same := ok__law_same (P := P) (w := w) (base := base) D__law_same m__law_same n__law_same B C
  have K__law_round := ok__law_round (P := P) (w := w) (base := base) D__law_round m__law_round n__law_round K__law_draw B C
  have K__law_scores := ok__law_scores (P := P) (w := w) (base := base) D__law_scores m__law_scores n__law_scores B C
  have K__law_partitions := ok__law_partitions (P := P) (w := w) (base := base) D__law_partitions m__law_partitions n__law_partitions B C
  have K__law_under := ok__law_under (P := P) (w := w) (base := base) D__law_under m__law_under n__law_under B C
  exact ok_law D_law (ok__law_box D__law_box B) m__law_box D__law_box.kp n__law_box K__law_draw K__law_scores K__law_round K__law_under K__law_same K_is_score_row K_dominates K_sorted_down K_steps_down K_descent K_is_descent K__law_partitions K_rising_rows K_count_rising K_threes_of B C law_math
end T92
open PySem PySem.W PySem.Calls PyProof.Rows
theorem PySem.Challenge.cw_toldbysums_k92_whole_scores_under_the_st_holds : PySem.Challenge.rw_toldbysums_k92_whole_scores_under_the_st.Holds := by
  w_on; o_law
  refine HandSHeadRun.head_any (r := OpenLaw.row PySem.Challenge.rw_toldbysums_k92_whole_scores_under_the_st) (q := view (OpenLaw.row PySem.Challenge.rw_toldbysums_k92_whole_scores_under_the_st).prog [34]) (H := T92.hk) (ob := T92.ob) (M := 6000) (loose := T92.looseA) (d := HandSHeadRun.topDef (OpenLaw.row PySem.Challenge.rw_toldbysums_k92_whole_scores_under_the_st).prog 34) (kwd := []) T92.ob_eq
    (by kernel_rfl) (fun s => by kernel_rfl) T92.run (by kernel_rfl) (by kernel_rfl) (by kernel_rfl) (by rfl) (by first | assumption | decide +kernel) (by decide +kernel) ⟨rfl, rfl, rfl, rfl, rfl, by decide +kernel⟩ ?hw ?hc
  case hw => w_witness2
  case hc =>
    refine PV.walk_ofTE (l := PySem.Challenge.rw_toldbysums_k92_whole_scores_under_the_st) (n := 63) (k := 21) (x := "script") (CX := L2.CX0) rfl (by decide) (by kernel_rfl) ⟨rfl, by decide, by decide⟩ ?F (fun _ _ _ _ z => z)
    intro w mg fa h Y G hmg0
    obtain ⟨K, KX, c⟩ := Y
    have hmg : mg ("law" : PySem.Str) = some (.ref fa) := by
      have e : (HandSHeadRun.topDef (OpenLaw.row PySem.Challenge.rw_toldbysums_k92_whole_scores_under_the_st).prog 34).name = ("law" : PySem.Str) := by kernel_rfl
      rw [← e]
      exact hmg0
    obtain ⟨fd, hb, hF⟩ := T92.facts (P := (PySem.Challenge.rw_toldbysums_k92_whole_scores_under_the_st).prog) (w := w) KX G hmg c
    have hcs : ∀ p ∈ T92.tf.map (fun p => He.cT K p.1), ∃ q ∈ T92.tf, p = He.cT K q.1 := fun p hp => by
      obtain ⟨q, hq, e⟩ := List.mem_map.mp hp
      exact ⟨q, hq, e.symm⟩
    refine ⟨K, fd, T92.tf.map (fun p => He.cT K p.1), @PV.spLaw (PV.tnK K T92.tf) K, KX, fun p hp => ?_, fun p hp => ?_, fun p hp => ?_, hb, fun H a ns hl hT hS => ⟨a, ns, rfl, hS, hl, PV.tabI_start hT, fun _ => rfl⟩, hF⟩
    · obtain ⟨q, hq, rfl⟩ := hcs p hp
      exact c.empty q hq
    · obtain ⟨q, hq, rfl⟩ := hcs p hp
      exact c.out q hq
    · obtain ⟨q, hq, rfl⟩ := hcs p hp
      exact PySem.W.codeHd_of_K KX (c.hd q hq)

